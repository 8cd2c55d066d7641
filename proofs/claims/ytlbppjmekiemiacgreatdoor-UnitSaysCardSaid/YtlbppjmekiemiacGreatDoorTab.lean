/- The types of the program, checked; its functions by name. No condition. -/
import Derived.Test.YtlbppjmekiemiacGreatDoorVmd
import Derived.Test.YtlbppjmekiemiacGreatDoorChecked
import Derived.KernelRfl
import Derived.WalkKit
namespace Go.Proofs.YtlbppjmekiemiacGreatDoor
open Vm
abbrev RK := List It → St → Prop
abbrev KK := V → List Blk → Prop
abbrev dI (n : Int) : C := .dat Ty.int n
abbrev dB (b : Bool) : C := .dat Ty.bool b
abbrev dL (l : List Int) : C := .dat (Ty.list Ty.int) l
abbrev dLb (l : List Bool) : C := .dat (Ty.list Ty.bool) l
abbrev dM (l : List Message) : C := .dat (Ty.list Ty.message) l
abbrev dR (l : List (List Int)) : C := .dat (Ty.list (Ty.list Ty.int)) l
abbrev vF : V := .one (dB false)
abbrev vT : V := .one (dB true)
noncomputable def tab : Tab := ⟨[
  (3, ⟨1, .int, [.dat Ty.int (0 : Int)], [], [], 0⟩),
  (4, ⟨1, .bool, [.dat Ty.bool false], [], [], 0⟩),
  (9, ⟨1, .str, [.dat Ty.str []], [], [], 0⟩),
  (22, ⟨1, .slice Ty.str 9, [.nil Ty.str], [], [], 16⟩),
  (24, ⟨1, .struct, [.nil Ty.str], [0], [1], 0⟩),
  (25, ⟨1, .slice Ty.int 3, [.nil Ty.int], [], [], 8⟩),
  (27, ⟨2, .struct, [.nil Ty.int, .dat Ty.int (0 : Int)], [0, 1], [1, 1], 0⟩),
  (29, ⟨5, .struct, [.nil Ty.int, .dat Ty.int (0 : Int), .dat Ty.bool false, .dat Ty.int (0 : Int), .dat Ty.int (0 : Int)], [0, 2, 3, 4], [2, 1, 1, 1], 0⟩),
  (31, ⟨7, .struct, [.dat Ty.int (0 : Int), .dat Ty.int (0 : Int), .dat Ty.int (0 : Int), .dat Ty.int (0 : Int), .dat Ty.int (0 : Int), .nil Ty.int, .dat Ty.bool false], [0, 1, 2, 3, 4, 5, 6], [1, 1, 1, 1, 1, 1, 1], 0⟩),
  (33, ⟨1, .slice Ty.message 31, [.nil Ty.message], [], [], 72⟩),
  (34, ⟨1, .int, [.dat Ty.int (0 : Int)], [], [], 0⟩),
  (40, ⟨3, .struct, [.dat Ty.int (0 : Int), .dat Ty.int (0 : Int), .dat Ty.int (0 : Int)], [0, 1, 2], [1, 1, 1], 0⟩),
  (62, ⟨3, .struct, [.dat Ty.int (0 : Int), .nil Ty.int, .dat Ty.int (0 : Int)], [0, 1, 2], [1, 1, 1], 0⟩),
  (64, ⟨4, .struct, [.dat Ty.int (0 : Int), .nil Ty.int, .dat Ty.int (0 : Int), .dat Ty.int (0 : Int)], [0, 3], [3, 1], 0⟩),
  (65, ⟨1, .slice Ty.bool 4, [.nil Ty.bool], [], [], 1⟩),
  (67, ⟨9, .struct, [.nil Ty.int, .dat Ty.int (0 : Int), .dat Ty.bool false, .dat Ty.int (0 : Int), .nil Ty.int, .dat Ty.int (0 : Int), .dat Ty.int (0 : Int), .nil Ty.bool, .nil Ty.bool], [0, 2, 3, 7, 8], [2, 1, 4, 1, 1], 0⟩),
  (68, ⟨1, .slice Ty.target 165, [.nil Ty.target], [], [], 24⟩),
  (70, ⟨3, .struct, [.dat Ty.int (0 : Int), .dat Ty.int (0 : Int), .nil Ty.target], [0, 1, 2], [1, 1, 1], 0⟩),
  (71, ⟨1, .slice (Ty.list Ty.int) 25, [.nil (Ty.list Ty.int)], [], [], 24⟩),
  (73, ⟨5, .struct, [.dat Ty.int (0 : Int), .dat Ty.int (0 : Int), .dat Ty.int (0 : Int), .nil Ty.target, .nil (Ty.list Ty.int)], [0, 1, 4], [1, 3, 1], 0⟩),
  (84, ⟨1, .slice Ty.signed 183, [.nil Ty.signed], [], [], 16⟩),
  (85, ⟨1, .slice Ty.root 62, [.nil Ty.root], [], [], 40⟩),
  (87, ⟨7, .struct, [.nil Ty.root, .nil (Ty.list Ty.int), .dat Ty.int (0 : Int), .dat Ty.int (0 : Int), .nil Ty.target, .nil Ty.int, .nil (Ty.list Ty.int)], [0, 1, 2, 5, 6], [1, 1, 3, 1, 1], 0⟩),
  (93, ⟨5, .struct, [.dat Ty.int (0 : Int), .dat Ty.int (0 : Int), .dat Ty.bool false, .dat Ty.bool false, .dat Ty.bool false], [0, 1, 2, 3, 4], [1, 1, 1, 1, 1], 0⟩),
  (101, ⟨1, .slice Ty.happening 112, [.nil Ty.happening], [], [], 160⟩),
  (102, ⟨1, .slice Ty.unitd 29, [.nil Ty.unitd], [], [], 56⟩),
  (103, ⟨1, .slice Ty.campaign 73, [.nil Ty.campaign], [], [], 72⟩),
  (105, ⟨15, .struct, [.nil Ty.str, .nil Ty.signed, .nil Ty.int, .dat Ty.int (0 : Int), .dat Ty.bool false, .dat Ty.int (0 : Int), .nil Ty.int, .dat Ty.int (0 : Int), .dat Ty.int (0 : Int), .nil Ty.bool, .nil Ty.bool, .nil Ty.unitd, .nil Ty.campaign, .nil Ty.message, .dat Ty.int (0 : Int)], [0, 1, 2, 11, 12, 13, 14], [1, 1, 9, 1, 1, 1, 1], 0⟩),
  (106, ⟨1, .slice Ty.offer 87, [.nil Ty.offer], [], [], 136⟩),
  (112, ⟨10, .struct, [.dat Ty.int (0 : Int), .dat Ty.int (0 : Int), .dat Ty.int (0 : Int), .nil Ty.root, .nil (Ty.list Ty.int), .dat Ty.int (0 : Int), .dat Ty.int (0 : Int), .nil Ty.target, .nil Ty.int, .nil (Ty.list Ty.int)], [0, 1, 2, 3], [1, 1, 1, 7], 0⟩),
  (115, ⟨1, .slice (Ty.list Ty.int) 137, [.nil (Ty.list Ty.int)], [], [], 24⟩),
  (119, ⟨1, .slice Ty.int 34, [.nil Ty.int], [], [], 8⟩),
  (128, ⟨1, .other, [.undef], [], [], 0⟩),
  (137, ⟨1, .slice Ty.int 3, [.nil Ty.int], [], [], 8⟩),
  (144, ⟨1, .other, [.undef], [], [], 0⟩),
  (151, ⟨1, .other, [.undef], [], [], 0⟩),
  (153, ⟨6, .struct, [.nil Ty.int, .dat Ty.int (0 : Int), .dat Ty.bool false, .dat Ty.int (0 : Int), .dat Ty.int (0 : Int), .dat Ty.bool false], [0, 5], [5, 1], 0⟩),
  (154, ⟨1, .other, [.undef], [], [], 0⟩),
  (161, ⟨1, .other, [.undef], [], [], 0⟩),
  (165, ⟨3, .struct, [.dat Ty.int (0 : Int), .dat Ty.int (0 : Int), .dat Ty.int (0 : Int)], [0, 1, 2], [1, 1, 1], 0⟩),
  (168, ⟨1, .other, [.undef], [], [], 0⟩),
  (172, ⟨1, .other, [.undef], [], [], 0⟩),
  (177, ⟨1, .other, [.undef], [], [], 0⟩),
  (178, ⟨1, .other, [.undef], [], [], 0⟩),
  (183, ⟨2, .struct, [.dat Ty.int (0 : Int), .dat Ty.int (0 : Int)], [0, 1], [1, 1], 0⟩),
  (187, ⟨1, .other, [.undef], [], [], 0⟩),
  (191, ⟨1, .other, [.undef], [], [], 0⟩),
  (198, ⟨1, .other, [.undef], [], [], 0⟩),
  (205, ⟨1, .other, [.undef], [], [], 0⟩),
  (209, ⟨1, .other, [.undef], [], [], 0⟩),
  (216, ⟨1, .u64, [.undef], [], [], 0⟩),
  (220, ⟨1, .slice Ty.change 256, [.nil Ty.change], [], [], 16⟩),
  (227, ⟨1, .other, [.undef], [], [], 0⟩),
  (234, ⟨1, .other, [.undef], [], [], 0⟩),
  (256, ⟨2, .struct, [.dat Ty.int (0 : Int), .undef], [0, 1], [1, 1], 0⟩),
  (260, ⟨6, .array 2 3, [.dat Ty.int (0 : Int), .nil Ty.int, .dat Ty.int (0 : Int), .dat Ty.int (0 : Int), .nil Ty.int, .dat Ty.int (0 : Int)], [0, 3], [3, 3], 0⟩),
  (263, ⟨1, .mapib, [.undef], [], [], 0⟩),
  (265, ⟨3, .array 3 1, [.dat Ty.int (0 : Int), .dat Ty.int (0 : Int), .dat Ty.int (0 : Int)], [0, 1, 2], [1, 1, 1], 0⟩),
  (266, ⟨9, .array 3 3, [.dat Ty.int (0 : Int), .dat Ty.int (0 : Int), .dat Ty.int (0 : Int), .dat Ty.int (0 : Int), .dat Ty.int (0 : Int), .dat Ty.int (0 : Int), .dat Ty.int (0 : Int), .dat Ty.int (0 : Int), .dat Ty.int (0 : Int)], [0, 3, 6], [3, 3, 3], 0⟩),
  (271, ⟨1, .slice (Ty.list Ty.change) 220, [.nil (Ty.list Ty.change)], [], [], 24⟩)
  ], 191, 207, [40, 93, 165, 183], true, some 0⟩
-- pow 0 295 20 252

theorem fnw_ok : FnwOk Tryz.prog tab where
  ok0 := ⟨Tryz.f191, Tryz.func191, by kernel_rfl, by kernel_rfl⟩
  ok1 := ⟨Tryz.f207, Tryz.func207, by kernel_rfl, by kernel_rfl⟩
  run0 := fun n w => by
    show Calls Tryz.prog 191 _ _ _
    go_enter Tryz.func191, Tryz.ntmps191
    go_wp2
    go_ret
    exact ⟨rfl, rfl⟩
  run1 := fun n m b w hc => by
    show Calls Tryz.prog 207 _ _ _
    have hc' : w.cell? ⟨b, 0, none⟩ = some (.int .i64 m) := hc
    unfold at0
    go_enter Tryz.func207, Tryz.ntmps207
    go_wp2
    go_ret
    exact ⟨rfl, rfl⟩
theorem tab_ok : TabOk Tryz.prog tab := tabOk_plain (by kernel_rfl) (by kernel_rfl) (fun _ => fnw_ok)
abbrev n_law_UnitSays : Nat := 3
noncomputable abbrev fn_law_UnitSays : Func := Tryz.f3
abbrev n_ref_OwnFlash : Nat := 10
noncomputable abbrev fn_ref_OwnFlash : Func := Tryz.f10
abbrev n_unit_Hear : Nat := 11
noncomputable abbrev fn_unit_Hear : Func := Tryz.f11
abbrev n_unit_New : Nat := 12
noncomputable abbrev fn_unit_New : Func := Tryz.f12
abbrev n_unit_Read : Nat := 13
noncomputable abbrev fn_unit_Read : Func := Tryz.f13
abbrev n_unit_Runs : Nat := 14
noncomputable abbrev fn_unit_Runs : Func := Tryz.f14
abbrev n_unit_Boot : Nat := 15
noncomputable abbrev fn_unit_Boot : Func := Tryz.f15
abbrev n_ref_CheckUnit : Nat := 16
noncomputable abbrev fn_ref_CheckUnit : Func := Tryz.f16
abbrev n_law_united : Nat := 17
noncomputable abbrev fn_law_united : Func := Tryz.f17
abbrev n_unit_Check : Nat := 18
noncomputable abbrev fn_unit_Check : Func := Tryz.f18
abbrev n_unit_CheckMessage : Nat := 19
noncomputable abbrev fn_unit_CheckMessage : Func := Tryz.f19
abbrev n_ref_CheckMessage : Nat := 20
noncomputable abbrev fn_ref_CheckMessage : Func := Tryz.f20
abbrev n_ref_SameUnit : Nat := 21
noncomputable abbrev fn_ref_SameUnit : Func := Tryz.f21
abbrev n_ref_CheckImage : Nat := 22
noncomputable abbrev fn_ref_CheckImage : Func := Tryz.f22
abbrev n_ref_NewUnit : Nat := 23
noncomputable abbrev fn_ref_NewUnit : Func := Tryz.f23
abbrev n_ref_UnitStateOf : Nat := 24
noncomputable abbrev fn_ref_UnitStateOf : Func := Tryz.f24
abbrev n_ref_ImageOf : Nat := 25
noncomputable abbrev fn_ref_ImageOf : Func := Tryz.f25
abbrev n_slices_Equal_Lint : Nat := 26
noncomputable abbrev fn_slices_Equal_Lint : Func := Tryz.f26
abbrev n_ref_CheckBook : Nat := 27
noncomputable abbrev fn_ref_CheckBook : Func := Tryz.f27
abbrev n_ref_UnitHears : Nat := 28
noncomputable abbrev fn_ref_UnitHears : Func := Tryz.f28
abbrev n_ref_SameMessages : Nat := 29
noncomputable abbrev fn_ref_SameMessages : Func := Tryz.f29
abbrev n_log_Records : Nat := 54
noncomputable abbrev fn_log_Records : Func := Tryz.f54
abbrev n_meta_CheckBook : Nat := 59
noncomputable abbrev fn_meta_CheckBook : Func := Tryz.f59
abbrev n_unit_Copy : Nat := 60
noncomputable abbrev fn_unit_Copy : Func := Tryz.f60
abbrev n_unit_of : Nat := 61
noncomputable abbrev fn_unit_of : Func := Tryz.f61
abbrev n_unit_piece : Nat := 62
noncomputable abbrev fn_unit_piece : Func := Tryz.f62
abbrev n_unit_prepare : Nat := 63
noncomputable abbrev fn_unit_prepare : Func := Tryz.f63
abbrev n_unit_decided : Nat := 64
noncomputable abbrev fn_unit_decided : Func := Tryz.f64
abbrev n_meta_CheckImage : Nat := 65
noncomputable abbrev fn_meta_CheckImage : Func := Tryz.f65
abbrev n_flash_New : Nat := 66
noncomputable abbrev fn_flash_New : Func := Tryz.f66
abbrev n_log_Format : Nat := 67
noncomputable abbrev fn_log_Format : Func := Tryz.f67
abbrev n_slot_Fill : Nat := 68
noncomputable abbrev fn_slot_Fill : Func := Tryz.f68
abbrev n_slot_Seal : Nat := 69
noncomputable abbrev fn_slot_Seal : Func := Tryz.f69
abbrev n_log_Append : Nat := 70
noncomputable abbrev fn_log_Append : Func := Tryz.f70
abbrev n_slot_Image : Nat := 71
noncomputable abbrev fn_slot_Image : Func := Tryz.f71
abbrev n_unit_down : Nat := 72
noncomputable abbrev fn_unit_down : Func := Tryz.f72
abbrev n_ref_CheckLog : Nat := 73
noncomputable abbrev fn_ref_CheckLog : Func := Tryz.f73
abbrev n_law_simple : Nat := 74
noncomputable abbrev fn_law_simple : Func := Tryz.f74
abbrev n_log_Check : Nat := 75
noncomputable abbrev fn_log_Check : Func := Tryz.f75
abbrev n_slices_ContainsFunc_Lint : Nat := 76
noncomputable abbrev fn_slices_ContainsFunc_Lint : Func := Tryz.f76
abbrev n_unit_CheckMessage_1 : Nat := 77
noncomputable abbrev fn_unit_CheckMessage_1 : Func := Tryz.f77
abbrev n_ref_allWords : Nat := 78
noncomputable abbrev fn_ref_allWords : Func := Tryz.f78
abbrev n_ref_SameFlash : Nat := 79
noncomputable abbrev fn_ref_SameFlash : Func := Tryz.f79
abbrev n_slices_Repeat_Lint : Nat := 80
noncomputable abbrev fn_slices_Repeat_Lint : Func := Tryz.f80
abbrev n_ref_RecordsOf : Nat := 81
noncomputable abbrev fn_ref_RecordsOf : Func := Tryz.f81
abbrev n_slices_Index_Lstring : Nat := 82
noncomputable abbrev fn_slices_Index_Lstring : Func := Tryz.f82
abbrev n_ref_UnitHears_1 : Nat := 83
noncomputable abbrev fn_ref_UnitHears_1 : Func := Tryz.f83
abbrev n_ref_hands_flash : Nat := 84
noncomputable abbrev fn_ref_hands_flash : Func := Tryz.f84
abbrev n_ref_Cleared : Nat := 85
noncomputable abbrev fn_ref_Cleared : Func := Tryz.f85
abbrev n_ref_Filled : Nat := 86
noncomputable abbrev fn_ref_Filled : Func := Tryz.f86
abbrev n_ref_NameOf : Nat := 87
noncomputable abbrev fn_ref_NameOf : Func := Tryz.f87
abbrev n_ref_ImageText : Nat := 88
noncomputable abbrev fn_ref_ImageText : Func := Tryz.f88
abbrev n_ref_SealedIn : Nat := 89
noncomputable abbrev fn_ref_SealedIn : Func := Tryz.f89
abbrev n_ref_hands_record : Nat := 90
noncomputable abbrev fn_ref_hands_record : Func := Tryz.f90
abbrev n_slices_EqualFunc_LMessage : Nat := 91
noncomputable abbrev fn_slices_EqualFunc_LMessage : Func := Tryz.f91
abbrev n_ref_SameMessages_1 : Nat := 92
noncomputable abbrev fn_ref_SameMessages_1 : Func := Tryz.f92
abbrev n_slices_Clone_Lint : Nat := 96
noncomputable abbrev fn_slices_Clone_Lint : Func := Tryz.f96
abbrev n_meta_ImageText : Nat := 110
noncomputable abbrev fn_meta_ImageText : Func := Tryz.f110
abbrev n_log_live : Nat := 115
noncomputable abbrev fn_log_live : Func := Tryz.f115
abbrev n_log_scan : Nat := 116
noncomputable abbrev fn_log_scan : Func := Tryz.f116
abbrev n_slices_Contains_Lstring : Nat := 121
noncomputable abbrev fn_slices_Contains_Lstring : Func := Tryz.f121
abbrev n_flash_Copy : Nat := 122
noncomputable abbrev fn_flash_Copy : Func := Tryz.f122
abbrev n_unit_state : Nat := 123
noncomputable abbrev fn_unit_state : Func := Tryz.f123
abbrev n_slot_Clear : Nat := 124
noncomputable abbrev fn_slot_Clear : Func := Tryz.f124
abbrev n_unit_change : Nat := 125
noncomputable abbrev fn_unit_change : Func := Tryz.f125
abbrev n_unit_prepare_1 : Nat := 126
noncomputable abbrev fn_unit_prepare_1 : Func := Tryz.f126
abbrev n_slot_Body : Nat := 127
noncomputable abbrev fn_slot_Body : Func := Tryz.f127
abbrev n_meta_ImageName : Nat := 128
noncomputable abbrev fn_meta_ImageName : Func := Tryz.f128
abbrev n_unit_note : Nat := 129
noncomputable abbrev fn_unit_note : Func := Tryz.f129
abbrev n_flash_Check : Nat := 130
noncomputable abbrev fn_flash_Check : Func := Tryz.f130
abbrev n_flash_Wipe : Nat := 131
noncomputable abbrev fn_flash_Wipe : Func := Tryz.f131
abbrev n_flash_Burn : Nat := 132
noncomputable abbrev fn_flash_Burn : Func := Tryz.f132
abbrev n_slot_check : Nat := 133
noncomputable abbrev fn_slot_check : Func := Tryz.f133
abbrev n_flash_Program : Nat := 134
noncomputable abbrev fn_flash_Program : Func := Tryz.f134
abbrev n_slot_begin : Nat := 135
noncomputable abbrev fn_slot_begin : Func := Tryz.f135
abbrev n_log_check : Nat := 136
noncomputable abbrev fn_log_check : Func := Tryz.f136
abbrev n_slices_Clone_LRecord : Nat := 137
noncomputable abbrev fn_slices_Clone_LRecord : Func := Tryz.f137
abbrev n_log_words : Nat := 138
noncomputable abbrev fn_log_words : Func := Tryz.f138
abbrev n_ref_CheckFlash : Nat := 139
noncomputable abbrev fn_ref_CheckFlash : Func := Tryz.f139
abbrev n_ref_counts : Nat := 140
noncomputable abbrev fn_ref_counts : Func := Tryz.f140
abbrev n_slices_IndexFunc_Lint : Nat := 141
noncomputable abbrev fn_slices_IndexFunc_Lint : Func := Tryz.f141
abbrev n_ref_allWords_1 : Nat := 142
noncomputable abbrev fn_ref_allWords_1 : Func := Tryz.f142
abbrev n_ref_IsWord : Nat := 143
noncomputable abbrev fn_ref_IsWord : Func := Tryz.f143
abbrev n_math_bits_Mul : Nat := 144
noncomputable abbrev fn_math_bits_Mul : Func := Tryz.f144
abbrev n_ref_Changed : Nat := 145
noncomputable abbrev fn_ref_Changed : Func := Tryz.f145
abbrev n_ref_erases : Nat := 146
noncomputable abbrev fn_ref_erases : Func := Tryz.f146
abbrev n_ref_Programmed : Nat := 147
noncomputable abbrev fn_ref_Programmed : Func := Tryz.f147
abbrev n_ref_spaced : Nat := 148
noncomputable abbrev fn_ref_spaced : Func := Tryz.f148
abbrev n_ref_Appended : Nat := 149
noncomputable abbrev fn_ref_Appended : Func := Tryz.f149
abbrev n_meta_Name : Nat := 156
noncomputable abbrev fn_meta_Name : Func := Tryz.f156
abbrev n_meta_list : Nat := 164
noncomputable abbrev fn_meta_list : Func := Tryz.f164
abbrev n_strconv_Itoa : Nat := 166
noncomputable abbrev fn_strconv_Itoa : Func := Tryz.f166
abbrev n_slices_Clone_Record : Nat := 180
noncomputable abbrev fn_slices_Clone_Record : Func := Tryz.f180
abbrev n_flash_Read : Nat := 181
noncomputable abbrev fn_flash_Read : Func := Tryz.f181
abbrev n_unit_keep : Nat := 182
noncomputable abbrev fn_unit_keep : Func := Tryz.f182
abbrev n_flash_burn : Nat := 183
noncomputable abbrev fn_flash_burn : Func := Tryz.f183
abbrev n_flash_Program_1 : Nat := 184
noncomputable abbrev fn_flash_Program_1 : Func := Tryz.f184
abbrev n_slices_ContainsFunc_Record : Nat := 185
noncomputable abbrev fn_slices_ContainsFunc_Record : Func := Tryz.f185
abbrev n_log_check_1 : Nat := 186
noncomputable abbrev fn_log_check_1 : Func := Tryz.f186
abbrev n_log_head : Nat := 187
noncomputable abbrev fn_log_head : Func := Tryz.f187
abbrev n_ref_generation : Nat := 188
noncomputable abbrev fn_ref_generation : Func := Tryz.f188
abbrev n_ref_programs : Nat := 192
noncomputable abbrev fn_ref_programs : Func := Tryz.f192
abbrev n_ref_checkRecord : Nat := 193
noncomputable abbrev fn_ref_checkRecord : Func := Tryz.f193
abbrev n_slices_Concat_Lref_change : Nat := 194
noncomputable abbrev fn_slices_Concat_Lref_change : Func := Tryz.f194
abbrev n_strings_Join : Nat := 200
noncomputable abbrev fn_strings_Join : Func := Tryz.f200
abbrev n_slices_IndexFunc_Record : Nat := 206
noncomputable abbrev fn_slices_IndexFunc_Record : Func := Tryz.f206
abbrev n_slices_Grow_Lref_change : Nat := 208
noncomputable abbrev fn_slices_Grow_Lref_change : Func := Tryz.f208
theorem hf_law_UnitSays : Tryz.prog.funcs[n_law_UnitSays]? = some fn_law_UnitSays := Tryz.func3
theorem hB_law_UnitSays : fnB fn_law_UnitSays = true := by kernel_rfl
theorem hf_ref_OwnFlash : Tryz.prog.funcs[n_ref_OwnFlash]? = some fn_ref_OwnFlash := Tryz.func10
theorem hB_ref_OwnFlash : fnB fn_ref_OwnFlash = true := by kernel_rfl
theorem hf_unit_Hear : Tryz.prog.funcs[n_unit_Hear]? = some fn_unit_Hear := Tryz.func11
theorem hB_unit_Hear : fnB fn_unit_Hear = true := by kernel_rfl
theorem hf_unit_New : Tryz.prog.funcs[n_unit_New]? = some fn_unit_New := Tryz.func12
theorem hB_unit_New : fnB fn_unit_New = true := by kernel_rfl
theorem hf_unit_Read : Tryz.prog.funcs[n_unit_Read]? = some fn_unit_Read := Tryz.func13
theorem hB_unit_Read : fnB fn_unit_Read = true := by kernel_rfl
theorem hf_unit_Runs : Tryz.prog.funcs[n_unit_Runs]? = some fn_unit_Runs := Tryz.func14
theorem hB_unit_Runs : fnB fn_unit_Runs = true := by kernel_rfl
theorem hf_unit_Boot : Tryz.prog.funcs[n_unit_Boot]? = some fn_unit_Boot := Tryz.func15
theorem hB_unit_Boot : fnB fn_unit_Boot = true := by kernel_rfl
theorem hf_ref_CheckUnit : Tryz.prog.funcs[n_ref_CheckUnit]? = some fn_ref_CheckUnit := Tryz.func16
theorem hB_ref_CheckUnit : fnB fn_ref_CheckUnit = true := by kernel_rfl
theorem hf_law_united : Tryz.prog.funcs[n_law_united]? = some fn_law_united := Tryz.func17
theorem hB_law_united : fnB fn_law_united = true := by kernel_rfl
theorem hf_unit_Check : Tryz.prog.funcs[n_unit_Check]? = some fn_unit_Check := Tryz.func18
theorem hB_unit_Check : fnB fn_unit_Check = true := by kernel_rfl
theorem hf_unit_CheckMessage : Tryz.prog.funcs[n_unit_CheckMessage]? = some fn_unit_CheckMessage := Tryz.func19
theorem hB_unit_CheckMessage : fnB fn_unit_CheckMessage = true := by kernel_rfl
theorem hf_ref_CheckMessage : Tryz.prog.funcs[n_ref_CheckMessage]? = some fn_ref_CheckMessage := Tryz.func20
theorem hB_ref_CheckMessage : fnB fn_ref_CheckMessage = true := by kernel_rfl
theorem hf_ref_SameUnit : Tryz.prog.funcs[n_ref_SameUnit]? = some fn_ref_SameUnit := Tryz.func21
theorem hB_ref_SameUnit : fnB fn_ref_SameUnit = true := by kernel_rfl
theorem hf_ref_CheckImage : Tryz.prog.funcs[n_ref_CheckImage]? = some fn_ref_CheckImage := Tryz.func22
theorem hB_ref_CheckImage : fnB fn_ref_CheckImage = true := by kernel_rfl
theorem hf_ref_NewUnit : Tryz.prog.funcs[n_ref_NewUnit]? = some fn_ref_NewUnit := Tryz.func23
theorem hB_ref_NewUnit : fnB fn_ref_NewUnit = true := by kernel_rfl
theorem hf_ref_UnitStateOf : Tryz.prog.funcs[n_ref_UnitStateOf]? = some fn_ref_UnitStateOf := Tryz.func24
theorem hB_ref_UnitStateOf : fnB fn_ref_UnitStateOf = true := by kernel_rfl
theorem hf_ref_ImageOf : Tryz.prog.funcs[n_ref_ImageOf]? = some fn_ref_ImageOf := Tryz.func25
theorem hB_ref_ImageOf : fnB fn_ref_ImageOf = true := by kernel_rfl
theorem hf_slices_Equal_Lint : Tryz.prog.funcs[n_slices_Equal_Lint]? = some fn_slices_Equal_Lint := Tryz.func26
theorem hB_slices_Equal_Lint : fnB fn_slices_Equal_Lint = true := by kernel_rfl
theorem hf_ref_CheckBook : Tryz.prog.funcs[n_ref_CheckBook]? = some fn_ref_CheckBook := Tryz.func27
theorem hB_ref_CheckBook : fnB fn_ref_CheckBook = true := by kernel_rfl
theorem hf_ref_UnitHears : Tryz.prog.funcs[n_ref_UnitHears]? = some fn_ref_UnitHears := Tryz.func28
theorem hB_ref_UnitHears : fnB fn_ref_UnitHears = true := by kernel_rfl
theorem hf_ref_SameMessages : Tryz.prog.funcs[n_ref_SameMessages]? = some fn_ref_SameMessages := Tryz.func29
theorem hB_ref_SameMessages : fnB fn_ref_SameMessages = true := by kernel_rfl
theorem hf_log_Records : Tryz.prog.funcs[n_log_Records]? = some fn_log_Records := Tryz.func54
theorem hB_log_Records : fnB fn_log_Records = true := by kernel_rfl
theorem hf_meta_CheckBook : Tryz.prog.funcs[n_meta_CheckBook]? = some fn_meta_CheckBook := Tryz.func59
theorem hB_meta_CheckBook : fnB fn_meta_CheckBook = true := by kernel_rfl
theorem hf_unit_Copy : Tryz.prog.funcs[n_unit_Copy]? = some fn_unit_Copy := Tryz.func60
theorem hB_unit_Copy : fnB fn_unit_Copy = true := by kernel_rfl
theorem hf_unit_of : Tryz.prog.funcs[n_unit_of]? = some fn_unit_of := Tryz.func61
theorem hB_unit_of : fnB fn_unit_of = true := by kernel_rfl
theorem hf_unit_piece : Tryz.prog.funcs[n_unit_piece]? = some fn_unit_piece := Tryz.func62
theorem hB_unit_piece : fnB fn_unit_piece = true := by kernel_rfl
theorem hf_unit_prepare : Tryz.prog.funcs[n_unit_prepare]? = some fn_unit_prepare := Tryz.func63
theorem hB_unit_prepare : fnB fn_unit_prepare = true := by kernel_rfl
theorem hf_unit_decided : Tryz.prog.funcs[n_unit_decided]? = some fn_unit_decided := Tryz.func64
theorem hB_unit_decided : fnB fn_unit_decided = true := by kernel_rfl
theorem hf_meta_CheckImage : Tryz.prog.funcs[n_meta_CheckImage]? = some fn_meta_CheckImage := Tryz.func65
theorem hB_meta_CheckImage : fnB fn_meta_CheckImage = true := by kernel_rfl
theorem hf_flash_New : Tryz.prog.funcs[n_flash_New]? = some fn_flash_New := Tryz.func66
theorem hB_flash_New : fnB fn_flash_New = true := by kernel_rfl
theorem hf_log_Format : Tryz.prog.funcs[n_log_Format]? = some fn_log_Format := Tryz.func67
theorem hB_log_Format : fnB fn_log_Format = true := by kernel_rfl
theorem hf_slot_Fill : Tryz.prog.funcs[n_slot_Fill]? = some fn_slot_Fill := Tryz.func68
theorem hB_slot_Fill : fnB fn_slot_Fill = true := by kernel_rfl
theorem hf_slot_Seal : Tryz.prog.funcs[n_slot_Seal]? = some fn_slot_Seal := Tryz.func69
theorem hB_slot_Seal : fnB fn_slot_Seal = true := by kernel_rfl
theorem hf_log_Append : Tryz.prog.funcs[n_log_Append]? = some fn_log_Append := Tryz.func70
theorem hB_log_Append : fnB fn_log_Append = true := by kernel_rfl
theorem hf_slot_Image : Tryz.prog.funcs[n_slot_Image]? = some fn_slot_Image := Tryz.func71
theorem hB_slot_Image : fnB fn_slot_Image = true := by kernel_rfl
theorem hf_unit_down : Tryz.prog.funcs[n_unit_down]? = some fn_unit_down := Tryz.func72
theorem hB_unit_down : fnB fn_unit_down = true := by kernel_rfl
theorem hf_ref_CheckLog : Tryz.prog.funcs[n_ref_CheckLog]? = some fn_ref_CheckLog := Tryz.func73
theorem hB_ref_CheckLog : fnB fn_ref_CheckLog = true := by kernel_rfl
theorem hf_law_simple : Tryz.prog.funcs[n_law_simple]? = some fn_law_simple := Tryz.func74
theorem hB_law_simple : fnB fn_law_simple = true := by kernel_rfl
theorem hf_log_Check : Tryz.prog.funcs[n_log_Check]? = some fn_log_Check := Tryz.func75
theorem hB_log_Check : fnB fn_log_Check = true := by kernel_rfl
theorem hf_slices_ContainsFunc_Lint : Tryz.prog.funcs[n_slices_ContainsFunc_Lint]? = some fn_slices_ContainsFunc_Lint := Tryz.func76
theorem hB_slices_ContainsFunc_Lint : fnB fn_slices_ContainsFunc_Lint = true := by kernel_rfl
theorem hf_unit_CheckMessage_1 : Tryz.prog.funcs[n_unit_CheckMessage_1]? = some fn_unit_CheckMessage_1 := Tryz.func77
theorem hB_unit_CheckMessage_1 : fnB fn_unit_CheckMessage_1 = true := by kernel_rfl
theorem hf_ref_allWords : Tryz.prog.funcs[n_ref_allWords]? = some fn_ref_allWords := Tryz.func78
theorem hB_ref_allWords : fnB fn_ref_allWords = true := by kernel_rfl
theorem hf_ref_SameFlash : Tryz.prog.funcs[n_ref_SameFlash]? = some fn_ref_SameFlash := Tryz.func79
theorem hB_ref_SameFlash : fnB fn_ref_SameFlash = true := by kernel_rfl
theorem hf_slices_Repeat_Lint : Tryz.prog.funcs[n_slices_Repeat_Lint]? = some fn_slices_Repeat_Lint := Tryz.func80
theorem hB_slices_Repeat_Lint : fnB fn_slices_Repeat_Lint = true := by kernel_rfl
theorem hf_ref_RecordsOf : Tryz.prog.funcs[n_ref_RecordsOf]? = some fn_ref_RecordsOf := Tryz.func81
theorem hB_ref_RecordsOf : fnB fn_ref_RecordsOf = true := by kernel_rfl
theorem hf_slices_Index_Lstring : Tryz.prog.funcs[n_slices_Index_Lstring]? = some fn_slices_Index_Lstring := Tryz.func82
theorem hB_slices_Index_Lstring : fnB fn_slices_Index_Lstring = true := by kernel_rfl
theorem hf_ref_UnitHears_1 : Tryz.prog.funcs[n_ref_UnitHears_1]? = some fn_ref_UnitHears_1 := Tryz.func83
theorem hB_ref_UnitHears_1 : fnB fn_ref_UnitHears_1 = true := by kernel_rfl
theorem hf_ref_hands_flash : Tryz.prog.funcs[n_ref_hands_flash]? = some fn_ref_hands_flash := Tryz.func84
theorem hB_ref_hands_flash : fnB fn_ref_hands_flash = true := by kernel_rfl
theorem hf_ref_Cleared : Tryz.prog.funcs[n_ref_Cleared]? = some fn_ref_Cleared := Tryz.func85
theorem hB_ref_Cleared : fnB fn_ref_Cleared = true := by kernel_rfl
theorem hf_ref_Filled : Tryz.prog.funcs[n_ref_Filled]? = some fn_ref_Filled := Tryz.func86
theorem hB_ref_Filled : fnB fn_ref_Filled = true := by kernel_rfl
theorem hf_ref_NameOf : Tryz.prog.funcs[n_ref_NameOf]? = some fn_ref_NameOf := Tryz.func87
theorem hB_ref_NameOf : fnB fn_ref_NameOf = true := by kernel_rfl
theorem hf_ref_ImageText : Tryz.prog.funcs[n_ref_ImageText]? = some fn_ref_ImageText := Tryz.func88
theorem hB_ref_ImageText : fnB fn_ref_ImageText = true := by kernel_rfl
theorem hf_ref_SealedIn : Tryz.prog.funcs[n_ref_SealedIn]? = some fn_ref_SealedIn := Tryz.func89
theorem hB_ref_SealedIn : fnB fn_ref_SealedIn = true := by kernel_rfl
theorem hf_ref_hands_record : Tryz.prog.funcs[n_ref_hands_record]? = some fn_ref_hands_record := Tryz.func90
theorem hB_ref_hands_record : fnB fn_ref_hands_record = true := by kernel_rfl
theorem hf_slices_EqualFunc_LMessage : Tryz.prog.funcs[n_slices_EqualFunc_LMessage]? = some fn_slices_EqualFunc_LMessage := Tryz.func91
theorem hB_slices_EqualFunc_LMessage : fnB fn_slices_EqualFunc_LMessage = true := by kernel_rfl
theorem hf_ref_SameMessages_1 : Tryz.prog.funcs[n_ref_SameMessages_1]? = some fn_ref_SameMessages_1 := Tryz.func92
theorem hB_ref_SameMessages_1 : fnB fn_ref_SameMessages_1 = true := by kernel_rfl
theorem hf_slices_Clone_Lint : Tryz.prog.funcs[n_slices_Clone_Lint]? = some fn_slices_Clone_Lint := Tryz.func96
theorem hB_slices_Clone_Lint : fnB fn_slices_Clone_Lint = true := by kernel_rfl
theorem hf_meta_ImageText : Tryz.prog.funcs[n_meta_ImageText]? = some fn_meta_ImageText := Tryz.func110
theorem hB_meta_ImageText : fnB fn_meta_ImageText = true := by kernel_rfl
theorem hf_log_live : Tryz.prog.funcs[n_log_live]? = some fn_log_live := Tryz.func115
theorem hB_log_live : fnB fn_log_live = true := by kernel_rfl
theorem hf_log_scan : Tryz.prog.funcs[n_log_scan]? = some fn_log_scan := Tryz.func116
theorem hB_log_scan : fnB fn_log_scan = true := by kernel_rfl
theorem hf_slices_Contains_Lstring : Tryz.prog.funcs[n_slices_Contains_Lstring]? = some fn_slices_Contains_Lstring := Tryz.func121
theorem hB_slices_Contains_Lstring : fnB fn_slices_Contains_Lstring = true := by kernel_rfl
theorem hf_flash_Copy : Tryz.prog.funcs[n_flash_Copy]? = some fn_flash_Copy := Tryz.func122
theorem hB_flash_Copy : fnB fn_flash_Copy = true := by kernel_rfl
theorem hf_unit_state : Tryz.prog.funcs[n_unit_state]? = some fn_unit_state := Tryz.func123
theorem hB_unit_state : fnB fn_unit_state = true := by kernel_rfl
theorem hf_slot_Clear : Tryz.prog.funcs[n_slot_Clear]? = some fn_slot_Clear := Tryz.func124
theorem hB_slot_Clear : fnB fn_slot_Clear = true := by kernel_rfl
theorem hf_unit_change : Tryz.prog.funcs[n_unit_change]? = some fn_unit_change := Tryz.func125
theorem hB_unit_change : fnB fn_unit_change = true := by kernel_rfl
theorem hf_unit_prepare_1 : Tryz.prog.funcs[n_unit_prepare_1]? = some fn_unit_prepare_1 := Tryz.func126
theorem hB_unit_prepare_1 : fnB fn_unit_prepare_1 = true := by kernel_rfl
theorem hf_slot_Body : Tryz.prog.funcs[n_slot_Body]? = some fn_slot_Body := Tryz.func127
theorem hB_slot_Body : fnB fn_slot_Body = true := by kernel_rfl
theorem hf_meta_ImageName : Tryz.prog.funcs[n_meta_ImageName]? = some fn_meta_ImageName := Tryz.func128
theorem hB_meta_ImageName : fnB fn_meta_ImageName = true := by kernel_rfl
theorem hf_unit_note : Tryz.prog.funcs[n_unit_note]? = some fn_unit_note := Tryz.func129
theorem hB_unit_note : fnB fn_unit_note = true := by kernel_rfl
theorem hf_flash_Check : Tryz.prog.funcs[n_flash_Check]? = some fn_flash_Check := Tryz.func130
theorem hB_flash_Check : fnB fn_flash_Check = true := by kernel_rfl
theorem hf_flash_Wipe : Tryz.prog.funcs[n_flash_Wipe]? = some fn_flash_Wipe := Tryz.func131
theorem hB_flash_Wipe : fnB fn_flash_Wipe = true := by kernel_rfl
theorem hf_flash_Burn : Tryz.prog.funcs[n_flash_Burn]? = some fn_flash_Burn := Tryz.func132
theorem hB_flash_Burn : fnB fn_flash_Burn = true := by kernel_rfl
theorem hf_slot_check : Tryz.prog.funcs[n_slot_check]? = some fn_slot_check := Tryz.func133
theorem hB_slot_check : fnB fn_slot_check = true := by kernel_rfl
theorem hf_flash_Program : Tryz.prog.funcs[n_flash_Program]? = some fn_flash_Program := Tryz.func134
theorem hB_flash_Program : fnB fn_flash_Program = true := by kernel_rfl
theorem hf_slot_begin : Tryz.prog.funcs[n_slot_begin]? = some fn_slot_begin := Tryz.func135
theorem hB_slot_begin : fnB fn_slot_begin = true := by kernel_rfl
theorem hf_log_check : Tryz.prog.funcs[n_log_check]? = some fn_log_check := Tryz.func136
theorem hB_log_check : fnB fn_log_check = true := by kernel_rfl
theorem hf_slices_Clone_LRecord : Tryz.prog.funcs[n_slices_Clone_LRecord]? = some fn_slices_Clone_LRecord := Tryz.func137
theorem hB_slices_Clone_LRecord : fnB fn_slices_Clone_LRecord = true := by kernel_rfl
theorem hf_log_words : Tryz.prog.funcs[n_log_words]? = some fn_log_words := Tryz.func138
theorem hB_log_words : fnB fn_log_words = true := by kernel_rfl
theorem hf_ref_CheckFlash : Tryz.prog.funcs[n_ref_CheckFlash]? = some fn_ref_CheckFlash := Tryz.func139
theorem hB_ref_CheckFlash : fnB fn_ref_CheckFlash = true := by kernel_rfl
theorem hf_ref_counts : Tryz.prog.funcs[n_ref_counts]? = some fn_ref_counts := Tryz.func140
theorem hB_ref_counts : fnB fn_ref_counts = true := by kernel_rfl
theorem hf_slices_IndexFunc_Lint : Tryz.prog.funcs[n_slices_IndexFunc_Lint]? = some fn_slices_IndexFunc_Lint := Tryz.func141
theorem hB_slices_IndexFunc_Lint : fnB fn_slices_IndexFunc_Lint = true := by kernel_rfl
theorem hf_ref_allWords_1 : Tryz.prog.funcs[n_ref_allWords_1]? = some fn_ref_allWords_1 := Tryz.func142
theorem hB_ref_allWords_1 : fnB fn_ref_allWords_1 = true := by kernel_rfl
theorem hf_ref_IsWord : Tryz.prog.funcs[n_ref_IsWord]? = some fn_ref_IsWord := Tryz.func143
theorem hB_ref_IsWord : fnB fn_ref_IsWord = true := by kernel_rfl
theorem hf_math_bits_Mul : Tryz.prog.funcs[n_math_bits_Mul]? = some fn_math_bits_Mul := Tryz.func144
theorem hB_math_bits_Mul : fnB fn_math_bits_Mul = true := by kernel_rfl
theorem hf_ref_Changed : Tryz.prog.funcs[n_ref_Changed]? = some fn_ref_Changed := Tryz.func145
theorem hB_ref_Changed : fnB fn_ref_Changed = true := by kernel_rfl
theorem hf_ref_erases : Tryz.prog.funcs[n_ref_erases]? = some fn_ref_erases := Tryz.func146
theorem hB_ref_erases : fnB fn_ref_erases = true := by kernel_rfl
theorem hf_ref_Programmed : Tryz.prog.funcs[n_ref_Programmed]? = some fn_ref_Programmed := Tryz.func147
theorem hB_ref_Programmed : fnB fn_ref_Programmed = true := by kernel_rfl
theorem hf_ref_spaced : Tryz.prog.funcs[n_ref_spaced]? = some fn_ref_spaced := Tryz.func148
theorem hB_ref_spaced : fnB fn_ref_spaced = true := by kernel_rfl
theorem hf_ref_Appended : Tryz.prog.funcs[n_ref_Appended]? = some fn_ref_Appended := Tryz.func149
theorem hB_ref_Appended : fnB fn_ref_Appended = true := by kernel_rfl
theorem hf_meta_Name : Tryz.prog.funcs[n_meta_Name]? = some fn_meta_Name := Tryz.func156
theorem hB_meta_Name : fnB fn_meta_Name = true := by kernel_rfl
theorem hf_meta_list : Tryz.prog.funcs[n_meta_list]? = some fn_meta_list := Tryz.func164
theorem hB_meta_list : fnB fn_meta_list = true := by kernel_rfl
theorem hf_strconv_Itoa : Tryz.prog.funcs[n_strconv_Itoa]? = some fn_strconv_Itoa := Tryz.func166
theorem hB_strconv_Itoa : fnB fn_strconv_Itoa = true := by kernel_rfl
theorem hf_slices_Clone_Record : Tryz.prog.funcs[n_slices_Clone_Record]? = some fn_slices_Clone_Record := Tryz.func180
theorem hB_slices_Clone_Record : fnB fn_slices_Clone_Record = true := by kernel_rfl
theorem hf_flash_Read : Tryz.prog.funcs[n_flash_Read]? = some fn_flash_Read := Tryz.func181
theorem hB_flash_Read : fnB fn_flash_Read = true := by kernel_rfl
theorem hf_unit_keep : Tryz.prog.funcs[n_unit_keep]? = some fn_unit_keep := Tryz.func182
theorem hB_unit_keep : fnB fn_unit_keep = true := by kernel_rfl
theorem hf_flash_burn : Tryz.prog.funcs[n_flash_burn]? = some fn_flash_burn := Tryz.func183
theorem hB_flash_burn : fnB fn_flash_burn = true := by kernel_rfl
theorem hf_flash_Program_1 : Tryz.prog.funcs[n_flash_Program_1]? = some fn_flash_Program_1 := Tryz.func184
theorem hB_flash_Program_1 : fnB fn_flash_Program_1 = true := by kernel_rfl
theorem hf_slices_ContainsFunc_Record : Tryz.prog.funcs[n_slices_ContainsFunc_Record]? = some fn_slices_ContainsFunc_Record := Tryz.func185
theorem hB_slices_ContainsFunc_Record : fnB fn_slices_ContainsFunc_Record = true := by kernel_rfl
theorem hf_log_check_1 : Tryz.prog.funcs[n_log_check_1]? = some fn_log_check_1 := Tryz.func186
theorem hB_log_check_1 : fnB fn_log_check_1 = true := by kernel_rfl
theorem hf_log_head : Tryz.prog.funcs[n_log_head]? = some fn_log_head := Tryz.func187
theorem hB_log_head : fnB fn_log_head = true := by kernel_rfl
theorem hf_ref_generation : Tryz.prog.funcs[n_ref_generation]? = some fn_ref_generation := Tryz.func188
theorem hB_ref_generation : fnB fn_ref_generation = true := by kernel_rfl
theorem hf_ref_programs : Tryz.prog.funcs[n_ref_programs]? = some fn_ref_programs := Tryz.func192
theorem hB_ref_programs : fnB fn_ref_programs = true := by kernel_rfl
theorem hf_ref_checkRecord : Tryz.prog.funcs[n_ref_checkRecord]? = some fn_ref_checkRecord := Tryz.func193
theorem hB_ref_checkRecord : fnB fn_ref_checkRecord = true := by kernel_rfl
theorem hf_slices_Concat_Lref_change : Tryz.prog.funcs[n_slices_Concat_Lref_change]? = some fn_slices_Concat_Lref_change := Tryz.func194
theorem hB_slices_Concat_Lref_change : fnB fn_slices_Concat_Lref_change = true := by kernel_rfl
theorem hf_strings_Join : Tryz.prog.funcs[n_strings_Join]? = some fn_strings_Join := Tryz.func200
theorem hB_strings_Join : fnB fn_strings_Join = true := by kernel_rfl
theorem hf_slices_IndexFunc_Record : Tryz.prog.funcs[n_slices_IndexFunc_Record]? = some fn_slices_IndexFunc_Record := Tryz.func206
theorem hB_slices_IndexFunc_Record : fnB fn_slices_IndexFunc_Record = true := by kernel_rfl
theorem hf_slices_Grow_Lref_change : Tryz.prog.funcs[n_slices_Grow_Lref_change]? = some fn_slices_Grow_Lref_change := Tryz.func208
theorem hB_slices_Grow_Lref_change : fnB fn_slices_Grow_Lref_change = true := by kernel_rfl
theorem ok_nil : Ok Tryz.prog tab [] := Ok.nil tab_ok (by kernel_rfl)
end Go.Proofs.YtlbppjmekiemiacGreatDoor
