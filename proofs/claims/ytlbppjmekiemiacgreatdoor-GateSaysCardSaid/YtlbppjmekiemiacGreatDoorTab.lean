/- The types of the program, checked; its functions by name. No condition. -/
import Derived.Test.YtlbppjmekiemiacGreatDoorVmd
import Derived.Test.YtlbppjmekiemiacGreatDoorChecked
import Derived.KernelRfl
import Derived.WalkKit
namespace Go.Proofs.YtlbppjmekiemiacGreatDoor
open Vm
abbrev RK := List It → St → Prop
abbrev KK := V → List Blk → Prop
abbrev dI (n : Int) : C := .dat Ty.int n
abbrev dB (b : Bool) : C := .dat Ty.bool b
abbrev dL (l : List Int) : C := .dat (Ty.list Ty.int) l
abbrev dLb (l : List Bool) : C := .dat (Ty.list Ty.bool) l
abbrev dM (l : List Message) : C := .dat (Ty.list Ty.message) l
abbrev dR (l : List (List Int)) : C := .dat (Ty.list (Ty.list Ty.int)) l
abbrev vF : V := .one (dB false)
abbrev vT : V := .one (dB true)
noncomputable def tab : Tab := ⟨[
  (3, ⟨1, .int, [.dat Ty.int (0 : Int)], [], [], 0⟩),
  (4, ⟨1, .bool, [.dat Ty.bool false], [], [], 0⟩),
  (9, ⟨1, .str, [.dat Ty.str []], [], [], 0⟩),
  (22, ⟨1, .slice Ty.str 9, [.nil Ty.str], [], [], 16⟩),
  (24, ⟨1, .struct, [.nil Ty.str], [0], [1], 0⟩),
  (25, ⟨1, .slice Ty.int 3, [.nil Ty.int], [], [], 8⟩),
  (27, ⟨2, .struct, [.nil Ty.int, .dat Ty.int (0 : Int)], [0, 1], [1, 1], 0⟩),
  (29, ⟨5, .struct, [.nil Ty.int, .dat Ty.int (0 : Int), .dat Ty.bool false, .dat Ty.int (0 : Int), .dat Ty.int (0 : Int)], [0, 2, 3, 4], [2, 1, 1, 1], 0⟩),
  (31, ⟨7, .struct, [.dat Ty.int (0 : Int), .dat Ty.int (0 : Int), .dat Ty.int (0 : Int), .dat Ty.int (0 : Int), .dat Ty.int (0 : Int), .nil Ty.int, .dat Ty.bool false], [0, 1, 2, 3, 4, 5, 6], [1, 1, 1, 1, 1, 1, 1], 0⟩),
  (33, ⟨1, .slice Ty.message 31, [.nil Ty.message], [], [], 72⟩),
  (34, ⟨1, .int, [.dat Ty.int (0 : Int)], [], [], 0⟩),
  (40, ⟨3, .struct, [.dat Ty.int (0 : Int), .dat Ty.int (0 : Int), .dat Ty.int (0 : Int)], [0, 1, 2], [1, 1, 1], 0⟩),
  (62, ⟨3, .struct, [.dat Ty.int (0 : Int), .nil Ty.int, .dat Ty.int (0 : Int)], [0, 1, 2], [1, 1, 1], 0⟩),
  (64, ⟨4, .struct, [.dat Ty.int (0 : Int), .nil Ty.int, .dat Ty.int (0 : Int), .dat Ty.int (0 : Int)], [0, 3], [3, 1], 0⟩),
  (65, ⟨1, .slice Ty.bool 4, [.nil Ty.bool], [], [], 1⟩),
  (67, ⟨9, .struct, [.nil Ty.int, .dat Ty.int (0 : Int), .dat Ty.bool false, .dat Ty.int (0 : Int), .nil Ty.int, .dat Ty.int (0 : Int), .dat Ty.int (0 : Int), .nil Ty.bool, .nil Ty.bool], [0, 2, 3, 7, 8], [2, 1, 4, 1, 1], 0⟩),
  (68, ⟨1, .slice Ty.target 165, [.nil Ty.target], [], [], 24⟩),
  (70, ⟨3, .struct, [.dat Ty.int (0 : Int), .dat Ty.int (0 : Int), .nil Ty.target], [0, 1, 2], [1, 1, 1], 0⟩),
  (71, ⟨1, .slice (Ty.list Ty.int) 25, [.nil (Ty.list Ty.int)], [], [], 24⟩),
  (73, ⟨5, .struct, [.dat Ty.int (0 : Int), .dat Ty.int (0 : Int), .dat Ty.int (0 : Int), .nil Ty.target, .nil (Ty.list Ty.int)], [0, 1, 4], [1, 3, 1], 0⟩),
  (84, ⟨1, .slice Ty.signed 183, [.nil Ty.signed], [], [], 16⟩),
  (85, ⟨1, .slice Ty.root 62, [.nil Ty.root], [], [], 40⟩),
  (87, ⟨7, .struct, [.nil Ty.root, .nil (Ty.list Ty.int), .dat Ty.int (0 : Int), .dat Ty.int (0 : Int), .nil Ty.target, .nil Ty.int, .nil (Ty.list Ty.int)], [0, 1, 2, 5, 6], [1, 1, 3, 1, 1], 0⟩),
  (93, ⟨5, .struct, [.dat Ty.int (0 : Int), .dat Ty.int (0 : Int), .dat Ty.bool false, .dat Ty.bool false, .dat Ty.bool false], [0, 1, 2, 3, 4], [1, 1, 1, 1, 1], 0⟩),
  (101, ⟨1, .slice Ty.happening 112, [.nil Ty.happening], [], [], 160⟩),
  (102, ⟨1, .slice Ty.unitd 29, [.nil Ty.unitd], [], [], 56⟩),
  (103, ⟨1, .slice Ty.campaign 73, [.nil Ty.campaign], [], [], 72⟩),
  (105, ⟨15, .struct, [.nil Ty.str, .nil Ty.signed, .nil Ty.int, .dat Ty.int (0 : Int), .dat Ty.bool false, .dat Ty.int (0 : Int), .nil Ty.int, .dat Ty.int (0 : Int), .dat Ty.int (0 : Int), .nil Ty.bool, .nil Ty.bool, .nil Ty.unitd, .nil Ty.campaign, .nil Ty.message, .dat Ty.int (0 : Int)], [0, 1, 2, 11, 12, 13, 14], [1, 1, 9, 1, 1, 1, 1], 0⟩),
  (106, ⟨1, .slice Ty.offer 87, [.nil Ty.offer], [], [], 136⟩),
  (112, ⟨10, .struct, [.dat Ty.int (0 : Int), .dat Ty.int (0 : Int), .dat Ty.int (0 : Int), .nil Ty.root, .nil (Ty.list Ty.int), .dat Ty.int (0 : Int), .dat Ty.int (0 : Int), .nil Ty.target, .nil Ty.int, .nil (Ty.list Ty.int)], [0, 1, 2, 3], [1, 1, 1, 7], 0⟩),
  (115, ⟨1, .slice (Ty.list Ty.int) 137, [.nil (Ty.list Ty.int)], [], [], 24⟩),
  (119, ⟨1, .slice Ty.int 34, [.nil Ty.int], [], [], 8⟩),
  (128, ⟨1, .other, [.undef], [], [], 0⟩),
  (137, ⟨1, .slice Ty.int 3, [.nil Ty.int], [], [], 8⟩),
  (144, ⟨1, .other, [.undef], [], [], 0⟩),
  (151, ⟨1, .other, [.undef], [], [], 0⟩),
  (153, ⟨6, .struct, [.nil Ty.int, .dat Ty.int (0 : Int), .dat Ty.bool false, .dat Ty.int (0 : Int), .dat Ty.int (0 : Int), .dat Ty.bool false], [0, 5], [5, 1], 0⟩),
  (154, ⟨1, .other, [.undef], [], [], 0⟩),
  (161, ⟨1, .other, [.undef], [], [], 0⟩),
  (165, ⟨3, .struct, [.dat Ty.int (0 : Int), .dat Ty.int (0 : Int), .dat Ty.int (0 : Int)], [0, 1, 2], [1, 1, 1], 0⟩),
  (168, ⟨1, .other, [.undef], [], [], 0⟩),
  (172, ⟨1, .other, [.undef], [], [], 0⟩),
  (177, ⟨1, .other, [.undef], [], [], 0⟩),
  (178, ⟨1, .other, [.undef], [], [], 0⟩),
  (183, ⟨2, .struct, [.dat Ty.int (0 : Int), .dat Ty.int (0 : Int)], [0, 1], [1, 1], 0⟩),
  (187, ⟨1, .other, [.undef], [], [], 0⟩),
  (191, ⟨1, .other, [.undef], [], [], 0⟩),
  (198, ⟨1, .other, [.undef], [], [], 0⟩),
  (205, ⟨1, .other, [.undef], [], [], 0⟩),
  (209, ⟨1, .other, [.undef], [], [], 0⟩),
  (216, ⟨1, .u64, [.undef], [], [], 0⟩),
  (220, ⟨1, .slice Ty.change 256, [.nil Ty.change], [], [], 16⟩),
  (227, ⟨1, .other, [.undef], [], [], 0⟩),
  (234, ⟨1, .other, [.undef], [], [], 0⟩),
  (256, ⟨2, .struct, [.dat Ty.int (0 : Int), .undef], [0, 1], [1, 1], 0⟩),
  (260, ⟨6, .array 2 3, [.dat Ty.int (0 : Int), .nil Ty.int, .dat Ty.int (0 : Int), .dat Ty.int (0 : Int), .nil Ty.int, .dat Ty.int (0 : Int)], [0, 3], [3, 3], 0⟩),
  (263, ⟨1, .mapib, [.undef], [], [], 0⟩),
  (265, ⟨3, .array 3 1, [.dat Ty.int (0 : Int), .dat Ty.int (0 : Int), .dat Ty.int (0 : Int)], [0, 1, 2], [1, 1, 1], 0⟩),
  (266, ⟨9, .array 3 3, [.dat Ty.int (0 : Int), .dat Ty.int (0 : Int), .dat Ty.int (0 : Int), .dat Ty.int (0 : Int), .dat Ty.int (0 : Int), .dat Ty.int (0 : Int), .dat Ty.int (0 : Int), .dat Ty.int (0 : Int), .dat Ty.int (0 : Int)], [0, 3, 6], [3, 3, 3], 0⟩),
  (271, ⟨1, .slice (Ty.list Ty.change) 220, [.nil (Ty.list Ty.change)], [], [], 24⟩)
  ], 191, 207, [40, 93, 165, 183], true, some 0⟩
-- pow 0 295 20 252

theorem fnw_ok : FnwOk Tryz.prog tab where
  ok0 := ⟨Tryz.f191, Tryz.func191, by kernel_rfl, by kernel_rfl⟩
  ok1 := ⟨Tryz.f207, Tryz.func207, by kernel_rfl, by kernel_rfl⟩
  run0 := fun n w => by
    show Calls Tryz.prog 191 _ _ _
    go_enter Tryz.func191, Tryz.ntmps191
    go_wp2
    go_ret
    exact ⟨rfl, rfl⟩
  run1 := fun n m b w hc => by
    show Calls Tryz.prog 207 _ _ _
    have hc' : w.cell? ⟨b, 0, none⟩ = some (.int .i64 m) := hc
    unfold at0
    go_enter Tryz.func207, Tryz.ntmps207
    go_wp2
    go_ret
    exact ⟨rfl, rfl⟩
theorem tab_ok : TabOk Tryz.prog tab := tabOk_plain (by kernel_rfl) (by kernel_rfl) (fun _ => fnw_ok)
abbrev n_law_GateSays : Nat := 5
noncomputable abbrev fn_law_GateSays : Func := Tryz.f5
abbrev n_ref_OwnFlash : Nat := 10
noncomputable abbrev fn_ref_OwnFlash : Func := Tryz.f10
abbrev n_ref_CheckImage : Nat := 22
noncomputable abbrev fn_ref_CheckImage : Func := Tryz.f22
abbrev n_slices_Equal_Lint : Nat := 26
noncomputable abbrev fn_slices_Equal_Lint : Func := Tryz.f26
abbrev n_ref_CheckBook : Nat := 27
noncomputable abbrev fn_ref_CheckBook : Func := Tryz.f27
abbrev n_ref_OwnGate : Nat := 30
noncomputable abbrev fn_ref_OwnGate : Func := Tryz.f30
abbrev n_gate_Due : Nat := 31
noncomputable abbrev fn_gate_Due : Func := Tryz.f31
abbrev n_gate_Hear : Nat := 32
noncomputable abbrev fn_gate_Hear : Func := Tryz.f32
abbrev n_ref_CheckGate : Nat := 33
noncomputable abbrev fn_ref_CheckGate : Func := Tryz.f33
abbrev n_law_gated : Nat := 34
noncomputable abbrev fn_law_gated : Func := Tryz.f34
abbrev n_ref_SameGate : Nat := 35
noncomputable abbrev fn_ref_SameGate : Func := Tryz.f35
abbrev n_gate_Begin : Nat := 38
noncomputable abbrev fn_gate_Begin : Func := Tryz.f38
abbrev n_gate_GiveUp : Nat := 39
noncomputable abbrev fn_gate_GiveUp : Func := Tryz.f39
abbrev n_gate_Boot : Nat := 40
noncomputable abbrev fn_gate_Boot : Func := Tryz.f40
abbrev n_gate_Read : Nat := 41
noncomputable abbrev fn_gate_Read : Func := Tryz.f41
abbrev n_gate_New : Nat := 42
noncomputable abbrev fn_gate_New : Func := Tryz.f42
abbrev n_gate_Check : Nat := 43
noncomputable abbrev fn_gate_Check : Func := Tryz.f43
abbrev n_ref_CheckRoot : Nat := 44
noncomputable abbrev fn_ref_CheckRoot : Func := Tryz.f44
abbrev n_ref_NewGate : Nat := 45
noncomputable abbrev fn_ref_NewGate : Func := Tryz.f45
abbrev n_ref_GateBegins : Nat := 46
noncomputable abbrev fn_ref_GateBegins : Func := Tryz.f46
abbrev n_ref_GateGivesUp : Nat := 47
noncomputable abbrev fn_ref_GateGivesUp : Func := Tryz.f47
abbrev n_ref_GateStateOf : Nat := 48
noncomputable abbrev fn_ref_GateStateOf : Func := Tryz.f48
abbrev n_log_Records : Nat := 54
noncomputable abbrev fn_log_Records : Func := Tryz.f54
abbrev n_slices_Contains_Lint : Nat := 58
noncomputable abbrev fn_slices_Contains_Lint : Func := Tryz.f58
abbrev n_meta_CheckBook : Nat := 59
noncomputable abbrev fn_meta_CheckBook : Func := Tryz.f59
abbrev n_meta_CheckImage : Nat := 65
noncomputable abbrev fn_meta_CheckImage : Func := Tryz.f65
abbrev n_flash_New : Nat := 66
noncomputable abbrev fn_flash_New : Func := Tryz.f66
abbrev n_log_Format : Nat := 67
noncomputable abbrev fn_log_Format : Func := Tryz.f67
abbrev n_log_Append : Nat := 70
noncomputable abbrev fn_log_Append : Func := Tryz.f70
abbrev n_ref_CheckLog : Nat := 73
noncomputable abbrev fn_ref_CheckLog : Func := Tryz.f73
abbrev n_law_simple : Nat := 74
noncomputable abbrev fn_law_simple : Func := Tryz.f74
abbrev n_log_Check : Nat := 75
noncomputable abbrev fn_log_Check : Func := Tryz.f75
abbrev n_slices_ContainsFunc_Lint : Nat := 76
noncomputable abbrev fn_slices_ContainsFunc_Lint : Func := Tryz.f76
abbrev n_unit_CheckMessage_1 : Nat := 77
noncomputable abbrev fn_unit_CheckMessage_1 : Func := Tryz.f77
abbrev n_ref_allWords : Nat := 78
noncomputable abbrev fn_ref_allWords : Func := Tryz.f78
abbrev n_ref_SameFlash : Nat := 79
noncomputable abbrev fn_ref_SameFlash : Func := Tryz.f79
abbrev n_slices_Repeat_Lint : Nat := 80
noncomputable abbrev fn_slices_Repeat_Lint : Func := Tryz.f80
abbrev n_ref_RecordsOf : Nat := 81
noncomputable abbrev fn_ref_RecordsOf : Func := Tryz.f81
abbrev n_slices_Index_Lstring : Nat := 82
noncomputable abbrev fn_slices_Index_Lstring : Func := Tryz.f82
abbrev n_ref_NameOf : Nat := 87
noncomputable abbrev fn_ref_NameOf : Func := Tryz.f87
abbrev n_ref_ImageText : Nat := 88
noncomputable abbrev fn_ref_ImageText : Func := Tryz.f88
abbrev n_gate_up : Nat := 93
noncomputable abbrev fn_gate_up : Func := Tryz.f93
abbrev n_gate_of : Nat := 94
noncomputable abbrev fn_gate_of : Func := Tryz.f94
abbrev n_gate_decision : Nat := 95
noncomputable abbrev fn_gate_decision : Func := Tryz.f95
abbrev n_slices_Clone_Lint : Nat := 96
noncomputable abbrev fn_slices_Clone_Lint : Func := Tryz.f96
abbrev n_gate_Copy : Nat := 97
noncomputable abbrev fn_gate_Copy : Func := Tryz.f97
abbrev n_slices_Contains_Lbool : Nat := 98
noncomputable abbrev fn_slices_Contains_Lbool : Func := Tryz.f98
abbrev n_gate_note : Nat := 99
noncomputable abbrev fn_gate_note : Func := Tryz.f99
abbrev n_ref_CheckTrust : Nat := 100
noncomputable abbrev fn_ref_CheckTrust : Func := Tryz.f100
abbrev n_ref_SameTrust : Nat := 101
noncomputable abbrev fn_ref_SameTrust : Func := Tryz.f101
abbrev n_slices_Equal_Lbool : Nat := 102
noncomputable abbrev fn_slices_Equal_Lbool : Func := Tryz.f102
abbrev n_ref_noted : Nat := 103
noncomputable abbrev fn_ref_noted : Func := Tryz.f103
abbrev n_trust_Take : Nat := 104
noncomputable abbrev fn_trust_Take : Func := Tryz.f104
abbrev n_gate_forget : Nat := 105
noncomputable abbrev fn_gate_forget : Func := Tryz.f105
abbrev n_trust_CheckTrust : Nat := 106
noncomputable abbrev fn_trust_CheckTrust : Func := Tryz.f106
abbrev n_ref_Taken : Nat := 107
noncomputable abbrev fn_ref_Taken : Func := Tryz.f107
abbrev n_meta_ImageText : Nat := 110
noncomputable abbrev fn_meta_ImageText : Func := Tryz.f110
abbrev n_meta_ReleaseText : Nat := 111
noncomputable abbrev fn_meta_ReleaseText : Func := Tryz.f111
abbrev n_log_live : Nat := 115
noncomputable abbrev fn_log_live : Func := Tryz.f115
abbrev n_log_scan : Nat := 116
noncomputable abbrev fn_log_scan : Func := Tryz.f116
abbrev n_trust_CheckSigned : Nat := 118
noncomputable abbrev fn_trust_CheckSigned : Func := Tryz.f118
abbrev n_slices_Index_Lint : Nat := 120
noncomputable abbrev fn_slices_Index_Lint : Func := Tryz.f120
abbrev n_slices_Contains_Lstring : Nat := 121
noncomputable abbrev fn_slices_Contains_Lstring : Func := Tryz.f121
abbrev n_flash_Copy : Nat := 122
noncomputable abbrev fn_flash_Copy : Func := Tryz.f122
abbrev n_meta_ImageName : Nat := 128
noncomputable abbrev fn_meta_ImageName : Func := Tryz.f128
abbrev n_flash_Check : Nat := 130
noncomputable abbrev fn_flash_Check : Func := Tryz.f130
abbrev n_flash_Wipe : Nat := 131
noncomputable abbrev fn_flash_Wipe : Func := Tryz.f131
abbrev n_flash_Burn : Nat := 132
noncomputable abbrev fn_flash_Burn : Func := Tryz.f132
abbrev n_log_check : Nat := 136
noncomputable abbrev fn_log_check : Func := Tryz.f136
abbrev n_slices_Clone_LRecord : Nat := 137
noncomputable abbrev fn_slices_Clone_LRecord : Func := Tryz.f137
abbrev n_log_words : Nat := 138
noncomputable abbrev fn_log_words : Func := Tryz.f138
abbrev n_ref_CheckFlash : Nat := 139
noncomputable abbrev fn_ref_CheckFlash : Func := Tryz.f139
abbrev n_ref_counts : Nat := 140
noncomputable abbrev fn_ref_counts : Func := Tryz.f140
abbrev n_slices_IndexFunc_Lint : Nat := 141
noncomputable abbrev fn_slices_IndexFunc_Lint : Func := Tryz.f141
abbrev n_ref_allWords_1 : Nat := 142
noncomputable abbrev fn_ref_allWords_1 : Func := Tryz.f142
abbrev n_ref_IsWord : Nat := 143
noncomputable abbrev fn_ref_IsWord : Func := Tryz.f143
abbrev n_math_bits_Mul : Nat := 144
noncomputable abbrev fn_math_bits_Mul : Func := Tryz.f144
abbrev n_ref_Changed : Nat := 145
noncomputable abbrev fn_ref_Changed : Func := Tryz.f145
abbrev n_ref_erases : Nat := 146
noncomputable abbrev fn_ref_erases : Func := Tryz.f146
abbrev n_ref_spaced : Nat := 148
noncomputable abbrev fn_ref_spaced : Func := Tryz.f148
abbrev n_ref_Appended : Nat := 149
noncomputable abbrev fn_ref_Appended : Func := Tryz.f149
abbrev n_gate_state : Nat := 150
noncomputable abbrev fn_gate_state : Func := Tryz.f150
abbrev n_slices_Clone_Lbool : Nat := 151
noncomputable abbrev fn_slices_Clone_Lbool : Func := Tryz.f151
abbrev n_slices_Index_Lbool : Nat := 152
noncomputable abbrev fn_slices_Index_Lbool : Func := Tryz.f152
abbrev n_gate_keep : Nat := 153
noncomputable abbrev fn_gate_keep : Func := Tryz.f153
abbrev n_trust_Take_1 : Nat := 154
noncomputable abbrev fn_trust_Take_1 : Func := Tryz.f154
abbrev n_trust_Turn : Nat := 155
noncomputable abbrev fn_trust_Turn : Func := Tryz.f155
abbrev n_meta_Name : Nat := 156
noncomputable abbrev fn_meta_Name : Func := Tryz.f156
abbrev n_trust_Count : Nat := 157
noncomputable abbrev fn_trust_Count : Func := Tryz.f157
abbrev n_meta_CheckRoot : Nat := 158
noncomputable abbrev fn_meta_CheckRoot : Func := Tryz.f158
abbrev n_ref_Taken_1 : Nat := 159
noncomputable abbrev fn_ref_Taken_1 : Func := Tryz.f159
abbrev n_ref_Turned : Nat := 160
noncomputable abbrev fn_ref_Turned : Func := Tryz.f160
abbrev n_ref_CheckRelease : Nat := 161
noncomputable abbrev fn_ref_CheckRelease : Func := Tryz.f161
abbrev n_ref_Counted : Nat := 162
noncomputable abbrev fn_ref_Counted : Func := Tryz.f162
abbrev n_ref_ReleaseText : Nat := 163
noncomputable abbrev fn_ref_ReleaseText : Func := Tryz.f163
abbrev n_meta_list : Nat := 164
noncomputable abbrev fn_meta_list : Func := Tryz.f164
abbrev n_meta_CheckRelease : Nat := 165
noncomputable abbrev fn_meta_CheckRelease : Func := Tryz.f165
abbrev n_strconv_Itoa : Nat := 166
noncomputable abbrev fn_strconv_Itoa : Func := Tryz.f166
abbrev n_slices_Clone_Record : Nat := 180
noncomputable abbrev fn_slices_Clone_Record : Func := Tryz.f180
abbrev n_flash_burn : Nat := 183
noncomputable abbrev fn_flash_burn : Func := Tryz.f183
abbrev n_flash_Program_1 : Nat := 184
noncomputable abbrev fn_flash_Program_1 : Func := Tryz.f184
abbrev n_slices_ContainsFunc_Record : Nat := 185
noncomputable abbrev fn_slices_ContainsFunc_Record : Func := Tryz.f185
abbrev n_log_check_1 : Nat := 186
noncomputable abbrev fn_log_check_1 : Func := Tryz.f186
abbrev n_log_head : Nat := 187
noncomputable abbrev fn_log_head : Func := Tryz.f187
abbrev n_ref_generation : Nat := 188
noncomputable abbrev fn_ref_generation : Func := Tryz.f188
abbrev n_ref_programs : Nat := 192
noncomputable abbrev fn_ref_programs : Func := Tryz.f192
abbrev n_ref_checkRecord : Nat := 193
noncomputable abbrev fn_ref_checkRecord : Func := Tryz.f193
abbrev n_slices_Concat_Lref_change : Nat := 194
noncomputable abbrev fn_slices_Concat_Lref_change : Func := Tryz.f194
abbrev n_meta_RootText : Nat := 195
noncomputable abbrev fn_meta_RootText : Func := Tryz.f195
abbrev n_slices_Contains_LSigned : Nat := 196
noncomputable abbrev fn_slices_Contains_LSigned : Func := Tryz.f196
abbrev n_ref_Turned_1 : Nat := 197
noncomputable abbrev fn_ref_Turned_1 : Func := Tryz.f197
abbrev n_ref_RootText : Nat := 198
noncomputable abbrev fn_ref_RootText : Func := Tryz.f198
abbrev n_ref_CheckSigned : Nat := 199
noncomputable abbrev fn_ref_CheckSigned : Func := Tryz.f199
abbrev n_strings_Join : Nat := 200
noncomputable abbrev fn_strings_Join : Func := Tryz.f200
abbrev n_slices_IndexFunc_Record : Nat := 206
noncomputable abbrev fn_slices_IndexFunc_Record : Func := Tryz.f206
abbrev n_slices_Grow_Lref_change : Nat := 208
noncomputable abbrev fn_slices_Grow_Lref_change : Func := Tryz.f208
abbrev n_slices_Index_LSigned : Nat := 209
noncomputable abbrev fn_slices_Index_LSigned : Func := Tryz.f209
theorem hf_law_GateSays : Tryz.prog.funcs[n_law_GateSays]? = some fn_law_GateSays := Tryz.func5
theorem hB_law_GateSays : fnB fn_law_GateSays = true := by kernel_rfl
theorem hf_ref_OwnFlash : Tryz.prog.funcs[n_ref_OwnFlash]? = some fn_ref_OwnFlash := Tryz.func10
theorem hB_ref_OwnFlash : fnB fn_ref_OwnFlash = true := by kernel_rfl
theorem hf_ref_CheckImage : Tryz.prog.funcs[n_ref_CheckImage]? = some fn_ref_CheckImage := Tryz.func22
theorem hB_ref_CheckImage : fnB fn_ref_CheckImage = true := by kernel_rfl
theorem hf_slices_Equal_Lint : Tryz.prog.funcs[n_slices_Equal_Lint]? = some fn_slices_Equal_Lint := Tryz.func26
theorem hB_slices_Equal_Lint : fnB fn_slices_Equal_Lint = true := by kernel_rfl
theorem hf_ref_CheckBook : Tryz.prog.funcs[n_ref_CheckBook]? = some fn_ref_CheckBook := Tryz.func27
theorem hB_ref_CheckBook : fnB fn_ref_CheckBook = true := by kernel_rfl
theorem hf_ref_OwnGate : Tryz.prog.funcs[n_ref_OwnGate]? = some fn_ref_OwnGate := Tryz.func30
theorem hB_ref_OwnGate : fnB fn_ref_OwnGate = true := by kernel_rfl
theorem hf_gate_Due : Tryz.prog.funcs[n_gate_Due]? = some fn_gate_Due := Tryz.func31
theorem hB_gate_Due : fnB fn_gate_Due = true := by kernel_rfl
theorem hf_gate_Hear : Tryz.prog.funcs[n_gate_Hear]? = some fn_gate_Hear := Tryz.func32
theorem hB_gate_Hear : fnB fn_gate_Hear = true := by kernel_rfl
theorem hf_ref_CheckGate : Tryz.prog.funcs[n_ref_CheckGate]? = some fn_ref_CheckGate := Tryz.func33
theorem hB_ref_CheckGate : fnB fn_ref_CheckGate = true := by kernel_rfl
theorem hf_law_gated : Tryz.prog.funcs[n_law_gated]? = some fn_law_gated := Tryz.func34
theorem hB_law_gated : fnB fn_law_gated = true := by kernel_rfl
theorem hf_ref_SameGate : Tryz.prog.funcs[n_ref_SameGate]? = some fn_ref_SameGate := Tryz.func35
theorem hB_ref_SameGate : fnB fn_ref_SameGate = true := by kernel_rfl
theorem hf_gate_Begin : Tryz.prog.funcs[n_gate_Begin]? = some fn_gate_Begin := Tryz.func38
theorem hB_gate_Begin : fnB fn_gate_Begin = true := by kernel_rfl
theorem hf_gate_GiveUp : Tryz.prog.funcs[n_gate_GiveUp]? = some fn_gate_GiveUp := Tryz.func39
theorem hB_gate_GiveUp : fnB fn_gate_GiveUp = true := by kernel_rfl
theorem hf_gate_Boot : Tryz.prog.funcs[n_gate_Boot]? = some fn_gate_Boot := Tryz.func40
theorem hB_gate_Boot : fnB fn_gate_Boot = true := by kernel_rfl
theorem hf_gate_Read : Tryz.prog.funcs[n_gate_Read]? = some fn_gate_Read := Tryz.func41
theorem hB_gate_Read : fnB fn_gate_Read = true := by kernel_rfl
theorem hf_gate_New : Tryz.prog.funcs[n_gate_New]? = some fn_gate_New := Tryz.func42
theorem hB_gate_New : fnB fn_gate_New = true := by kernel_rfl
theorem hf_gate_Check : Tryz.prog.funcs[n_gate_Check]? = some fn_gate_Check := Tryz.func43
theorem hB_gate_Check : fnB fn_gate_Check = true := by kernel_rfl
theorem hf_ref_CheckRoot : Tryz.prog.funcs[n_ref_CheckRoot]? = some fn_ref_CheckRoot := Tryz.func44
theorem hB_ref_CheckRoot : fnB fn_ref_CheckRoot = true := by kernel_rfl
theorem hf_ref_NewGate : Tryz.prog.funcs[n_ref_NewGate]? = some fn_ref_NewGate := Tryz.func45
theorem hB_ref_NewGate : fnB fn_ref_NewGate = true := by kernel_rfl
theorem hf_ref_GateBegins : Tryz.prog.funcs[n_ref_GateBegins]? = some fn_ref_GateBegins := Tryz.func46
theorem hB_ref_GateBegins : fnB fn_ref_GateBegins = true := by kernel_rfl
theorem hf_ref_GateGivesUp : Tryz.prog.funcs[n_ref_GateGivesUp]? = some fn_ref_GateGivesUp := Tryz.func47
theorem hB_ref_GateGivesUp : fnB fn_ref_GateGivesUp = true := by kernel_rfl
theorem hf_ref_GateStateOf : Tryz.prog.funcs[n_ref_GateStateOf]? = some fn_ref_GateStateOf := Tryz.func48
theorem hB_ref_GateStateOf : fnB fn_ref_GateStateOf = true := by kernel_rfl
theorem hf_log_Records : Tryz.prog.funcs[n_log_Records]? = some fn_log_Records := Tryz.func54
theorem hB_log_Records : fnB fn_log_Records = true := by kernel_rfl
theorem hf_slices_Contains_Lint : Tryz.prog.funcs[n_slices_Contains_Lint]? = some fn_slices_Contains_Lint := Tryz.func58
theorem hB_slices_Contains_Lint : fnB fn_slices_Contains_Lint = true := by kernel_rfl
theorem hf_meta_CheckBook : Tryz.prog.funcs[n_meta_CheckBook]? = some fn_meta_CheckBook := Tryz.func59
theorem hB_meta_CheckBook : fnB fn_meta_CheckBook = true := by kernel_rfl
theorem hf_meta_CheckImage : Tryz.prog.funcs[n_meta_CheckImage]? = some fn_meta_CheckImage := Tryz.func65
theorem hB_meta_CheckImage : fnB fn_meta_CheckImage = true := by kernel_rfl
theorem hf_flash_New : Tryz.prog.funcs[n_flash_New]? = some fn_flash_New := Tryz.func66
theorem hB_flash_New : fnB fn_flash_New = true := by kernel_rfl
theorem hf_log_Format : Tryz.prog.funcs[n_log_Format]? = some fn_log_Format := Tryz.func67
theorem hB_log_Format : fnB fn_log_Format = true := by kernel_rfl
theorem hf_log_Append : Tryz.prog.funcs[n_log_Append]? = some fn_log_Append := Tryz.func70
theorem hB_log_Append : fnB fn_log_Append = true := by kernel_rfl
theorem hf_ref_CheckLog : Tryz.prog.funcs[n_ref_CheckLog]? = some fn_ref_CheckLog := Tryz.func73
theorem hB_ref_CheckLog : fnB fn_ref_CheckLog = true := by kernel_rfl
theorem hf_law_simple : Tryz.prog.funcs[n_law_simple]? = some fn_law_simple := Tryz.func74
theorem hB_law_simple : fnB fn_law_simple = true := by kernel_rfl
theorem hf_log_Check : Tryz.prog.funcs[n_log_Check]? = some fn_log_Check := Tryz.func75
theorem hB_log_Check : fnB fn_log_Check = true := by kernel_rfl
theorem hf_slices_ContainsFunc_Lint : Tryz.prog.funcs[n_slices_ContainsFunc_Lint]? = some fn_slices_ContainsFunc_Lint := Tryz.func76
theorem hB_slices_ContainsFunc_Lint : fnB fn_slices_ContainsFunc_Lint = true := by kernel_rfl
theorem hf_unit_CheckMessage_1 : Tryz.prog.funcs[n_unit_CheckMessage_1]? = some fn_unit_CheckMessage_1 := Tryz.func77
theorem hB_unit_CheckMessage_1 : fnB fn_unit_CheckMessage_1 = true := by kernel_rfl
theorem hf_ref_allWords : Tryz.prog.funcs[n_ref_allWords]? = some fn_ref_allWords := Tryz.func78
theorem hB_ref_allWords : fnB fn_ref_allWords = true := by kernel_rfl
theorem hf_ref_SameFlash : Tryz.prog.funcs[n_ref_SameFlash]? = some fn_ref_SameFlash := Tryz.func79
theorem hB_ref_SameFlash : fnB fn_ref_SameFlash = true := by kernel_rfl
theorem hf_slices_Repeat_Lint : Tryz.prog.funcs[n_slices_Repeat_Lint]? = some fn_slices_Repeat_Lint := Tryz.func80
theorem hB_slices_Repeat_Lint : fnB fn_slices_Repeat_Lint = true := by kernel_rfl
theorem hf_ref_RecordsOf : Tryz.prog.funcs[n_ref_RecordsOf]? = some fn_ref_RecordsOf := Tryz.func81
theorem hB_ref_RecordsOf : fnB fn_ref_RecordsOf = true := by kernel_rfl
theorem hf_slices_Index_Lstring : Tryz.prog.funcs[n_slices_Index_Lstring]? = some fn_slices_Index_Lstring := Tryz.func82
theorem hB_slices_Index_Lstring : fnB fn_slices_Index_Lstring = true := by kernel_rfl
theorem hf_ref_NameOf : Tryz.prog.funcs[n_ref_NameOf]? = some fn_ref_NameOf := Tryz.func87
theorem hB_ref_NameOf : fnB fn_ref_NameOf = true := by kernel_rfl
theorem hf_ref_ImageText : Tryz.prog.funcs[n_ref_ImageText]? = some fn_ref_ImageText := Tryz.func88
theorem hB_ref_ImageText : fnB fn_ref_ImageText = true := by kernel_rfl
theorem hf_gate_up : Tryz.prog.funcs[n_gate_up]? = some fn_gate_up := Tryz.func93
theorem hB_gate_up : fnB fn_gate_up = true := by kernel_rfl
theorem hf_gate_of : Tryz.prog.funcs[n_gate_of]? = some fn_gate_of := Tryz.func94
theorem hB_gate_of : fnB fn_gate_of = true := by kernel_rfl
theorem hf_gate_decision : Tryz.prog.funcs[n_gate_decision]? = some fn_gate_decision := Tryz.func95
theorem hB_gate_decision : fnB fn_gate_decision = true := by kernel_rfl
theorem hf_slices_Clone_Lint : Tryz.prog.funcs[n_slices_Clone_Lint]? = some fn_slices_Clone_Lint := Tryz.func96
theorem hB_slices_Clone_Lint : fnB fn_slices_Clone_Lint = true := by kernel_rfl
theorem hf_gate_Copy : Tryz.prog.funcs[n_gate_Copy]? = some fn_gate_Copy := Tryz.func97
theorem hB_gate_Copy : fnB fn_gate_Copy = true := by kernel_rfl
theorem hf_slices_Contains_Lbool : Tryz.prog.funcs[n_slices_Contains_Lbool]? = some fn_slices_Contains_Lbool := Tryz.func98
theorem hB_slices_Contains_Lbool : fnB fn_slices_Contains_Lbool = true := by kernel_rfl
theorem hf_gate_note : Tryz.prog.funcs[n_gate_note]? = some fn_gate_note := Tryz.func99
theorem hB_gate_note : fnB fn_gate_note = true := by kernel_rfl
theorem hf_ref_CheckTrust : Tryz.prog.funcs[n_ref_CheckTrust]? = some fn_ref_CheckTrust := Tryz.func100
theorem hB_ref_CheckTrust : fnB fn_ref_CheckTrust = true := by kernel_rfl
theorem hf_ref_SameTrust : Tryz.prog.funcs[n_ref_SameTrust]? = some fn_ref_SameTrust := Tryz.func101
theorem hB_ref_SameTrust : fnB fn_ref_SameTrust = true := by kernel_rfl
theorem hf_slices_Equal_Lbool : Tryz.prog.funcs[n_slices_Equal_Lbool]? = some fn_slices_Equal_Lbool := Tryz.func102
theorem hB_slices_Equal_Lbool : fnB fn_slices_Equal_Lbool = true := by kernel_rfl
theorem hf_ref_noted : Tryz.prog.funcs[n_ref_noted]? = some fn_ref_noted := Tryz.func103
theorem hB_ref_noted : fnB fn_ref_noted = true := by kernel_rfl
theorem hf_trust_Take : Tryz.prog.funcs[n_trust_Take]? = some fn_trust_Take := Tryz.func104
theorem hB_trust_Take : fnB fn_trust_Take = true := by kernel_rfl
theorem hf_gate_forget : Tryz.prog.funcs[n_gate_forget]? = some fn_gate_forget := Tryz.func105
theorem hB_gate_forget : fnB fn_gate_forget = true := by kernel_rfl
theorem hf_trust_CheckTrust : Tryz.prog.funcs[n_trust_CheckTrust]? = some fn_trust_CheckTrust := Tryz.func106
theorem hB_trust_CheckTrust : fnB fn_trust_CheckTrust = true := by kernel_rfl
theorem hf_ref_Taken : Tryz.prog.funcs[n_ref_Taken]? = some fn_ref_Taken := Tryz.func107
theorem hB_ref_Taken : fnB fn_ref_Taken = true := by kernel_rfl
theorem hf_meta_ImageText : Tryz.prog.funcs[n_meta_ImageText]? = some fn_meta_ImageText := Tryz.func110
theorem hB_meta_ImageText : fnB fn_meta_ImageText = true := by kernel_rfl
theorem hf_meta_ReleaseText : Tryz.prog.funcs[n_meta_ReleaseText]? = some fn_meta_ReleaseText := Tryz.func111
theorem hB_meta_ReleaseText : fnB fn_meta_ReleaseText = true := by kernel_rfl
theorem hf_log_live : Tryz.prog.funcs[n_log_live]? = some fn_log_live := Tryz.func115
theorem hB_log_live : fnB fn_log_live = true := by kernel_rfl
theorem hf_log_scan : Tryz.prog.funcs[n_log_scan]? = some fn_log_scan := Tryz.func116
theorem hB_log_scan : fnB fn_log_scan = true := by kernel_rfl
theorem hf_trust_CheckSigned : Tryz.prog.funcs[n_trust_CheckSigned]? = some fn_trust_CheckSigned := Tryz.func118
theorem hB_trust_CheckSigned : fnB fn_trust_CheckSigned = true := by kernel_rfl
theorem hf_slices_Index_Lint : Tryz.prog.funcs[n_slices_Index_Lint]? = some fn_slices_Index_Lint := Tryz.func120
theorem hB_slices_Index_Lint : fnB fn_slices_Index_Lint = true := by kernel_rfl
theorem hf_slices_Contains_Lstring : Tryz.prog.funcs[n_slices_Contains_Lstring]? = some fn_slices_Contains_Lstring := Tryz.func121
theorem hB_slices_Contains_Lstring : fnB fn_slices_Contains_Lstring = true := by kernel_rfl
theorem hf_flash_Copy : Tryz.prog.funcs[n_flash_Copy]? = some fn_flash_Copy := Tryz.func122
theorem hB_flash_Copy : fnB fn_flash_Copy = true := by kernel_rfl
theorem hf_meta_ImageName : Tryz.prog.funcs[n_meta_ImageName]? = some fn_meta_ImageName := Tryz.func128
theorem hB_meta_ImageName : fnB fn_meta_ImageName = true := by kernel_rfl
theorem hf_flash_Check : Tryz.prog.funcs[n_flash_Check]? = some fn_flash_Check := Tryz.func130
theorem hB_flash_Check : fnB fn_flash_Check = true := by kernel_rfl
theorem hf_flash_Wipe : Tryz.prog.funcs[n_flash_Wipe]? = some fn_flash_Wipe := Tryz.func131
theorem hB_flash_Wipe : fnB fn_flash_Wipe = true := by kernel_rfl
theorem hf_flash_Burn : Tryz.prog.funcs[n_flash_Burn]? = some fn_flash_Burn := Tryz.func132
theorem hB_flash_Burn : fnB fn_flash_Burn = true := by kernel_rfl
theorem hf_log_check : Tryz.prog.funcs[n_log_check]? = some fn_log_check := Tryz.func136
theorem hB_log_check : fnB fn_log_check = true := by kernel_rfl
theorem hf_slices_Clone_LRecord : Tryz.prog.funcs[n_slices_Clone_LRecord]? = some fn_slices_Clone_LRecord := Tryz.func137
theorem hB_slices_Clone_LRecord : fnB fn_slices_Clone_LRecord = true := by kernel_rfl
theorem hf_log_words : Tryz.prog.funcs[n_log_words]? = some fn_log_words := Tryz.func138
theorem hB_log_words : fnB fn_log_words = true := by kernel_rfl
theorem hf_ref_CheckFlash : Tryz.prog.funcs[n_ref_CheckFlash]? = some fn_ref_CheckFlash := Tryz.func139
theorem hB_ref_CheckFlash : fnB fn_ref_CheckFlash = true := by kernel_rfl
theorem hf_ref_counts : Tryz.prog.funcs[n_ref_counts]? = some fn_ref_counts := Tryz.func140
theorem hB_ref_counts : fnB fn_ref_counts = true := by kernel_rfl
theorem hf_slices_IndexFunc_Lint : Tryz.prog.funcs[n_slices_IndexFunc_Lint]? = some fn_slices_IndexFunc_Lint := Tryz.func141
theorem hB_slices_IndexFunc_Lint : fnB fn_slices_IndexFunc_Lint = true := by kernel_rfl
theorem hf_ref_allWords_1 : Tryz.prog.funcs[n_ref_allWords_1]? = some fn_ref_allWords_1 := Tryz.func142
theorem hB_ref_allWords_1 : fnB fn_ref_allWords_1 = true := by kernel_rfl
theorem hf_ref_IsWord : Tryz.prog.funcs[n_ref_IsWord]? = some fn_ref_IsWord := Tryz.func143
theorem hB_ref_IsWord : fnB fn_ref_IsWord = true := by kernel_rfl
theorem hf_math_bits_Mul : Tryz.prog.funcs[n_math_bits_Mul]? = some fn_math_bits_Mul := Tryz.func144
theorem hB_math_bits_Mul : fnB fn_math_bits_Mul = true := by kernel_rfl
theorem hf_ref_Changed : Tryz.prog.funcs[n_ref_Changed]? = some fn_ref_Changed := Tryz.func145
theorem hB_ref_Changed : fnB fn_ref_Changed = true := by kernel_rfl
theorem hf_ref_erases : Tryz.prog.funcs[n_ref_erases]? = some fn_ref_erases := Tryz.func146
theorem hB_ref_erases : fnB fn_ref_erases = true := by kernel_rfl
theorem hf_ref_spaced : Tryz.prog.funcs[n_ref_spaced]? = some fn_ref_spaced := Tryz.func148
theorem hB_ref_spaced : fnB fn_ref_spaced = true := by kernel_rfl
theorem hf_ref_Appended : Tryz.prog.funcs[n_ref_Appended]? = some fn_ref_Appended := Tryz.func149
theorem hB_ref_Appended : fnB fn_ref_Appended = true := by kernel_rfl
theorem hf_gate_state : Tryz.prog.funcs[n_gate_state]? = some fn_gate_state := Tryz.func150
theorem hB_gate_state : fnB fn_gate_state = true := by kernel_rfl
theorem hf_slices_Clone_Lbool : Tryz.prog.funcs[n_slices_Clone_Lbool]? = some fn_slices_Clone_Lbool := Tryz.func151
theorem hB_slices_Clone_Lbool : fnB fn_slices_Clone_Lbool = true := by kernel_rfl
theorem hf_slices_Index_Lbool : Tryz.prog.funcs[n_slices_Index_Lbool]? = some fn_slices_Index_Lbool := Tryz.func152
theorem hB_slices_Index_Lbool : fnB fn_slices_Index_Lbool = true := by kernel_rfl
theorem hf_gate_keep : Tryz.prog.funcs[n_gate_keep]? = some fn_gate_keep := Tryz.func153
theorem hB_gate_keep : fnB fn_gate_keep = true := by kernel_rfl
theorem hf_trust_Take_1 : Tryz.prog.funcs[n_trust_Take_1]? = some fn_trust_Take_1 := Tryz.func154
theorem hB_trust_Take_1 : fnB fn_trust_Take_1 = true := by kernel_rfl
theorem hf_trust_Turn : Tryz.prog.funcs[n_trust_Turn]? = some fn_trust_Turn := Tryz.func155
theorem hB_trust_Turn : fnB fn_trust_Turn = true := by kernel_rfl
theorem hf_meta_Name : Tryz.prog.funcs[n_meta_Name]? = some fn_meta_Name := Tryz.func156
theorem hB_meta_Name : fnB fn_meta_Name = true := by kernel_rfl
theorem hf_trust_Count : Tryz.prog.funcs[n_trust_Count]? = some fn_trust_Count := Tryz.func157
theorem hB_trust_Count : fnB fn_trust_Count = true := by kernel_rfl
theorem hf_meta_CheckRoot : Tryz.prog.funcs[n_meta_CheckRoot]? = some fn_meta_CheckRoot := Tryz.func158
theorem hB_meta_CheckRoot : fnB fn_meta_CheckRoot = true := by kernel_rfl
theorem hf_ref_Taken_1 : Tryz.prog.funcs[n_ref_Taken_1]? = some fn_ref_Taken_1 := Tryz.func159
theorem hB_ref_Taken_1 : fnB fn_ref_Taken_1 = true := by kernel_rfl
theorem hf_ref_Turned : Tryz.prog.funcs[n_ref_Turned]? = some fn_ref_Turned := Tryz.func160
theorem hB_ref_Turned : fnB fn_ref_Turned = true := by kernel_rfl
theorem hf_ref_CheckRelease : Tryz.prog.funcs[n_ref_CheckRelease]? = some fn_ref_CheckRelease := Tryz.func161
theorem hB_ref_CheckRelease : fnB fn_ref_CheckRelease = true := by kernel_rfl
theorem hf_ref_Counted : Tryz.prog.funcs[n_ref_Counted]? = some fn_ref_Counted := Tryz.func162
theorem hB_ref_Counted : fnB fn_ref_Counted = true := by kernel_rfl
theorem hf_ref_ReleaseText : Tryz.prog.funcs[n_ref_ReleaseText]? = some fn_ref_ReleaseText := Tryz.func163
theorem hB_ref_ReleaseText : fnB fn_ref_ReleaseText = true := by kernel_rfl
theorem hf_meta_list : Tryz.prog.funcs[n_meta_list]? = some fn_meta_list := Tryz.func164
theorem hB_meta_list : fnB fn_meta_list = true := by kernel_rfl
theorem hf_meta_CheckRelease : Tryz.prog.funcs[n_meta_CheckRelease]? = some fn_meta_CheckRelease := Tryz.func165
theorem hB_meta_CheckRelease : fnB fn_meta_CheckRelease = true := by kernel_rfl
theorem hf_strconv_Itoa : Tryz.prog.funcs[n_strconv_Itoa]? = some fn_strconv_Itoa := Tryz.func166
theorem hB_strconv_Itoa : fnB fn_strconv_Itoa = true := by kernel_rfl
theorem hf_slices_Clone_Record : Tryz.prog.funcs[n_slices_Clone_Record]? = some fn_slices_Clone_Record := Tryz.func180
theorem hB_slices_Clone_Record : fnB fn_slices_Clone_Record = true := by kernel_rfl
theorem hf_flash_burn : Tryz.prog.funcs[n_flash_burn]? = some fn_flash_burn := Tryz.func183
theorem hB_flash_burn : fnB fn_flash_burn = true := by kernel_rfl
theorem hf_flash_Program_1 : Tryz.prog.funcs[n_flash_Program_1]? = some fn_flash_Program_1 := Tryz.func184
theorem hB_flash_Program_1 : fnB fn_flash_Program_1 = true := by kernel_rfl
theorem hf_slices_ContainsFunc_Record : Tryz.prog.funcs[n_slices_ContainsFunc_Record]? = some fn_slices_ContainsFunc_Record := Tryz.func185
theorem hB_slices_ContainsFunc_Record : fnB fn_slices_ContainsFunc_Record = true := by kernel_rfl
theorem hf_log_check_1 : Tryz.prog.funcs[n_log_check_1]? = some fn_log_check_1 := Tryz.func186
theorem hB_log_check_1 : fnB fn_log_check_1 = true := by kernel_rfl
theorem hf_log_head : Tryz.prog.funcs[n_log_head]? = some fn_log_head := Tryz.func187
theorem hB_log_head : fnB fn_log_head = true := by kernel_rfl
theorem hf_ref_generation : Tryz.prog.funcs[n_ref_generation]? = some fn_ref_generation := Tryz.func188
theorem hB_ref_generation : fnB fn_ref_generation = true := by kernel_rfl
theorem hf_ref_programs : Tryz.prog.funcs[n_ref_programs]? = some fn_ref_programs := Tryz.func192
theorem hB_ref_programs : fnB fn_ref_programs = true := by kernel_rfl
theorem hf_ref_checkRecord : Tryz.prog.funcs[n_ref_checkRecord]? = some fn_ref_checkRecord := Tryz.func193
theorem hB_ref_checkRecord : fnB fn_ref_checkRecord = true := by kernel_rfl
theorem hf_slices_Concat_Lref_change : Tryz.prog.funcs[n_slices_Concat_Lref_change]? = some fn_slices_Concat_Lref_change := Tryz.func194
theorem hB_slices_Concat_Lref_change : fnB fn_slices_Concat_Lref_change = true := by kernel_rfl
theorem hf_meta_RootText : Tryz.prog.funcs[n_meta_RootText]? = some fn_meta_RootText := Tryz.func195
theorem hB_meta_RootText : fnB fn_meta_RootText = true := by kernel_rfl
theorem hf_slices_Contains_LSigned : Tryz.prog.funcs[n_slices_Contains_LSigned]? = some fn_slices_Contains_LSigned := Tryz.func196
theorem hB_slices_Contains_LSigned : fnB fn_slices_Contains_LSigned = true := by kernel_rfl
theorem hf_ref_Turned_1 : Tryz.prog.funcs[n_ref_Turned_1]? = some fn_ref_Turned_1 := Tryz.func197
theorem hB_ref_Turned_1 : fnB fn_ref_Turned_1 = true := by kernel_rfl
theorem hf_ref_RootText : Tryz.prog.funcs[n_ref_RootText]? = some fn_ref_RootText := Tryz.func198
theorem hB_ref_RootText : fnB fn_ref_RootText = true := by kernel_rfl
theorem hf_ref_CheckSigned : Tryz.prog.funcs[n_ref_CheckSigned]? = some fn_ref_CheckSigned := Tryz.func199
theorem hB_ref_CheckSigned : fnB fn_ref_CheckSigned = true := by kernel_rfl
theorem hf_strings_Join : Tryz.prog.funcs[n_strings_Join]? = some fn_strings_Join := Tryz.func200
theorem hB_strings_Join : fnB fn_strings_Join = true := by kernel_rfl
theorem hf_slices_IndexFunc_Record : Tryz.prog.funcs[n_slices_IndexFunc_Record]? = some fn_slices_IndexFunc_Record := Tryz.func206
theorem hB_slices_IndexFunc_Record : fnB fn_slices_IndexFunc_Record = true := by kernel_rfl
theorem hf_slices_Grow_Lref_change : Tryz.prog.funcs[n_slices_Grow_Lref_change]? = some fn_slices_Grow_Lref_change := Tryz.func208
theorem hB_slices_Grow_Lref_change : fnB fn_slices_Grow_Lref_change = true := by kernel_rfl
theorem hf_slices_Index_LSigned : Tryz.prog.funcs[n_slices_Index_LSigned]? = some fn_slices_Index_LSigned := Tryz.func209
theorem hB_slices_Index_LSigned : fnB fn_slices_Index_LSigned = true := by kernel_rfl
theorem ok_nil : Ok Tryz.prog tab [] := Ok.nil tab_ok (by kernel_rfl)
end Go.Proofs.YtlbppjmekiemiacGreatDoor
