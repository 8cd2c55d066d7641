/- The names of functions: q0 slices_Equal_Lint, q2 slices_Clone_Lint, q3 slices_Clone_Record, q4 slices_Clone_LRecord, q5 flash_burn, q6 flash_Check, q7 flash_Copy, q8 flash_Wipe, q10 flash_Burn, q11 flash_Program_1, q12 ref_IsWord, q13 ref_allWords_1, q14 log_check_1, q15 slices_IndexFunc_Lint, q16 slices_IndexFunc_Record, q17 slices_ContainsFunc_Lint, q18 slices_ContainsFunc_Record, q19 ref_allWords, q24 math_bits_Mul, q25 slices_Repeat_Lint, q26 flash_New, q32 ref_OwnFlash, q33 ref_CheckFlash, q34 ref_SameFlash, q35 ref_erases, q36 ref_programs, q37 ref_Changed, q57 log_head, q58 log_check, q59 log_words, q60 log_live, q61 log_scan, q62 log_Check, q63 log_Format, q64 log_Records, q65 log_Append, q74 slices_Grow_Lref_change, q75 slices_Concat_Lref_change, q76 ref_generation, q77 ref_counts, q78 ref_CheckLog, q80 ref_checkRecord, q81 ref_RecordsOf, q82 ref_Appended, q84 strconv_Itoa, q85 strings_Join, q86 slices_Index_Lstring, q87 slices_Contains_Lstring, q88 meta_CheckBook, q89 meta_Name, q90 meta_list, q91 meta_CheckRoot, q92 meta_CheckRelease, q93 meta_CheckImage, q94 meta_RootText, q95 meta_ReleaseText, q96 meta_ImageText, q97 meta_ImageName, q102 ref_CheckRoot, q110 slices_Index_Lint, q111 slices_Contains_Lint, q112 slices_Index_LSigned, q113 slices_Contains_LSigned, q114 trust_CheckSigned, q115 trust_Count, q116 trust_CheckTrust, q117 trust_Turn, q118 trust_Take_1, q119 trust_Take, q120 ref_SameTrust, q124 law_simple, q144 unit_CheckMessage_1, q149 ref_SameMessages_1, q150 slices_EqualFunc_LMessage, q151 ref_SameMessages, q161 slices_Clone_Lbool, q164 slices_Equal_Lbool, q165 gate_state, q166 gate_of, q168 gate_Check, q169 gate_Read, q170 gate_New, q171 gate_Copy, q172 gate_forget, q173 gate_keep, q174 gate_note, q175 gate_up, q176 gate_decision, q177 gate_Due, q178 gate_Hear, q180 gate_Begin, q182 law_gated, q183 ref_SameGate, q199 ref_CheckTrust, q206 ref_OwnGate, q208 ref_CheckGate, q209 ref_GateStateOf, q210 ref_noted, q212 ref_GateDue, q213 ref_GateHears, q216 law_GateHears. -/
/- The types of the program, checked; its functions by name. No condition. -/
import Derived.Test.YtlbppjmekiemiacGreatDoorVmd
import Derived.Test.YtlbppjmekiemiacGreatDoorChecked
import Derived.KernelRfl
import Derived.WalkKit
namespace Go.Proofs.YtlbppjmekiemiacGreatDoor
open Vm
abbrev RK := List It → St → Prop
abbrev KK := V → List Blk → Prop
abbrev dI (n : Int) : C := .dat Ty.int n
abbrev dB (b : Bool) : C := .dat Ty.bool b
abbrev dL (l : List Int) : C := .dat (Ty.list Ty.int) l
abbrev dLb (l : List Bool) : C := .dat (Ty.list Ty.bool) l
abbrev dM (l : List Message) : C := .dat (Ty.list Ty.message) l
abbrev dR (l : List (List Int)) : C := .dat (Ty.list (Ty.list Ty.int)) l
abbrev vF : V := .one (dB false)
abbrev vT : V := .one (dB true)
abbrev cG (g : Gate) : List C := [dL g.f.words, dI g.f.fuel, dB g.up, dI g.t.r.version, dL g.t.r.keys, dI g.t.r.thr, dI g.t.version, dLb g.voted, dLb g.did]
abbrev cU (u : UnitD) : List C := [dL u.f.words, dI u.f.fuel, dB u.up, dI u.n, dI u.got]
abbrev cV (v : Vehicle) (a b c : C) : List C := [.dat (Ty.list Ty.str) v.b, .dat (Ty.list Ty.signed) v.s, dL v.g.f.words, dI v.g.f.fuel, dB v.g.up, dI v.g.t.r.version, dL v.g.t.r.keys, dI v.g.t.r.thr, dI v.g.t.version, dLb v.g.voted, dLb v.g.did, a, b, c, dI v.now]
abbrev aV (vb : List (List UInt8)) (vs : List Signed) (ws : List Int) (fu : Int) (up : Bool) (tv : Int) (tk : List Int) (tt tn : Int) (vo di : List Bool) (a b c : C) (now : Int) : List C := [.dat (Ty.list Ty.str) vb, .dat (Ty.list Ty.signed) vs, dL ws, dI fu, dB up, dI tv, dL tk, dI tt, dI tn, dLb vo, dLb di, a, b, c, dI now]
abbrev zV : List C := [.dat (Ty.list Ty.str) [], .dat (Ty.list Ty.signed) [], dL [], dI (0 : Int), dB false, dI (0 : Int), dL [], dI (0 : Int), dI (0 : Int), dLb [], dLb [], .dat (Ty.list Ty.unitd) [], .dat (Ty.list Ty.campaign) [], dM [], dI (0 : Int)]
noncomputable def tab : Tab := ⟨[
  (3, ⟨1, .int, [.dat Ty.int (0 : Int)], [], [], 0⟩),
  (4, ⟨1, .bool, [.dat Ty.bool false], [], [], 0⟩),
  (9, ⟨1, .str, [.dat Ty.str []], [], [], 0⟩),
  (20, ⟨1, .iface, [.undef], [], [], 0⟩),
  (22, ⟨1, .slice Ty.str 9, [.nil Ty.str], [], [], 16⟩),
  (24, ⟨1, .struct, [.nil Ty.str], [0], [1], 0⟩),
  (25, ⟨1, .slice Ty.int 3, [.nil Ty.int], [], [], 8⟩),
  (27, ⟨2, .struct, [.nil Ty.int, .dat Ty.int (0 : Int)], [0, 1], [1, 1], 0⟩),
  (29, ⟨5, .struct, [.nil Ty.int, .dat Ty.int (0 : Int), .dat Ty.bool false, .dat Ty.int (0 : Int), .dat Ty.int (0 : Int)], [0, 2, 3, 4], [2, 1, 1, 1], 0⟩),
  (31, ⟨7, .struct, [.dat Ty.int (0 : Int), .dat Ty.int (0 : Int), .dat Ty.int (0 : Int), .dat Ty.int (0 : Int), .dat Ty.int (0 : Int), .nil Ty.int, .dat Ty.bool false], [0, 1, 2, 3, 4, 5, 6], [1, 1, 1, 1, 1, 1, 1], 0⟩),
  (33, ⟨1, .slice Ty.message 31, [.nil Ty.message], [], [], 72⟩),
  (34, ⟨1, .int, [.dat Ty.int (0 : Int)], [], [], 0⟩),
  (40, ⟨3, .struct, [.dat Ty.int (0 : Int), .dat Ty.int (0 : Int), .dat Ty.int (0 : Int)], [0, 1, 2], [1, 1, 1], 0⟩),
  (62, ⟨3, .struct, [.dat Ty.int (0 : Int), .nil Ty.int, .dat Ty.int (0 : Int)], [0, 1, 2], [1, 1, 1], 0⟩),
  (64, ⟨4, .struct, [.dat Ty.int (0 : Int), .nil Ty.int, .dat Ty.int (0 : Int), .dat Ty.int (0 : Int)], [0, 3], [3, 1], 0⟩),
  (65, ⟨1, .slice Ty.bool 4, [.nil Ty.bool], [], [], 1⟩),
  (67, ⟨9, .struct, [.nil Ty.int, .dat Ty.int (0 : Int), .dat Ty.bool false, .dat Ty.int (0 : Int), .nil Ty.int, .dat Ty.int (0 : Int), .dat Ty.int (0 : Int), .nil Ty.bool, .nil Ty.bool], [0, 2, 3, 7, 8], [2, 1, 4, 1, 1], 0⟩),
  (68, ⟨1, .slice Ty.target 165, [.nil Ty.target], [], [], 24⟩),
  (70, ⟨3, .struct, [.dat Ty.int (0 : Int), .dat Ty.int (0 : Int), .nil Ty.target], [0, 1, 2], [1, 1, 1], 0⟩),
  (71, ⟨1, .slice (Ty.list Ty.int) 25, [.nil (Ty.list Ty.int)], [], [], 24⟩),
  (73, ⟨5, .struct, [.dat Ty.int (0 : Int), .dat Ty.int (0 : Int), .dat Ty.int (0 : Int), .nil Ty.target, .nil (Ty.list Ty.int)], [0, 1, 4], [1, 3, 1], 0⟩),
  (84, ⟨1, .slice Ty.signed 183, [.nil Ty.signed], [], [], 16⟩),
  (85, ⟨1, .slice Ty.root 62, [.nil Ty.root], [], [], 40⟩),
  (87, ⟨7, .struct, [.nil Ty.root, .nil (Ty.list Ty.int), .dat Ty.int (0 : Int), .dat Ty.int (0 : Int), .nil Ty.target, .nil Ty.int, .nil (Ty.list Ty.int)], [0, 1, 2, 5, 6], [1, 1, 3, 1, 1], 0⟩),
  (93, ⟨5, .struct, [.dat Ty.int (0 : Int), .dat Ty.int (0 : Int), .dat Ty.bool false, .dat Ty.bool false, .dat Ty.bool false], [0, 1, 2, 3, 4], [1, 1, 1, 1, 1], 0⟩),
  (101, ⟨1, .slice Ty.happening 112, [.nil Ty.happening], [], [], 160⟩),
  (102, ⟨1, .slice Ty.unitd 29, [.nil Ty.unitd], [], [], 56⟩),
  (103, ⟨1, .slice Ty.campaign 73, [.nil Ty.campaign], [], [], 72⟩),
  (105, ⟨15, .struct, [.nil Ty.str, .nil Ty.signed, .nil Ty.int, .dat Ty.int (0 : Int), .dat Ty.bool false, .dat Ty.int (0 : Int), .nil Ty.int, .dat Ty.int (0 : Int), .dat Ty.int (0 : Int), .nil Ty.bool, .nil Ty.bool, .nil Ty.unitd, .nil Ty.campaign, .nil Ty.message, .dat Ty.int (0 : Int)], [0, 1, 2, 11, 12, 13, 14], [1, 1, 9, 1, 1, 1, 1], 0⟩),
  (106, ⟨1, .slice Ty.offer 87, [.nil Ty.offer], [], [], 136⟩),
  (112, ⟨10, .struct, [.dat Ty.int (0 : Int), .dat Ty.int (0 : Int), .dat Ty.int (0 : Int), .nil Ty.root, .nil (Ty.list Ty.int), .dat Ty.int (0 : Int), .dat Ty.int (0 : Int), .nil Ty.target, .nil Ty.int, .nil (Ty.list Ty.int)], [0, 1, 2, 3], [1, 1, 1, 7], 0⟩),
  (115, ⟨1, .slice (Ty.list Ty.int) 137, [.nil (Ty.list Ty.int)], [], [], 24⟩),
  (119, ⟨1, .slice Ty.int 34, [.nil Ty.int], [], [], 8⟩),
  (128, ⟨1, .other, [.undef], [], [], 0⟩),
  (137, ⟨1, .slice Ty.int 3, [.nil Ty.int], [], [], 8⟩),
  (144, ⟨1, .other, [.undef], [], [], 0⟩),
  (151, ⟨1, .other, [.undef], [], [], 0⟩),
  (153, ⟨6, .struct, [.nil Ty.int, .dat Ty.int (0 : Int), .dat Ty.bool false, .dat Ty.int (0 : Int), .dat Ty.int (0 : Int), .dat Ty.bool false], [0, 5], [5, 1], 0⟩),
  (154, ⟨1, .other, [.undef], [], [], 0⟩),
  (161, ⟨1, .other, [.undef], [], [], 0⟩),
  (165, ⟨3, .struct, [.dat Ty.int (0 : Int), .dat Ty.int (0 : Int), .dat Ty.int (0 : Int)], [0, 1, 2], [1, 1, 1], 0⟩),
  (168, ⟨1, .other, [.undef], [], [], 0⟩),
  (172, ⟨1, .other, [.undef], [], [], 0⟩),
  (177, ⟨1, .other, [.undef], [], [], 0⟩),
  (178, ⟨1, .other, [.undef], [], [], 0⟩),
  (183, ⟨2, .struct, [.dat Ty.int (0 : Int), .dat Ty.int (0 : Int)], [0, 1], [1, 1], 0⟩),
  (187, ⟨1, .other, [.undef], [], [], 0⟩),
  (191, ⟨1, .other, [.undef], [], [], 0⟩),
  (198, ⟨1, .other, [.undef], [], [], 0⟩),
  (205, ⟨1, .other, [.undef], [], [], 0⟩),
  (209, ⟨1, .other, [.undef], [], [], 0⟩),
  (216, ⟨1, .u64, [.undef], [], [], 0⟩),
  (220, ⟨1, .slice Ty.change 256, [.nil Ty.change], [], [], 16⟩),
  (227, ⟨1, .other, [.undef], [], [], 0⟩),
  (234, ⟨1, .other, [.undef], [], [], 0⟩),
  (256, ⟨2, .struct, [.dat Ty.int (0 : Int), .undef], [0, 1], [1, 1], 0⟩),
  (260, ⟨6, .array 2 3, [.dat Ty.int (0 : Int), .nil Ty.int, .dat Ty.int (0 : Int), .dat Ty.int (0 : Int), .nil Ty.int, .dat Ty.int (0 : Int)], [0, 3], [3, 3], 0⟩),
  (263, ⟨1, .mapib, [.undef], [], [], 0⟩),
  (265, ⟨3, .array 3 1, [.dat Ty.int (0 : Int), .dat Ty.int (0 : Int), .dat Ty.int (0 : Int)], [0, 1, 2], [1, 1, 1], 0⟩),
  (266, ⟨9, .array 3 3, [.dat Ty.int (0 : Int), .dat Ty.int (0 : Int), .dat Ty.int (0 : Int), .dat Ty.int (0 : Int), .dat Ty.int (0 : Int), .dat Ty.int (0 : Int), .dat Ty.int (0 : Int), .dat Ty.int (0 : Int), .dat Ty.int (0 : Int)], [0, 3, 6], [3, 3, 3], 0⟩),
  (271, ⟨1, .slice (Ty.list Ty.change) 220, [.nil (Ty.list Ty.change)], [], [], 24⟩)
  ], 191, 207, [40, 93, 165, 183], true, some 0, none, [], some 36⟩
-- pow 0 295 20 252

theorem fnw_ok : FnwOk Tryz.prog tab where
  ok0 := ⟨Tryz.f191, Tryz.func191, by kernel_rfl, by kernel_rfl⟩
  ok1 := ⟨Tryz.f207, Tryz.func207, by kernel_rfl, by kernel_rfl⟩
  run0 := fun n w => by
    show Calls Tryz.prog 191 _ _ _
    go_enter Tryz.func191, Tryz.ntmps191
    go_wp2
    go_ret
    exact ⟨rfl, rfl⟩
  run1 := fun n m b w hc => by
    show Calls Tryz.prog 207 _ _ _
    have hc' : w.cell? ⟨b, 0, none⟩ = some (.int .i64 m) := hc
    unfold at0
    go_enter Tryz.func207, Tryz.ntmps207
    go_wp2
    go_ret
    exact ⟨rfl, rfl⟩
theorem tab_ok : TabOk Tryz.prog tab := tabOk_plain (by kernel_rfl) (by kernel_rfl) (fun _ => fnw_ok)
abbrev n_q216 : Nat := 4
noncomputable abbrev fn_q216 : Func := Tryz.f4
abbrev n_q32 : Nat := 10
noncomputable abbrev fn_q32 : Func := Tryz.f10
abbrev n_q0 : Nat := 26
noncomputable abbrev fn_q0 : Func := Tryz.f26
abbrev n_q151 : Nat := 29
noncomputable abbrev fn_q151 : Func := Tryz.f29
abbrev n_q206 : Nat := 30
noncomputable abbrev fn_q206 : Func := Tryz.f30
abbrev n_q177 : Nat := 31
noncomputable abbrev fn_q177 : Func := Tryz.f31
abbrev n_q178 : Nat := 32
noncomputable abbrev fn_q178 : Func := Tryz.f32
abbrev n_q208 : Nat := 33
noncomputable abbrev fn_q208 : Func := Tryz.f33
abbrev n_q182 : Nat := 34
noncomputable abbrev fn_q182 : Func := Tryz.f34
abbrev n_q183 : Nat := 35
noncomputable abbrev fn_q183 : Func := Tryz.f35
abbrev n_q212 : Nat := 36
noncomputable abbrev fn_q212 : Func := Tryz.f36
abbrev n_q213 : Nat := 37
noncomputable abbrev fn_q213 : Func := Tryz.f37
abbrev n_q180 : Nat := 38
noncomputable abbrev fn_q180 : Func := Tryz.f38
abbrev n_q169 : Nat := 41
noncomputable abbrev fn_q169 : Func := Tryz.f41
abbrev n_q170 : Nat := 42
noncomputable abbrev fn_q170 : Func := Tryz.f42
abbrev n_q168 : Nat := 43
noncomputable abbrev fn_q168 : Func := Tryz.f43
abbrev n_q102 : Nat := 44
noncomputable abbrev fn_q102 : Func := Tryz.f44
abbrev n_q209 : Nat := 48
noncomputable abbrev fn_q209 : Func := Tryz.f48
abbrev n_q64 : Nat := 54
noncomputable abbrev fn_q64 : Func := Tryz.f54
abbrev n_q111 : Nat := 58
noncomputable abbrev fn_q111 : Func := Tryz.f58
abbrev n_q88 : Nat := 59
noncomputable abbrev fn_q88 : Func := Tryz.f59
abbrev n_q93 : Nat := 65
noncomputable abbrev fn_q93 : Func := Tryz.f65
abbrev n_q26 : Nat := 66
noncomputable abbrev fn_q26 : Func := Tryz.f66
abbrev n_q63 : Nat := 67
noncomputable abbrev fn_q63 : Func := Tryz.f67
abbrev n_q65 : Nat := 70
noncomputable abbrev fn_q65 : Func := Tryz.f70
abbrev n_q78 : Nat := 73
noncomputable abbrev fn_q78 : Func := Tryz.f73
abbrev n_q124 : Nat := 74
noncomputable abbrev fn_q124 : Func := Tryz.f74
abbrev n_q62 : Nat := 75
noncomputable abbrev fn_q62 : Func := Tryz.f75
abbrev n_q17 : Nat := 76
noncomputable abbrev fn_q17 : Func := Tryz.f76
abbrev n_q144 : Nat := 77
noncomputable abbrev fn_q144 : Func := Tryz.f77
abbrev n_q19 : Nat := 78
noncomputable abbrev fn_q19 : Func := Tryz.f78
abbrev n_q34 : Nat := 79
noncomputable abbrev fn_q34 : Func := Tryz.f79
abbrev n_q25 : Nat := 80
noncomputable abbrev fn_q25 : Func := Tryz.f80
abbrev n_q81 : Nat := 81
noncomputable abbrev fn_q81 : Func := Tryz.f81
abbrev n_q86 : Nat := 82
noncomputable abbrev fn_q86 : Func := Tryz.f82
abbrev n_q150 : Nat := 91
noncomputable abbrev fn_q150 : Func := Tryz.f91
abbrev n_q149 : Nat := 92
noncomputable abbrev fn_q149 : Func := Tryz.f92
abbrev n_q175 : Nat := 93
noncomputable abbrev fn_q175 : Func := Tryz.f93
abbrev n_q166 : Nat := 94
noncomputable abbrev fn_q166 : Func := Tryz.f94
abbrev n_q176 : Nat := 95
noncomputable abbrev fn_q176 : Func := Tryz.f95
abbrev n_q2 : Nat := 96
noncomputable abbrev fn_q2 : Func := Tryz.f96
abbrev n_q171 : Nat := 97
noncomputable abbrev fn_q171 : Func := Tryz.f97
abbrev n_slices_Contains_Lbool : Nat := 98
noncomputable abbrev fn_slices_Contains_Lbool : Func := Tryz.f98
abbrev n_q174 : Nat := 99
noncomputable abbrev fn_q174 : Func := Tryz.f99
abbrev n_q199 : Nat := 100
noncomputable abbrev fn_q199 : Func := Tryz.f100
abbrev n_q120 : Nat := 101
noncomputable abbrev fn_q120 : Func := Tryz.f101
abbrev n_q164 : Nat := 102
noncomputable abbrev fn_q164 : Func := Tryz.f102
abbrev n_q210 : Nat := 103
noncomputable abbrev fn_q210 : Func := Tryz.f103
abbrev n_q119 : Nat := 104
noncomputable abbrev fn_q119 : Func := Tryz.f104
abbrev n_q172 : Nat := 105
noncomputable abbrev fn_q172 : Func := Tryz.f105
abbrev n_q116 : Nat := 106
noncomputable abbrev fn_q116 : Func := Tryz.f106
abbrev n_q96 : Nat := 110
noncomputable abbrev fn_q96 : Func := Tryz.f110
abbrev n_q95 : Nat := 111
noncomputable abbrev fn_q95 : Func := Tryz.f111
abbrev n_q60 : Nat := 115
noncomputable abbrev fn_q60 : Func := Tryz.f115
abbrev n_q61 : Nat := 116
noncomputable abbrev fn_q61 : Func := Tryz.f116
abbrev n_q114 : Nat := 118
noncomputable abbrev fn_q114 : Func := Tryz.f118
abbrev n_q110 : Nat := 120
noncomputable abbrev fn_q110 : Func := Tryz.f120
abbrev n_q87 : Nat := 121
noncomputable abbrev fn_q87 : Func := Tryz.f121
abbrev n_q7 : Nat := 122
noncomputable abbrev fn_q7 : Func := Tryz.f122
abbrev n_q97 : Nat := 128
noncomputable abbrev fn_q97 : Func := Tryz.f128
abbrev n_q6 : Nat := 130
noncomputable abbrev fn_q6 : Func := Tryz.f130
abbrev n_q8 : Nat := 131
noncomputable abbrev fn_q8 : Func := Tryz.f131
abbrev n_q10 : Nat := 132
noncomputable abbrev fn_q10 : Func := Tryz.f132
abbrev n_q58 : Nat := 136
noncomputable abbrev fn_q58 : Func := Tryz.f136
abbrev n_q4 : Nat := 137
noncomputable abbrev fn_q4 : Func := Tryz.f137
abbrev n_q59 : Nat := 138
noncomputable abbrev fn_q59 : Func := Tryz.f138
abbrev n_q33 : Nat := 139
noncomputable abbrev fn_q33 : Func := Tryz.f139
abbrev n_q77 : Nat := 140
noncomputable abbrev fn_q77 : Func := Tryz.f140
abbrev n_q15 : Nat := 141
noncomputable abbrev fn_q15 : Func := Tryz.f141
abbrev n_q13 : Nat := 142
noncomputable abbrev fn_q13 : Func := Tryz.f142
abbrev n_q12 : Nat := 143
noncomputable abbrev fn_q12 : Func := Tryz.f143
abbrev n_q24 : Nat := 144
noncomputable abbrev fn_q24 : Func := Tryz.f144
abbrev n_q37 : Nat := 145
noncomputable abbrev fn_q37 : Func := Tryz.f145
abbrev n_q35 : Nat := 146
noncomputable abbrev fn_q35 : Func := Tryz.f146
abbrev n_q82 : Nat := 149
noncomputable abbrev fn_q82 : Func := Tryz.f149
abbrev n_q165 : Nat := 150
noncomputable abbrev fn_q165 : Func := Tryz.f150
abbrev n_q161 : Nat := 151
noncomputable abbrev fn_q161 : Func := Tryz.f151
abbrev n_slices_Index_Lbool : Nat := 152
noncomputable abbrev fn_slices_Index_Lbool : Func := Tryz.f152
abbrev n_q173 : Nat := 153
noncomputable abbrev fn_q173 : Func := Tryz.f153
abbrev n_q118 : Nat := 154
noncomputable abbrev fn_q118 : Func := Tryz.f154
abbrev n_q117 : Nat := 155
noncomputable abbrev fn_q117 : Func := Tryz.f155
abbrev n_q89 : Nat := 156
noncomputable abbrev fn_q89 : Func := Tryz.f156
abbrev n_q115 : Nat := 157
noncomputable abbrev fn_q115 : Func := Tryz.f157
abbrev n_q91 : Nat := 158
noncomputable abbrev fn_q91 : Func := Tryz.f158
abbrev n_q90 : Nat := 164
noncomputable abbrev fn_q90 : Func := Tryz.f164
abbrev n_q92 : Nat := 165
noncomputable abbrev fn_q92 : Func := Tryz.f165
abbrev n_q84 : Nat := 166
noncomputable abbrev fn_q84 : Func := Tryz.f166
abbrev n_q3 : Nat := 180
noncomputable abbrev fn_q3 : Func := Tryz.f180
abbrev n_q5 : Nat := 183
noncomputable abbrev fn_q5 : Func := Tryz.f183
abbrev n_q11 : Nat := 184
noncomputable abbrev fn_q11 : Func := Tryz.f184
abbrev n_q18 : Nat := 185
noncomputable abbrev fn_q18 : Func := Tryz.f185
abbrev n_q14 : Nat := 186
noncomputable abbrev fn_q14 : Func := Tryz.f186
abbrev n_q57 : Nat := 187
noncomputable abbrev fn_q57 : Func := Tryz.f187
abbrev n_q76 : Nat := 188
noncomputable abbrev fn_q76 : Func := Tryz.f188
abbrev n_q36 : Nat := 192
noncomputable abbrev fn_q36 : Func := Tryz.f192
abbrev n_q80 : Nat := 193
noncomputable abbrev fn_q80 : Func := Tryz.f193
abbrev n_q75 : Nat := 194
noncomputable abbrev fn_q75 : Func := Tryz.f194
abbrev n_q94 : Nat := 195
noncomputable abbrev fn_q94 : Func := Tryz.f195
abbrev n_q113 : Nat := 196
noncomputable abbrev fn_q113 : Func := Tryz.f196
abbrev n_q85 : Nat := 200
noncomputable abbrev fn_q85 : Func := Tryz.f200
abbrev n_q16 : Nat := 206
noncomputable abbrev fn_q16 : Func := Tryz.f206
abbrev n_q74 : Nat := 208
noncomputable abbrev fn_q74 : Func := Tryz.f208
abbrev n_q112 : Nat := 209
noncomputable abbrev fn_q112 : Func := Tryz.f209
theorem hg_q216 : FnOk Tryz.prog n_q216 fn_q216 := ⟨Tryz.func4, by kernel_rfl⟩
theorem hg_q32 : FnOk Tryz.prog n_q32 fn_q32 := ⟨Tryz.func10, by kernel_rfl⟩
theorem hg_q0 : FnOk Tryz.prog n_q0 fn_q0 := ⟨Tryz.func26, by kernel_rfl⟩
theorem hg_q151 : FnOk Tryz.prog n_q151 fn_q151 := ⟨Tryz.func29, by kernel_rfl⟩
theorem hg_q206 : FnOk Tryz.prog n_q206 fn_q206 := ⟨Tryz.func30, by kernel_rfl⟩
theorem hg_q177 : FnOk Tryz.prog n_q177 fn_q177 := ⟨Tryz.func31, by kernel_rfl⟩
theorem hg_q178 : FnOk Tryz.prog n_q178 fn_q178 := ⟨Tryz.func32, by kernel_rfl⟩
theorem hg_q208 : FnOk Tryz.prog n_q208 fn_q208 := ⟨Tryz.func33, by kernel_rfl⟩
theorem hg_q182 : FnOk Tryz.prog n_q182 fn_q182 := ⟨Tryz.func34, by kernel_rfl⟩
theorem hg_q183 : FnOk Tryz.prog n_q183 fn_q183 := ⟨Tryz.func35, by kernel_rfl⟩
theorem hg_q212 : FnOk Tryz.prog n_q212 fn_q212 := ⟨Tryz.func36, by kernel_rfl⟩
theorem hg_q213 : FnOk Tryz.prog n_q213 fn_q213 := ⟨Tryz.func37, by kernel_rfl⟩
theorem hg_q180 : FnOk Tryz.prog n_q180 fn_q180 := ⟨Tryz.func38, by kernel_rfl⟩
theorem hg_q169 : FnOk Tryz.prog n_q169 fn_q169 := ⟨Tryz.func41, by kernel_rfl⟩
theorem hg_q170 : FnOk Tryz.prog n_q170 fn_q170 := ⟨Tryz.func42, by kernel_rfl⟩
theorem hg_q168 : FnOk Tryz.prog n_q168 fn_q168 := ⟨Tryz.func43, by kernel_rfl⟩
theorem hg_q102 : FnOk Tryz.prog n_q102 fn_q102 := ⟨Tryz.func44, by kernel_rfl⟩
theorem hg_q209 : FnOk Tryz.prog n_q209 fn_q209 := ⟨Tryz.func48, by kernel_rfl⟩
theorem hg_q64 : FnOk Tryz.prog n_q64 fn_q64 := ⟨Tryz.func54, by kernel_rfl⟩
theorem hg_q111 : FnOk Tryz.prog n_q111 fn_q111 := ⟨Tryz.func58, by kernel_rfl⟩
theorem hg_q88 : FnOk Tryz.prog n_q88 fn_q88 := ⟨Tryz.func59, by kernel_rfl⟩
theorem hg_q93 : FnOk Tryz.prog n_q93 fn_q93 := ⟨Tryz.func65, by kernel_rfl⟩
theorem hg_q26 : FnOk Tryz.prog n_q26 fn_q26 := ⟨Tryz.func66, by kernel_rfl⟩
theorem hg_q63 : FnOk Tryz.prog n_q63 fn_q63 := ⟨Tryz.func67, by kernel_rfl⟩
theorem hg_q65 : FnOk Tryz.prog n_q65 fn_q65 := ⟨Tryz.func70, by kernel_rfl⟩
theorem hg_q78 : FnOk Tryz.prog n_q78 fn_q78 := ⟨Tryz.func73, by kernel_rfl⟩
theorem hg_q124 : FnOk Tryz.prog n_q124 fn_q124 := ⟨Tryz.func74, by kernel_rfl⟩
theorem hg_q62 : FnOk Tryz.prog n_q62 fn_q62 := ⟨Tryz.func75, by kernel_rfl⟩
theorem hg_q17 : FnOk Tryz.prog n_q17 fn_q17 := ⟨Tryz.func76, by kernel_rfl⟩
theorem hg_q144 : FnOk Tryz.prog n_q144 fn_q144 := ⟨Tryz.func77, by kernel_rfl⟩
theorem hg_q19 : FnOk Tryz.prog n_q19 fn_q19 := ⟨Tryz.func78, by kernel_rfl⟩
theorem hg_q34 : FnOk Tryz.prog n_q34 fn_q34 := ⟨Tryz.func79, by kernel_rfl⟩
theorem hg_q25 : FnOk Tryz.prog n_q25 fn_q25 := ⟨Tryz.func80, by kernel_rfl⟩
theorem hg_q81 : FnOk Tryz.prog n_q81 fn_q81 := ⟨Tryz.func81, by kernel_rfl⟩
theorem hg_q86 : FnOk Tryz.prog n_q86 fn_q86 := ⟨Tryz.func82, by kernel_rfl⟩
theorem hg_q150 : FnOk Tryz.prog n_q150 fn_q150 := ⟨Tryz.func91, by kernel_rfl⟩
theorem hg_q149 : FnOk Tryz.prog n_q149 fn_q149 := ⟨Tryz.func92, by kernel_rfl⟩
theorem hg_q175 : FnOk Tryz.prog n_q175 fn_q175 := ⟨Tryz.func93, by kernel_rfl⟩
theorem hg_q166 : FnOk Tryz.prog n_q166 fn_q166 := ⟨Tryz.func94, by kernel_rfl⟩
theorem hg_q176 : FnOk Tryz.prog n_q176 fn_q176 := ⟨Tryz.func95, by kernel_rfl⟩
theorem hg_q2 : FnOk Tryz.prog n_q2 fn_q2 := ⟨Tryz.func96, by kernel_rfl⟩
theorem hg_q171 : FnOk Tryz.prog n_q171 fn_q171 := ⟨Tryz.func97, by kernel_rfl⟩
theorem hg_slices_Contains_Lbool : FnOk Tryz.prog n_slices_Contains_Lbool fn_slices_Contains_Lbool := ⟨Tryz.func98, by kernel_rfl⟩
theorem hg_q174 : FnOk Tryz.prog n_q174 fn_q174 := ⟨Tryz.func99, by kernel_rfl⟩
theorem hg_q199 : FnOk Tryz.prog n_q199 fn_q199 := ⟨Tryz.func100, by kernel_rfl⟩
theorem hg_q120 : FnOk Tryz.prog n_q120 fn_q120 := ⟨Tryz.func101, by kernel_rfl⟩
theorem hg_q164 : FnOk Tryz.prog n_q164 fn_q164 := ⟨Tryz.func102, by kernel_rfl⟩
theorem hg_q210 : FnOk Tryz.prog n_q210 fn_q210 := ⟨Tryz.func103, by kernel_rfl⟩
theorem hg_q119 : FnOk Tryz.prog n_q119 fn_q119 := ⟨Tryz.func104, by kernel_rfl⟩
theorem hg_q172 : FnOk Tryz.prog n_q172 fn_q172 := ⟨Tryz.func105, by kernel_rfl⟩
theorem hg_q116 : FnOk Tryz.prog n_q116 fn_q116 := ⟨Tryz.func106, by kernel_rfl⟩
theorem hg_q96 : FnOk Tryz.prog n_q96 fn_q96 := ⟨Tryz.func110, by kernel_rfl⟩
theorem hg_q95 : FnOk Tryz.prog n_q95 fn_q95 := ⟨Tryz.func111, by kernel_rfl⟩
theorem hg_q60 : FnOk Tryz.prog n_q60 fn_q60 := ⟨Tryz.func115, by kernel_rfl⟩
theorem hg_q61 : FnOk Tryz.prog n_q61 fn_q61 := ⟨Tryz.func116, by kernel_rfl⟩
theorem hg_q114 : FnOk Tryz.prog n_q114 fn_q114 := ⟨Tryz.func118, by kernel_rfl⟩
theorem hg_q110 : FnOk Tryz.prog n_q110 fn_q110 := ⟨Tryz.func120, by kernel_rfl⟩
theorem hg_q87 : FnOk Tryz.prog n_q87 fn_q87 := ⟨Tryz.func121, by kernel_rfl⟩
theorem hg_q7 : FnOk Tryz.prog n_q7 fn_q7 := ⟨Tryz.func122, by kernel_rfl⟩
theorem hg_q97 : FnOk Tryz.prog n_q97 fn_q97 := ⟨Tryz.func128, by kernel_rfl⟩
theorem hg_q6 : FnOk Tryz.prog n_q6 fn_q6 := ⟨Tryz.func130, by kernel_rfl⟩
theorem hg_q8 : FnOk Tryz.prog n_q8 fn_q8 := ⟨Tryz.func131, by kernel_rfl⟩
theorem hg_q10 : FnOk Tryz.prog n_q10 fn_q10 := ⟨Tryz.func132, by kernel_rfl⟩
theorem hg_q58 : FnOk Tryz.prog n_q58 fn_q58 := ⟨Tryz.func136, by kernel_rfl⟩
theorem hg_q4 : FnOk Tryz.prog n_q4 fn_q4 := ⟨Tryz.func137, by kernel_rfl⟩
theorem hg_q59 : FnOk Tryz.prog n_q59 fn_q59 := ⟨Tryz.func138, by kernel_rfl⟩
theorem hg_q33 : FnOk Tryz.prog n_q33 fn_q33 := ⟨Tryz.func139, by kernel_rfl⟩
theorem hg_q77 : FnOk Tryz.prog n_q77 fn_q77 := ⟨Tryz.func140, by kernel_rfl⟩
theorem hg_q15 : FnOk Tryz.prog n_q15 fn_q15 := ⟨Tryz.func141, by kernel_rfl⟩
theorem hg_q13 : FnOk Tryz.prog n_q13 fn_q13 := ⟨Tryz.func142, by kernel_rfl⟩
theorem hg_q12 : FnOk Tryz.prog n_q12 fn_q12 := ⟨Tryz.func143, by kernel_rfl⟩
theorem hg_q24 : FnOk Tryz.prog n_q24 fn_q24 := ⟨Tryz.func144, by kernel_rfl⟩
theorem hg_q37 : FnOk Tryz.prog n_q37 fn_q37 := ⟨Tryz.func145, by kernel_rfl⟩
theorem hg_q35 : FnOk Tryz.prog n_q35 fn_q35 := ⟨Tryz.func146, by kernel_rfl⟩
theorem hg_q82 : FnOk Tryz.prog n_q82 fn_q82 := ⟨Tryz.func149, by kernel_rfl⟩
theorem hg_q165 : FnOk Tryz.prog n_q165 fn_q165 := ⟨Tryz.func150, by kernel_rfl⟩
theorem hg_q161 : FnOk Tryz.prog n_q161 fn_q161 := ⟨Tryz.func151, by kernel_rfl⟩
theorem hg_slices_Index_Lbool : FnOk Tryz.prog n_slices_Index_Lbool fn_slices_Index_Lbool := ⟨Tryz.func152, by kernel_rfl⟩
theorem hg_q173 : FnOk Tryz.prog n_q173 fn_q173 := ⟨Tryz.func153, by kernel_rfl⟩
theorem hg_q118 : FnOk Tryz.prog n_q118 fn_q118 := ⟨Tryz.func154, by kernel_rfl⟩
theorem hg_q117 : FnOk Tryz.prog n_q117 fn_q117 := ⟨Tryz.func155, by kernel_rfl⟩
theorem hg_q89 : FnOk Tryz.prog n_q89 fn_q89 := ⟨Tryz.func156, by kernel_rfl⟩
theorem hg_q115 : FnOk Tryz.prog n_q115 fn_q115 := ⟨Tryz.func157, by kernel_rfl⟩
theorem hg_q91 : FnOk Tryz.prog n_q91 fn_q91 := ⟨Tryz.func158, by kernel_rfl⟩
theorem hg_q90 : FnOk Tryz.prog n_q90 fn_q90 := ⟨Tryz.func164, by kernel_rfl⟩
theorem hg_q92 : FnOk Tryz.prog n_q92 fn_q92 := ⟨Tryz.func165, by kernel_rfl⟩
theorem hg_q84 : FnOk Tryz.prog n_q84 fn_q84 := ⟨Tryz.func166, by kernel_rfl⟩
theorem hg_q3 : FnOk Tryz.prog n_q3 fn_q3 := ⟨Tryz.func180, by kernel_rfl⟩
theorem hg_q5 : FnOk Tryz.prog n_q5 fn_q5 := ⟨Tryz.func183, by kernel_rfl⟩
theorem hg_q11 : FnOk Tryz.prog n_q11 fn_q11 := ⟨Tryz.func184, by kernel_rfl⟩
theorem hg_q18 : FnOk Tryz.prog n_q18 fn_q18 := ⟨Tryz.func185, by kernel_rfl⟩
theorem hg_q14 : FnOk Tryz.prog n_q14 fn_q14 := ⟨Tryz.func186, by kernel_rfl⟩
theorem hg_q57 : FnOk Tryz.prog n_q57 fn_q57 := ⟨Tryz.func187, by kernel_rfl⟩
theorem hg_q76 : FnOk Tryz.prog n_q76 fn_q76 := ⟨Tryz.func188, by kernel_rfl⟩
theorem hg_q36 : FnOk Tryz.prog n_q36 fn_q36 := ⟨Tryz.func192, by kernel_rfl⟩
theorem hg_q80 : FnOk Tryz.prog n_q80 fn_q80 := ⟨Tryz.func193, by kernel_rfl⟩
theorem hg_q75 : FnOk Tryz.prog n_q75 fn_q75 := ⟨Tryz.func194, by kernel_rfl⟩
theorem hg_q94 : FnOk Tryz.prog n_q94 fn_q94 := ⟨Tryz.func195, by kernel_rfl⟩
theorem hg_q113 : FnOk Tryz.prog n_q113 fn_q113 := ⟨Tryz.func196, by kernel_rfl⟩
theorem hg_q85 : FnOk Tryz.prog n_q85 fn_q85 := ⟨Tryz.func200, by kernel_rfl⟩
theorem hg_q16 : FnOk Tryz.prog n_q16 fn_q16 := ⟨Tryz.func206, by kernel_rfl⟩
theorem hg_q74 : FnOk Tryz.prog n_q74 fn_q74 := ⟨Tryz.func208, by kernel_rfl⟩
theorem hg_q112 : FnOk Tryz.prog n_q112 fn_q112 := ⟨Tryz.func209, by kernel_rfl⟩
abbrev GD (Γ : Ctx) (fn : Func) (k : Nat) (K : KK) (vs : List V) (bs : List Blk) : Prop := ∃ m, goD Γ tab fn k K m [.code (bodyOf fn)] (initSt vs bs)
abbrev GO (Γ : Ctx) (fn : Func) (k : Nat) (K : KK) (vs : List V) (bs : List Blk) : Prop := ∃ m, goO Γ tab fn k K m [.code (bodyOf fn)] (initSt vs bs)
abbrev GN (Γ : Ctx) (fn : Func) (k : Nat) (K : KK) (vs : List V) (bs : List Blk) : Prop := ∃ m, goO Γ tab fn k K m [.code (bodyOf fn)] (initN vs bs)
noncomputable abbrev cSub (fn : Func) (l : List Nat) : Code := Code.sub (bodyOf fn) l
theorem ok_nil : Ok Tryz.prog tab [] := Ok.nil tab_ok (by kernel_rfl)
end Go.Proofs.YtlbppjmekiemiacGreatDoor
