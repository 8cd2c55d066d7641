/- The types of the program, checked; its functions by name. No condition. -/
import Derived.Test.YtlbppjmekiemiacDoorVmd
import Derived.Test.YtlbppjmekiemiacDoorChecked
import Derived.KernelRfl
import Derived.WalkKit
namespace Go.Proofs.YtlbppjmekiemiacDoor
open Vm
abbrev RK := List It → St → Prop
abbrev KK := V → List Blk → Prop
abbrev dI (n : Int) : C := .dat Ty.int n
abbrev dB (b : Bool) : C := .dat Ty.bool b
abbrev dL (l : List Int) : C := .dat (Ty.list Ty.int) l
abbrev dLb (l : List Bool) : C := .dat (Ty.list Ty.bool) l
abbrev dM (l : List Message) : C := .dat (Ty.list Ty.message) l
abbrev dR (l : List (List Int)) : C := .dat (Ty.list (Ty.list Ty.int)) l
abbrev vF : V := .one (dB false)
abbrev vT : V := .one (dB true)
noncomputable def tab : Tab := ⟨[
  (2, ⟨1, .int, [.dat Ty.int (0 : Int)], [], [], 0⟩),
  (3, ⟨1, .int, [.dat Ty.int (0 : Int)], [], [], 0⟩),
  (4, ⟨1, .bool, [.dat Ty.bool false], [], [], 0⟩),
  (9, ⟨1, .str, [.dat Ty.str []], [], [], 0⟩),
  (22, ⟨1, .slice Ty.target 58, [.nil Ty.target], [], [], 24⟩),
  (24, ⟨3, .struct, [.dat Ty.int (0 : Int), .dat Ty.int (0 : Int), .nil Ty.target], [0, 1, 2], [1, 1, 1], 0⟩),
  (25, ⟨1, .slice Ty.int 3, [.nil Ty.int], [], [], 8⟩),
  (26, ⟨1, .int, [.dat Ty.int (0 : Int)], [], [], 0⟩),
  (37, ⟨2, .struct, [.nil Ty.int, .dat Ty.int (0 : Int)], [0, 1], [1, 1], 0⟩),
  (39, ⟨3, .struct, [.dat Ty.int (0 : Int), .nil Ty.int, .dat Ty.int (0 : Int)], [0, 1, 2], [1, 1, 1], 0⟩),
  (41, ⟨4, .struct, [.dat Ty.int (0 : Int), .nil Ty.int, .dat Ty.int (0 : Int), .dat Ty.int (0 : Int)], [0, 3], [3, 1], 0⟩),
  (42, ⟨1, .slice Ty.bool 4, [.nil Ty.bool], [], [], 1⟩),
  (44, ⟨9, .struct, [.nil Ty.int, .dat Ty.int (0 : Int), .dat Ty.bool false, .dat Ty.int (0 : Int), .nil Ty.int, .dat Ty.int (0 : Int), .dat Ty.int (0 : Int), .nil Ty.bool, .nil Ty.bool], [0, 2, 3, 7, 8], [2, 1, 4, 1, 1], 0⟩),
  (45, ⟨1, .slice (Ty.list Ty.int) 25, [.nil (Ty.list Ty.int)], [], [], 24⟩),
  (47, ⟨5, .struct, [.dat Ty.int (0 : Int), .dat Ty.int (0 : Int), .dat Ty.int (0 : Int), .nil Ty.target, .nil (Ty.list Ty.int)], [0, 1, 4], [1, 3, 1], 0⟩),
  (48, ⟨1, .slice Ty.message 56, [.nil Ty.message], [], [], 72⟩),
  (52, ⟨5, .struct, [.dat Ty.int (0 : Int), .dat Ty.int (0 : Int), .dat Ty.bool false, .dat Ty.bool false, .dat Ty.bool false], [0, 1, 2, 3, 4], [1, 1, 1, 1, 1], 0⟩),
  (56, ⟨7, .struct, [.dat Ty.int (0 : Int), .dat Ty.int (0 : Int), .dat Ty.int (0 : Int), .dat Ty.int (0 : Int), .dat Ty.int (0 : Int), .nil Ty.int, .dat Ty.bool false], [0, 1, 2, 3, 4, 5, 6], [1, 1, 1, 1, 1, 1, 1], 0⟩),
  (58, ⟨3, .struct, [.dat Ty.int (0 : Int), .dat Ty.int (0 : Int), .dat Ty.int (0 : Int)], [0, 1, 2], [1, 1, 1], 0⟩),
  (81, ⟨1, .slice Ty.str 9, [.nil Ty.str], [], [], 16⟩),
  (83, ⟨1, .struct, [.nil Ty.str], [0], [1], 0⟩),
  (92, ⟨1, .slice Ty.signed 139, [.nil Ty.signed], [], [], 16⟩),
  (93, ⟨1, .slice Ty.root 39, [.nil Ty.root], [], [], 40⟩),
  (95, ⟨7, .struct, [.nil Ty.root, .nil (Ty.list Ty.int), .dat Ty.int (0 : Int), .dat Ty.int (0 : Int), .nil Ty.target, .nil Ty.int, .nil (Ty.list Ty.int)], [0, 1, 2, 5, 6], [1, 1, 3, 1, 1], 0⟩),
  (103, ⟨1, .other, [.undef], [], [], 0⟩),
  (104, ⟨1, .slice Ty.int 3, [.nil Ty.int], [], [], 8⟩),
  (110, ⟨1, .other, [.undef], [], [], 0⟩),
  (112, ⟨3, .array 3 1, [.dat Ty.int (0 : Int), .dat Ty.int (0 : Int), .dat Ty.int (0 : Int)], [0, 1, 2], [1, 1, 1], 0⟩),
  (113, ⟨9, .array 3 3, [.dat Ty.int (0 : Int), .dat Ty.int (0 : Int), .dat Ty.int (0 : Int), .dat Ty.int (0 : Int), .dat Ty.int (0 : Int), .dat Ty.int (0 : Int), .dat Ty.int (0 : Int), .dat Ty.int (0 : Int), .dat Ty.int (0 : Int)], [0, 3, 6], [3, 3, 3], 0⟩),
  (116, ⟨1, .other, [.undef], [], [], 0⟩),
  (122, ⟨1, .other, [.undef], [], [], 0⟩),
  (132, ⟨1, .slice (Ty.list Ty.int) 104, [.nil (Ty.list Ty.int)], [], [], 24⟩),
  (139, ⟨2, .struct, [.dat Ty.int (0 : Int), .dat Ty.int (0 : Int)], [0, 1], [1, 1], 0⟩),
  (151, ⟨1, .other, [.undef], [], [], 0⟩),
  (169, ⟨1, .other, [.undef], [], [], 0⟩),
  (171, ⟨1, .other, [.undef], [], [], 0⟩),
  (183, ⟨1, .u64, [.undef], [], [], 0⟩),
  (202, ⟨6, .array 2 3, [.dat Ty.int (0 : Int), .nil Ty.int, .dat Ty.int (0 : Int), .dat Ty.int (0 : Int), .nil Ty.int, .dat Ty.int (0 : Int)], [0, 3], [3, 3], 0⟩)
  ], 999999, 999999, [52, 58, 139], false, some 2⟩
-- pow 2 218 20 180

theorem tab_ok : TabOk Tryd.prog tab := tabOk_plain (by kernel_rfl) (by kernel_rfl) (fun h => by cases h)
abbrev n_law_GateOnce : Nat := 5
noncomputable abbrev fn_law_GateOnce : Func := Tryd.f5
abbrev n_meta_ReleaseText : Nat := 8
noncomputable abbrev fn_meta_ReleaseText : Func := Tryd.f8
abbrev n_meta_ImageText : Nat := 12
noncomputable abbrev fn_meta_ImageText : Func := Tryd.f12
abbrev n_gate_Due : Nat := 14
noncomputable abbrev fn_gate_Due : Func := Tryd.f14
abbrev n_gate_Read : Nat := 15
noncomputable abbrev fn_gate_Read : Func := Tryd.f15
abbrev n_law_gated : Nat := 16
noncomputable abbrev fn_law_gated : Func := Tryd.f16
abbrev n_law_at : Nat := 17
noncomputable abbrev fn_law_at : Func := Tryd.f17
abbrev n_gate_GiveUp : Nat := 18
noncomputable abbrev fn_gate_GiveUp : Func := Tryd.f18
abbrev n_gate_Hear : Nat := 19
noncomputable abbrev fn_gate_Hear : Func := Tryd.f19
abbrev n_gate_Boot : Nat := 20
noncomputable abbrev fn_gate_Boot : Func := Tryd.f20
abbrev n_meta_RootText : Nat := 24
noncomputable abbrev fn_meta_RootText : Func := Tryd.f24
abbrev n_meta_CheckRoot : Nat := 28
noncomputable abbrev fn_meta_CheckRoot : Func := Tryd.f28
abbrev n_meta_CheckRelease : Nat := 29
noncomputable abbrev fn_meta_CheckRelease : Func := Tryd.f29
abbrev n_meta_CheckImage : Nat := 30
noncomputable abbrev fn_meta_CheckImage : Func := Tryd.f30
abbrev n_strconv_Itoa : Nat := 35
noncomputable abbrev fn_strconv_Itoa : Func := Tryd.f35
abbrev n_meta_list : Nat := 36
noncomputable abbrev fn_meta_list : Func := Tryd.f36
abbrev n_meta_ImageName : Nat := 37
noncomputable abbrev fn_meta_ImageName : Func := Tryd.f37
abbrev n_gate_up : Nat := 41
noncomputable abbrev fn_gate_up : Func := Tryd.f41
abbrev n_gate_of : Nat := 42
noncomputable abbrev fn_gate_of : Func := Tryd.f42
abbrev n_gate_decision : Nat := 43
noncomputable abbrev fn_gate_decision : Func := Tryd.f43
abbrev n_slices_Clone_Lint : Nat := 44
noncomputable abbrev fn_slices_Clone_Lint : Func := Tryd.f44
abbrev n_gate_Check : Nat := 45
noncomputable abbrev fn_gate_Check : Func := Tryd.f45
abbrev n_law_simple : Nat := 46
noncomputable abbrev fn_law_simple : Func := Tryd.f46
abbrev n_gate_New : Nat := 47
noncomputable abbrev fn_gate_New : Func := Tryd.f47
abbrev n_gate_Begin : Nat := 48
noncomputable abbrev fn_gate_Begin : Func := Tryd.f48
abbrev n_gate_Copy : Nat := 49
noncomputable abbrev fn_gate_Copy : Func := Tryd.f49
abbrev n_gate_note : Nat := 50
noncomputable abbrev fn_gate_note : Func := Tryd.f50
abbrev n_slices_Contains_Lbool : Nat := 51
noncomputable abbrev fn_slices_Contains_Lbool : Func := Tryd.f51
abbrev n_gate_forget : Nat := 52
noncomputable abbrev fn_gate_forget : Func := Tryd.f52
abbrev n_strings_Join : Nat := 59
noncomputable abbrev fn_strings_Join : Func := Tryd.f59
abbrev n_meta_Name : Nat := 67
noncomputable abbrev fn_meta_Name : Func := Tryd.f67
abbrev n_log_Records : Nat := 70
noncomputable abbrev fn_log_Records : Func := Tryd.f70
abbrev n_gate_state : Nat := 71
noncomputable abbrev fn_gate_state : Func := Tryd.f71
abbrev n_log_Check : Nat := 72
noncomputable abbrev fn_log_Check : Func := Tryd.f72
abbrev n_trust_CheckTrust : Nat := 73
noncomputable abbrev fn_trust_CheckTrust : Func := Tryd.f73
abbrev n_flash_New : Nat := 74
noncomputable abbrev fn_flash_New : Func := Tryd.f74
abbrev n_log_Format : Nat := 75
noncomputable abbrev fn_log_Format : Func := Tryd.f75
abbrev n_trust_Take : Nat := 76
noncomputable abbrev fn_trust_Take : Func := Tryd.f76
abbrev n_flash_Copy : Nat := 77
noncomputable abbrev fn_flash_Copy : Func := Tryd.f77
abbrev n_slices_Clone_Lbool : Nat := 78
noncomputable abbrev fn_slices_Clone_Lbool : Func := Tryd.f78
abbrev n_log_Append : Nat := 79
noncomputable abbrev fn_log_Append : Func := Tryd.f79
abbrev n_gate_keep : Nat := 80
noncomputable abbrev fn_gate_keep : Func := Tryd.f80
abbrev n_slices_Index_Lbool : Nat := 81
noncomputable abbrev fn_slices_Index_Lbool : Func := Tryd.f81
abbrev n_meta_CheckBook : Nat := 93
noncomputable abbrev fn_meta_CheckBook : Func := Tryd.f93
abbrev n_slices_Index_Lstring : Nat := 94
noncomputable abbrev fn_slices_Index_Lstring : Func := Tryd.f94
abbrev n_log_live : Nat := 99
noncomputable abbrev fn_log_live : Func := Tryd.f99
abbrev n_log_scan : Nat := 100
noncomputable abbrev fn_log_scan : Func := Tryd.f100
abbrev n_flash_Check : Nat := 101
noncomputable abbrev fn_flash_Check : Func := Tryd.f101
abbrev n_slices_Repeat_Lint : Nat := 102
noncomputable abbrev fn_slices_Repeat_Lint : Func := Tryd.f102
abbrev n_flash_Wipe : Nat := 103
noncomputable abbrev fn_flash_Wipe : Func := Tryd.f103
abbrev n_flash_Burn : Nat := 104
noncomputable abbrev fn_flash_Burn : Func := Tryd.f104
abbrev n_trust_Take_1 : Nat := 105
noncomputable abbrev fn_trust_Take_1 : Func := Tryd.f105
abbrev n_trust_Turn : Nat := 106
noncomputable abbrev fn_trust_Turn : Func := Tryd.f106
abbrev n_trust_Count : Nat := 107
noncomputable abbrev fn_trust_Count : Func := Tryd.f107
abbrev n_log_check : Nat := 108
noncomputable abbrev fn_log_check : Func := Tryd.f108
abbrev n_slices_Clone_LRecord : Nat := 109
noncomputable abbrev fn_slices_Clone_LRecord : Func := Tryd.f109
abbrev n_log_words : Nat := 110
noncomputable abbrev fn_log_words : Func := Tryd.f110
abbrev n_slices_Contains_Lstring : Nat := 125
noncomputable abbrev fn_slices_Contains_Lstring : Func := Tryd.f125
abbrev n_slices_Clone_Record : Nat := 129
noncomputable abbrev fn_slices_Clone_Record : Func := Tryd.f129
abbrev n_math_bits_Mul : Nat := 130
noncomputable abbrev fn_math_bits_Mul : Func := Tryd.f130
abbrev n_flash_burn : Nat := 131
noncomputable abbrev fn_flash_burn : Func := Tryd.f131
abbrev n_trust_CheckSigned : Nat := 132
noncomputable abbrev fn_trust_CheckSigned : Func := Tryd.f132
abbrev n_slices_Contains_Lint : Nat := 133
noncomputable abbrev fn_slices_Contains_Lint : Func := Tryd.f133
abbrev n_slices_Contains_LSigned : Nat := 134
noncomputable abbrev fn_slices_Contains_LSigned : Func := Tryd.f134
abbrev n_slices_ContainsFunc_Record : Nat := 135
noncomputable abbrev fn_slices_ContainsFunc_Record : Func := Tryd.f135
abbrev n_log_check_1 : Nat := 136
noncomputable abbrev fn_log_check_1 : Func := Tryd.f136
abbrev n_log_head : Nat := 137
noncomputable abbrev fn_log_head : Func := Tryd.f137
abbrev n_slices_Index_Lint : Nat := 156
noncomputable abbrev fn_slices_Index_Lint : Func := Tryd.f156
abbrev n_slices_Index_LSigned : Nat := 157
noncomputable abbrev fn_slices_Index_LSigned : Func := Tryd.f157
abbrev n_slices_IndexFunc_Record : Nat := 158
noncomputable abbrev fn_slices_IndexFunc_Record : Func := Tryd.f158
theorem hf_law_GateOnce : Tryd.prog.funcs[n_law_GateOnce]? = some fn_law_GateOnce := Tryd.func5
theorem hB_law_GateOnce : fnB fn_law_GateOnce = true := by kernel_rfl
theorem hf_meta_ReleaseText : Tryd.prog.funcs[n_meta_ReleaseText]? = some fn_meta_ReleaseText := Tryd.func8
theorem hB_meta_ReleaseText : fnB fn_meta_ReleaseText = true := by kernel_rfl
theorem hf_meta_ImageText : Tryd.prog.funcs[n_meta_ImageText]? = some fn_meta_ImageText := Tryd.func12
theorem hB_meta_ImageText : fnB fn_meta_ImageText = true := by kernel_rfl
theorem hf_gate_Due : Tryd.prog.funcs[n_gate_Due]? = some fn_gate_Due := Tryd.func14
theorem hB_gate_Due : fnB fn_gate_Due = true := by kernel_rfl
theorem hf_gate_Read : Tryd.prog.funcs[n_gate_Read]? = some fn_gate_Read := Tryd.func15
theorem hB_gate_Read : fnB fn_gate_Read = true := by kernel_rfl
theorem hf_law_gated : Tryd.prog.funcs[n_law_gated]? = some fn_law_gated := Tryd.func16
theorem hB_law_gated : fnB fn_law_gated = true := by kernel_rfl
theorem hf_law_at : Tryd.prog.funcs[n_law_at]? = some fn_law_at := Tryd.func17
theorem hB_law_at : fnB fn_law_at = true := by kernel_rfl
theorem hf_gate_GiveUp : Tryd.prog.funcs[n_gate_GiveUp]? = some fn_gate_GiveUp := Tryd.func18
theorem hB_gate_GiveUp : fnB fn_gate_GiveUp = true := by kernel_rfl
theorem hf_gate_Hear : Tryd.prog.funcs[n_gate_Hear]? = some fn_gate_Hear := Tryd.func19
theorem hB_gate_Hear : fnB fn_gate_Hear = true := by kernel_rfl
theorem hf_gate_Boot : Tryd.prog.funcs[n_gate_Boot]? = some fn_gate_Boot := Tryd.func20
theorem hB_gate_Boot : fnB fn_gate_Boot = true := by kernel_rfl
theorem hf_meta_RootText : Tryd.prog.funcs[n_meta_RootText]? = some fn_meta_RootText := Tryd.func24
theorem hB_meta_RootText : fnB fn_meta_RootText = true := by kernel_rfl
theorem hf_meta_CheckRoot : Tryd.prog.funcs[n_meta_CheckRoot]? = some fn_meta_CheckRoot := Tryd.func28
theorem hB_meta_CheckRoot : fnB fn_meta_CheckRoot = true := by kernel_rfl
theorem hf_meta_CheckRelease : Tryd.prog.funcs[n_meta_CheckRelease]? = some fn_meta_CheckRelease := Tryd.func29
theorem hB_meta_CheckRelease : fnB fn_meta_CheckRelease = true := by kernel_rfl
theorem hf_meta_CheckImage : Tryd.prog.funcs[n_meta_CheckImage]? = some fn_meta_CheckImage := Tryd.func30
theorem hB_meta_CheckImage : fnB fn_meta_CheckImage = true := by kernel_rfl
theorem hf_strconv_Itoa : Tryd.prog.funcs[n_strconv_Itoa]? = some fn_strconv_Itoa := Tryd.func35
theorem hB_strconv_Itoa : fnB fn_strconv_Itoa = true := by kernel_rfl
theorem hf_meta_list : Tryd.prog.funcs[n_meta_list]? = some fn_meta_list := Tryd.func36
theorem hB_meta_list : fnB fn_meta_list = true := by kernel_rfl
theorem hf_meta_ImageName : Tryd.prog.funcs[n_meta_ImageName]? = some fn_meta_ImageName := Tryd.func37
theorem hB_meta_ImageName : fnB fn_meta_ImageName = true := by kernel_rfl
theorem hf_gate_up : Tryd.prog.funcs[n_gate_up]? = some fn_gate_up := Tryd.func41
theorem hB_gate_up : fnB fn_gate_up = true := by kernel_rfl
theorem hf_gate_of : Tryd.prog.funcs[n_gate_of]? = some fn_gate_of := Tryd.func42
theorem hB_gate_of : fnB fn_gate_of = true := by kernel_rfl
theorem hf_gate_decision : Tryd.prog.funcs[n_gate_decision]? = some fn_gate_decision := Tryd.func43
theorem hB_gate_decision : fnB fn_gate_decision = true := by kernel_rfl
theorem hf_slices_Clone_Lint : Tryd.prog.funcs[n_slices_Clone_Lint]? = some fn_slices_Clone_Lint := Tryd.func44
theorem hB_slices_Clone_Lint : fnB fn_slices_Clone_Lint = true := by kernel_rfl
theorem hf_gate_Check : Tryd.prog.funcs[n_gate_Check]? = some fn_gate_Check := Tryd.func45
theorem hB_gate_Check : fnB fn_gate_Check = true := by kernel_rfl
theorem hf_law_simple : Tryd.prog.funcs[n_law_simple]? = some fn_law_simple := Tryd.func46
theorem hB_law_simple : fnB fn_law_simple = true := by kernel_rfl
theorem hf_gate_New : Tryd.prog.funcs[n_gate_New]? = some fn_gate_New := Tryd.func47
theorem hB_gate_New : fnB fn_gate_New = true := by kernel_rfl
theorem hf_gate_Begin : Tryd.prog.funcs[n_gate_Begin]? = some fn_gate_Begin := Tryd.func48
theorem hB_gate_Begin : fnB fn_gate_Begin = true := by kernel_rfl
theorem hf_gate_Copy : Tryd.prog.funcs[n_gate_Copy]? = some fn_gate_Copy := Tryd.func49
theorem hB_gate_Copy : fnB fn_gate_Copy = true := by kernel_rfl
theorem hf_gate_note : Tryd.prog.funcs[n_gate_note]? = some fn_gate_note := Tryd.func50
theorem hB_gate_note : fnB fn_gate_note = true := by kernel_rfl
theorem hf_slices_Contains_Lbool : Tryd.prog.funcs[n_slices_Contains_Lbool]? = some fn_slices_Contains_Lbool := Tryd.func51
theorem hB_slices_Contains_Lbool : fnB fn_slices_Contains_Lbool = true := by kernel_rfl
theorem hf_gate_forget : Tryd.prog.funcs[n_gate_forget]? = some fn_gate_forget := Tryd.func52
theorem hB_gate_forget : fnB fn_gate_forget = true := by kernel_rfl
theorem hf_strings_Join : Tryd.prog.funcs[n_strings_Join]? = some fn_strings_Join := Tryd.func59
theorem hB_strings_Join : fnB fn_strings_Join = true := by kernel_rfl
theorem hf_meta_Name : Tryd.prog.funcs[n_meta_Name]? = some fn_meta_Name := Tryd.func67
theorem hB_meta_Name : fnB fn_meta_Name = true := by kernel_rfl
theorem hf_log_Records : Tryd.prog.funcs[n_log_Records]? = some fn_log_Records := Tryd.func70
theorem hB_log_Records : fnB fn_log_Records = true := by kernel_rfl
theorem hf_gate_state : Tryd.prog.funcs[n_gate_state]? = some fn_gate_state := Tryd.func71
theorem hB_gate_state : fnB fn_gate_state = true := by kernel_rfl
theorem hf_log_Check : Tryd.prog.funcs[n_log_Check]? = some fn_log_Check := Tryd.func72
theorem hB_log_Check : fnB fn_log_Check = true := by kernel_rfl
theorem hf_trust_CheckTrust : Tryd.prog.funcs[n_trust_CheckTrust]? = some fn_trust_CheckTrust := Tryd.func73
theorem hB_trust_CheckTrust : fnB fn_trust_CheckTrust = true := by kernel_rfl
theorem hf_flash_New : Tryd.prog.funcs[n_flash_New]? = some fn_flash_New := Tryd.func74
theorem hB_flash_New : fnB fn_flash_New = true := by kernel_rfl
theorem hf_log_Format : Tryd.prog.funcs[n_log_Format]? = some fn_log_Format := Tryd.func75
theorem hB_log_Format : fnB fn_log_Format = true := by kernel_rfl
theorem hf_trust_Take : Tryd.prog.funcs[n_trust_Take]? = some fn_trust_Take := Tryd.func76
theorem hB_trust_Take : fnB fn_trust_Take = true := by kernel_rfl
theorem hf_flash_Copy : Tryd.prog.funcs[n_flash_Copy]? = some fn_flash_Copy := Tryd.func77
theorem hB_flash_Copy : fnB fn_flash_Copy = true := by kernel_rfl
theorem hf_slices_Clone_Lbool : Tryd.prog.funcs[n_slices_Clone_Lbool]? = some fn_slices_Clone_Lbool := Tryd.func78
theorem hB_slices_Clone_Lbool : fnB fn_slices_Clone_Lbool = true := by kernel_rfl
theorem hf_log_Append : Tryd.prog.funcs[n_log_Append]? = some fn_log_Append := Tryd.func79
theorem hB_log_Append : fnB fn_log_Append = true := by kernel_rfl
theorem hf_gate_keep : Tryd.prog.funcs[n_gate_keep]? = some fn_gate_keep := Tryd.func80
theorem hB_gate_keep : fnB fn_gate_keep = true := by kernel_rfl
theorem hf_slices_Index_Lbool : Tryd.prog.funcs[n_slices_Index_Lbool]? = some fn_slices_Index_Lbool := Tryd.func81
theorem hB_slices_Index_Lbool : fnB fn_slices_Index_Lbool = true := by kernel_rfl
theorem hf_meta_CheckBook : Tryd.prog.funcs[n_meta_CheckBook]? = some fn_meta_CheckBook := Tryd.func93
theorem hB_meta_CheckBook : fnB fn_meta_CheckBook = true := by kernel_rfl
theorem hf_slices_Index_Lstring : Tryd.prog.funcs[n_slices_Index_Lstring]? = some fn_slices_Index_Lstring := Tryd.func94
theorem hB_slices_Index_Lstring : fnB fn_slices_Index_Lstring = true := by kernel_rfl
theorem hf_log_live : Tryd.prog.funcs[n_log_live]? = some fn_log_live := Tryd.func99
theorem hB_log_live : fnB fn_log_live = true := by kernel_rfl
theorem hf_log_scan : Tryd.prog.funcs[n_log_scan]? = some fn_log_scan := Tryd.func100
theorem hB_log_scan : fnB fn_log_scan = true := by kernel_rfl
theorem hf_flash_Check : Tryd.prog.funcs[n_flash_Check]? = some fn_flash_Check := Tryd.func101
theorem hB_flash_Check : fnB fn_flash_Check = true := by kernel_rfl
theorem hf_slices_Repeat_Lint : Tryd.prog.funcs[n_slices_Repeat_Lint]? = some fn_slices_Repeat_Lint := Tryd.func102
theorem hB_slices_Repeat_Lint : fnB fn_slices_Repeat_Lint = true := by kernel_rfl
theorem hf_flash_Wipe : Tryd.prog.funcs[n_flash_Wipe]? = some fn_flash_Wipe := Tryd.func103
theorem hB_flash_Wipe : fnB fn_flash_Wipe = true := by kernel_rfl
theorem hf_flash_Burn : Tryd.prog.funcs[n_flash_Burn]? = some fn_flash_Burn := Tryd.func104
theorem hB_flash_Burn : fnB fn_flash_Burn = true := by kernel_rfl
theorem hf_trust_Take_1 : Tryd.prog.funcs[n_trust_Take_1]? = some fn_trust_Take_1 := Tryd.func105
theorem hB_trust_Take_1 : fnB fn_trust_Take_1 = true := by kernel_rfl
theorem hf_trust_Turn : Tryd.prog.funcs[n_trust_Turn]? = some fn_trust_Turn := Tryd.func106
theorem hB_trust_Turn : fnB fn_trust_Turn = true := by kernel_rfl
theorem hf_trust_Count : Tryd.prog.funcs[n_trust_Count]? = some fn_trust_Count := Tryd.func107
theorem hB_trust_Count : fnB fn_trust_Count = true := by kernel_rfl
theorem hf_log_check : Tryd.prog.funcs[n_log_check]? = some fn_log_check := Tryd.func108
theorem hB_log_check : fnB fn_log_check = true := by kernel_rfl
theorem hf_slices_Clone_LRecord : Tryd.prog.funcs[n_slices_Clone_LRecord]? = some fn_slices_Clone_LRecord := Tryd.func109
theorem hB_slices_Clone_LRecord : fnB fn_slices_Clone_LRecord = true := by kernel_rfl
theorem hf_log_words : Tryd.prog.funcs[n_log_words]? = some fn_log_words := Tryd.func110
theorem hB_log_words : fnB fn_log_words = true := by kernel_rfl
theorem hf_slices_Contains_Lstring : Tryd.prog.funcs[n_slices_Contains_Lstring]? = some fn_slices_Contains_Lstring := Tryd.func125
theorem hB_slices_Contains_Lstring : fnB fn_slices_Contains_Lstring = true := by kernel_rfl
theorem hf_slices_Clone_Record : Tryd.prog.funcs[n_slices_Clone_Record]? = some fn_slices_Clone_Record := Tryd.func129
theorem hB_slices_Clone_Record : fnB fn_slices_Clone_Record = true := by kernel_rfl
theorem hf_math_bits_Mul : Tryd.prog.funcs[n_math_bits_Mul]? = some fn_math_bits_Mul := Tryd.func130
theorem hB_math_bits_Mul : fnB fn_math_bits_Mul = true := by kernel_rfl
theorem hf_flash_burn : Tryd.prog.funcs[n_flash_burn]? = some fn_flash_burn := Tryd.func131
theorem hB_flash_burn : fnB fn_flash_burn = true := by kernel_rfl
theorem hf_trust_CheckSigned : Tryd.prog.funcs[n_trust_CheckSigned]? = some fn_trust_CheckSigned := Tryd.func132
theorem hB_trust_CheckSigned : fnB fn_trust_CheckSigned = true := by kernel_rfl
theorem hf_slices_Contains_Lint : Tryd.prog.funcs[n_slices_Contains_Lint]? = some fn_slices_Contains_Lint := Tryd.func133
theorem hB_slices_Contains_Lint : fnB fn_slices_Contains_Lint = true := by kernel_rfl
theorem hf_slices_Contains_LSigned : Tryd.prog.funcs[n_slices_Contains_LSigned]? = some fn_slices_Contains_LSigned := Tryd.func134
theorem hB_slices_Contains_LSigned : fnB fn_slices_Contains_LSigned = true := by kernel_rfl
theorem hf_slices_ContainsFunc_Record : Tryd.prog.funcs[n_slices_ContainsFunc_Record]? = some fn_slices_ContainsFunc_Record := Tryd.func135
theorem hB_slices_ContainsFunc_Record : fnB fn_slices_ContainsFunc_Record = true := by kernel_rfl
theorem hf_log_check_1 : Tryd.prog.funcs[n_log_check_1]? = some fn_log_check_1 := Tryd.func136
theorem hB_log_check_1 : fnB fn_log_check_1 = true := by kernel_rfl
theorem hf_log_head : Tryd.prog.funcs[n_log_head]? = some fn_log_head := Tryd.func137
theorem hB_log_head : fnB fn_log_head = true := by kernel_rfl
theorem hf_slices_Index_Lint : Tryd.prog.funcs[n_slices_Index_Lint]? = some fn_slices_Index_Lint := Tryd.func156
theorem hB_slices_Index_Lint : fnB fn_slices_Index_Lint = true := by kernel_rfl
theorem hf_slices_Index_LSigned : Tryd.prog.funcs[n_slices_Index_LSigned]? = some fn_slices_Index_LSigned := Tryd.func157
theorem hB_slices_Index_LSigned : fnB fn_slices_Index_LSigned = true := by kernel_rfl
theorem hf_slices_IndexFunc_Record : Tryd.prog.funcs[n_slices_IndexFunc_Record]? = some fn_slices_IndexFunc_Record := Tryd.func158
theorem hB_slices_IndexFunc_Record : fnB fn_slices_IndexFunc_Record = true := by kernel_rfl
theorem ok_nil : Ok Tryd.prog tab [] := Ok.nil tab_ok (by kernel_rfl)
end Go.Proofs.YtlbppjmekiemiacDoor
