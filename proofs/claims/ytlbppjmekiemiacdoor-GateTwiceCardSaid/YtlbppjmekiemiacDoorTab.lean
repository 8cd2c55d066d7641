/- The types of the program, checked; its functions by name. No condition. -/
import Derived.Test.YtlbppjmekiemiacDoorVmc
import Derived.Test.YtlbppjmekiemiacDoorChecked
import Derived.KernelRfl
import Derived.WalkKit
namespace Go.Proofs.YtlbppjmekiemiacDoor
open Vm
noncomputable def tab : Tab := ⟨[
  (2, ⟨1, .int, [.dat Ty.int (0 : Int)], [], [], 0⟩),
  (3, ⟨1, .int, [.dat Ty.int (0 : Int)], [], [], 0⟩),
  (4, ⟨1, .bool, [.dat Ty.bool false], [], [], 0⟩),
  (9, ⟨1, .str, [.dat Ty.str []], [], [], 0⟩),
  (22, ⟨1, .slice Ty.target 58, [.nil Ty.target], [], [], 24⟩),
  (24, ⟨3, .struct, [.dat Ty.int (0 : Int), .dat Ty.int (0 : Int), .nil Ty.target], [0, 1, 2], [1, 1, 1], 0⟩),
  (25, ⟨1, .slice Ty.int 3, [.nil Ty.int], [], [], 8⟩),
  (26, ⟨1, .int, [.dat Ty.int (0 : Int)], [], [], 0⟩),
  (37, ⟨2, .struct, [.nil Ty.int, .dat Ty.int (0 : Int)], [0, 1], [1, 1], 0⟩),
  (39, ⟨3, .struct, [.dat Ty.int (0 : Int), .nil Ty.int, .dat Ty.int (0 : Int)], [0, 1, 2], [1, 1, 1], 0⟩),
  (41, ⟨4, .struct, [.dat Ty.int (0 : Int), .nil Ty.int, .dat Ty.int (0 : Int), .dat Ty.int (0 : Int)], [0, 3], [3, 1], 0⟩),
  (42, ⟨1, .slice Ty.bool 4, [.nil Ty.bool], [], [], 1⟩),
  (44, ⟨9, .struct, [.nil Ty.int, .dat Ty.int (0 : Int), .dat Ty.bool false, .dat Ty.int (0 : Int), .nil Ty.int, .dat Ty.int (0 : Int), .dat Ty.int (0 : Int), .nil Ty.bool, .nil Ty.bool], [0, 2, 3, 7, 8], [2, 1, 4, 1, 1], 0⟩),
  (45, ⟨1, .slice (Ty.list Ty.int) 25, [.nil (Ty.list Ty.int)], [], [], 24⟩),
  (47, ⟨5, .struct, [.dat Ty.int (0 : Int), .dat Ty.int (0 : Int), .dat Ty.int (0 : Int), .nil Ty.target, .nil (Ty.list Ty.int)], [0, 1, 4], [1, 3, 1], 0⟩),
  (48, ⟨1, .slice Ty.message 56, [.nil Ty.message], [], [], 72⟩),
  (52, ⟨5, .struct, [.dat Ty.int (0 : Int), .dat Ty.int (0 : Int), .dat Ty.bool false, .dat Ty.bool false, .dat Ty.bool false], [0, 1, 2, 3, 4], [1, 1, 1, 1, 1], 0⟩),
  (56, ⟨7, .struct, [.dat Ty.int (0 : Int), .dat Ty.int (0 : Int), .dat Ty.int (0 : Int), .dat Ty.int (0 : Int), .dat Ty.int (0 : Int), .nil Ty.int, .dat Ty.bool false], [0, 1, 2, 3, 4, 5, 6], [1, 1, 1, 1, 1, 1, 1], 0⟩),
  (58, ⟨3, .struct, [.dat Ty.int (0 : Int), .dat Ty.int (0 : Int), .dat Ty.int (0 : Int)], [0, 1, 2], [1, 1, 1], 0⟩),
  (81, ⟨1, .slice Ty.str 9, [.nil Ty.str], [], [], 16⟩),
  (83, ⟨1, .struct, [.nil Ty.str], [0], [1], 0⟩),
  (92, ⟨1, .slice Ty.signed 139, [.nil Ty.signed], [], [], 16⟩),
  (93, ⟨1, .slice Ty.root 39, [.nil Ty.root], [], [], 40⟩),
  (95, ⟨7, .struct, [.nil Ty.root, .nil (Ty.list Ty.int), .dat Ty.int (0 : Int), .dat Ty.int (0 : Int), .nil Ty.target, .nil Ty.int, .nil (Ty.list Ty.int)], [0, 1, 2, 5, 6], [1, 1, 3, 1, 1], 0⟩),
  (103, ⟨1, .other, [.undef], [], [], 0⟩),
  (104, ⟨1, .slice Ty.int 3, [.nil Ty.int], [], [], 8⟩),
  (110, ⟨1, .other, [.undef], [], [], 0⟩),
  (112, ⟨3, .array 3 1, [.dat Ty.int (0 : Int), .dat Ty.int (0 : Int), .dat Ty.int (0 : Int)], [0, 1, 2], [1, 1, 1], 0⟩),
  (113, ⟨9, .array 3 3, [.dat Ty.int (0 : Int), .dat Ty.int (0 : Int), .dat Ty.int (0 : Int), .dat Ty.int (0 : Int), .dat Ty.int (0 : Int), .dat Ty.int (0 : Int), .dat Ty.int (0 : Int), .dat Ty.int (0 : Int), .dat Ty.int (0 : Int)], [0, 3, 6], [3, 3, 3], 0⟩),
  (116, ⟨1, .other, [.undef], [], [], 0⟩),
  (122, ⟨1, .other, [.undef], [], [], 0⟩),
  (132, ⟨1, .slice (Ty.list Ty.int) 104, [.nil (Ty.list Ty.int)], [], [], 24⟩),
  (139, ⟨2, .struct, [.dat Ty.int (0 : Int), .dat Ty.int (0 : Int)], [0, 1], [1, 1], 0⟩),
  (151, ⟨1, .other, [.undef], [], [], 0⟩),
  (169, ⟨1, .other, [.undef], [], [], 0⟩),
  (171, ⟨1, .other, [.undef], [], [], 0⟩),
  (183, ⟨1, .u64, [.undef], [], [], 0⟩),
  (202, ⟨6, .array 2 3, [.dat Ty.int (0 : Int), .nil Ty.int, .dat Ty.int (0 : Int), .dat Ty.int (0 : Int), .nil Ty.int, .dat Ty.int (0 : Int)], [0, 3], [3, 3], 0⟩)
  ], 999999, 999999, [52, 58, 139], false, some 2⟩
-- pow 2 218 20 180

theorem tab_ok : TabOk Tryd.prog tab := tabOk_plain (by kernel_rfl) (by kernel_rfl) (fun h => by cases h)
abbrev n_law_MetaBack : Nat := 3
noncomputable abbrev fn_law_MetaBack : Func := Tryd.f3
abbrev n_law_GatePieces : Nat := 4
noncomputable abbrev fn_law_GatePieces : Func := Tryd.f4
abbrev n_law_GateOnce : Nat := 5
noncomputable abbrev fn_law_GateOnce : Func := Tryd.f5
abbrev n_law_GateTwice : Nat := 6
noncomputable abbrev fn_law_GateTwice : Func := Tryd.f6
abbrev n_law_MetaSays : Nat := 7
noncomputable abbrev fn_law_MetaSays : Func := Tryd.f7
abbrev n_meta_ReleaseText : Nat := 8
noncomputable abbrev fn_meta_ReleaseText : Func := Tryd.f8
abbrev n_law_written : Nat := 9
noncomputable abbrev fn_law_written : Func := Tryd.f9
abbrev n_ref_SameRelease : Nat := 10
noncomputable abbrev fn_ref_SameRelease : Func := Tryd.f10
abbrev n_meta_ParseRelease : Nat := 11
noncomputable abbrev fn_meta_ParseRelease : Func := Tryd.f11
abbrev n_meta_ImageText : Nat := 12
noncomputable abbrev fn_meta_ImageText : Func := Tryd.f12
abbrev n_slices_Equal_Lint : Nat := 13
noncomputable abbrev fn_slices_Equal_Lint : Func := Tryd.f13
abbrev n_gate_Due : Nat := 14
noncomputable abbrev fn_gate_Due : Func := Tryd.f14
abbrev n_gate_Read : Nat := 15
noncomputable abbrev fn_gate_Read : Func := Tryd.f15
abbrev n_law_gated : Nat := 16
noncomputable abbrev fn_law_gated : Func := Tryd.f16
abbrev n_law_at : Nat := 17
noncomputable abbrev fn_law_at : Func := Tryd.f17
abbrev n_gate_GiveUp : Nat := 18
noncomputable abbrev fn_gate_GiveUp : Func := Tryd.f18
abbrev n_gate_Hear : Nat := 19
noncomputable abbrev fn_gate_Hear : Func := Tryd.f19
abbrev n_gate_Boot : Nat := 20
noncomputable abbrev fn_gate_Boot : Func := Tryd.f20
abbrev n_ref_SameGate : Nat := 21
noncomputable abbrev fn_ref_SameGate : Func := Tryd.f21
abbrev n_ref_SameMessages : Nat := 22
noncomputable abbrev fn_ref_SameMessages : Func := Tryd.f22
abbrev n_slices_Equal_Lbool : Nat := 23
noncomputable abbrev fn_slices_Equal_Lbool : Func := Tryd.f23
abbrev n_meta_RootText : Nat := 24
noncomputable abbrev fn_meta_RootText : Func := Tryd.f24
abbrev n_ref_CheckRoot : Nat := 25
noncomputable abbrev fn_ref_CheckRoot : Func := Tryd.f25
abbrev n_ref_CheckRelease : Nat := 26
noncomputable abbrev fn_ref_CheckRelease : Func := Tryd.f26
abbrev n_ref_CheckImage : Nat := 27
noncomputable abbrev fn_ref_CheckImage : Func := Tryd.f27
abbrev n_meta_CheckRoot : Nat := 28
noncomputable abbrev fn_meta_CheckRoot : Func := Tryd.f28
abbrev n_meta_CheckRelease : Nat := 29
noncomputable abbrev fn_meta_CheckRelease : Func := Tryd.f29
abbrev n_meta_CheckImage : Nat := 30
noncomputable abbrev fn_meta_CheckImage : Func := Tryd.f30
abbrev n_ref_RootText : Nat := 31
noncomputable abbrev fn_ref_RootText : Func := Tryd.f31
abbrev n_ref_ReleaseText : Nat := 32
noncomputable abbrev fn_ref_ReleaseText : Func := Tryd.f32
abbrev n_ref_ImageText : Nat := 33
noncomputable abbrev fn_ref_ImageText : Func := Tryd.f33
abbrev n_ref_ReadRelease : Nat := 34
noncomputable abbrev fn_ref_ReadRelease : Func := Tryd.f34
abbrev n_strconv_Itoa : Nat := 35
noncomputable abbrev fn_strconv_Itoa : Func := Tryd.f35
abbrev n_meta_list : Nat := 36
noncomputable abbrev fn_meta_list : Func := Tryd.f36
abbrev n_meta_ImageName : Nat := 37
noncomputable abbrev fn_meta_ImageName : Func := Tryd.f37
abbrev n_slices_Equal_LTarget : Nat := 38
noncomputable abbrev fn_slices_Equal_LTarget : Func := Tryd.f38
abbrev n_strings_Split : Nat := 39
noncomputable abbrev fn_strings_Split : Func := Tryd.f39
abbrev n_meta_numbers : Nat := 40
noncomputable abbrev fn_meta_numbers : Func := Tryd.f40
abbrev n_gate_up : Nat := 41
noncomputable abbrev fn_gate_up : Func := Tryd.f41
abbrev n_gate_of : Nat := 42
noncomputable abbrev fn_gate_of : Func := Tryd.f42
abbrev n_gate_decision : Nat := 43
noncomputable abbrev fn_gate_decision : Func := Tryd.f43
abbrev n_slices_Clone_Lint : Nat := 44
noncomputable abbrev fn_slices_Clone_Lint : Func := Tryd.f44
abbrev n_gate_Check : Nat := 45
noncomputable abbrev fn_gate_Check : Func := Tryd.f45
abbrev n_law_simple : Nat := 46
noncomputable abbrev fn_law_simple : Func := Tryd.f46
abbrev n_gate_New : Nat := 47
noncomputable abbrev fn_gate_New : Func := Tryd.f47
abbrev n_gate_Begin : Nat := 48
noncomputable abbrev fn_gate_Begin : Func := Tryd.f48
abbrev n_gate_Copy : Nat := 49
noncomputable abbrev fn_gate_Copy : Func := Tryd.f49
abbrev n_gate_note : Nat := 50
noncomputable abbrev fn_gate_note : Func := Tryd.f50
abbrev n_slices_Contains_Lbool : Nat := 51
noncomputable abbrev fn_slices_Contains_Lbool : Func := Tryd.f51
abbrev n_gate_forget : Nat := 52
noncomputable abbrev fn_gate_forget : Func := Tryd.f52
abbrev n_ref_SameFlash : Nat := 53
noncomputable abbrev fn_ref_SameFlash : Func := Tryd.f53
abbrev n_ref_SameTrust : Nat := 54
noncomputable abbrev fn_ref_SameTrust : Func := Tryd.f54
abbrev n_slices_EqualFunc_LMessage : Nat := 55
noncomputable abbrev fn_slices_EqualFunc_LMessage : Func := Tryd.f55
abbrev n_ref_SameMessages_1 : Nat := 56
noncomputable abbrev fn_ref_SameMessages_1 : Func := Tryd.f56
abbrev n_ref_allWords : Nat := 57
noncomputable abbrev fn_ref_allWords : Func := Tryd.f57
abbrev n_ref_spaced : Nat := 58
noncomputable abbrev fn_ref_spaced : Func := Tryd.f58
abbrev n_strings_Join : Nat := 59
noncomputable abbrev fn_strings_Join : Func := Tryd.f59
abbrev n_ref_ReadRelease_1 : Nat := 60
noncomputable abbrev fn_ref_ReadRelease_1 : Func := Tryd.f60
abbrev n_ref_ReadRelease_2 : Nat := 61
noncomputable abbrev fn_ref_ReadRelease_2 : Func := Tryd.f61
abbrev n_strconv_ParseInt : Nat := 62
noncomputable abbrev fn_strconv_ParseInt : Func := Tryd.f62
abbrev n_strconv_FormatInt : Nat := 63
noncomputable abbrev fn_strconv_FormatInt : Func := Tryd.f63
abbrev n_strings_CutPrefix : Nat := 64
noncomputable abbrev fn_strings_CutPrefix : Func := Tryd.f64
abbrev n_strings_Cut : Nat := 65
noncomputable abbrev fn_strings_Cut : Func := Tryd.f65
abbrev n_meta_Name : Nat := 67
noncomputable abbrev fn_meta_Name : Func := Tryd.f67
abbrev n_strings_genSplit : Nat := 68
noncomputable abbrev fn_strings_genSplit : Func := Tryd.f68
abbrev n_strconv_Atoi : Nat := 69
noncomputable abbrev fn_strconv_Atoi : Func := Tryd.f69
abbrev n_log_Records : Nat := 70
noncomputable abbrev fn_log_Records : Func := Tryd.f70
abbrev n_gate_state : Nat := 71
noncomputable abbrev fn_gate_state : Func := Tryd.f71
abbrev n_log_Check : Nat := 72
noncomputable abbrev fn_log_Check : Func := Tryd.f72
abbrev n_trust_CheckTrust : Nat := 73
noncomputable abbrev fn_trust_CheckTrust : Func := Tryd.f73
abbrev n_flash_New : Nat := 74
noncomputable abbrev fn_flash_New : Func := Tryd.f74
abbrev n_log_Format : Nat := 75
noncomputable abbrev fn_log_Format : Func := Tryd.f75
abbrev n_trust_Take : Nat := 76
noncomputable abbrev fn_trust_Take : Func := Tryd.f76
abbrev n_flash_Copy : Nat := 77
noncomputable abbrev fn_flash_Copy : Func := Tryd.f77
abbrev n_slices_Clone_Lbool : Nat := 78
noncomputable abbrev fn_slices_Clone_Lbool : Func := Tryd.f78
abbrev n_log_Append : Nat := 79
noncomputable abbrev fn_log_Append : Func := Tryd.f79
abbrev n_gate_keep : Nat := 80
noncomputable abbrev fn_gate_keep : Func := Tryd.f80
abbrev n_slices_Index_Lbool : Nat := 81
noncomputable abbrev fn_slices_Index_Lbool : Func := Tryd.f81
abbrev n_slices_ContainsFunc_Lint : Nat := 82
noncomputable abbrev fn_slices_ContainsFunc_Lint : Func := Tryd.f82
abbrev n_ref_allWords_1 : Nat := 83
noncomputable abbrev fn_ref_allWords_1 : Func := Tryd.f83
abbrev n_ref_IsWord : Nat := 84
noncomputable abbrev fn_ref_IsWord : Func := Tryd.f84
abbrev n_strconv_toError : Nat := 89
noncomputable abbrev fn_strconv_toError : Func := Tryd.f89
abbrev n_meta_CheckBook : Nat := 93
noncomputable abbrev fn_meta_CheckBook : Func := Tryd.f93
abbrev n_slices_Index_Lstring : Nat := 94
noncomputable abbrev fn_slices_Index_Lstring : Func := Tryd.f94
abbrev n_strings_explode : Nat := 95
noncomputable abbrev fn_strings_explode : Func := Tryd.f95
abbrev n_strings_Count : Nat := 96
noncomputable abbrev fn_strings_Count : Func := Tryd.f96
abbrev n_strings_Index : Nat := 97
noncomputable abbrev fn_strings_Index : Func := Tryd.f97
abbrev n_log_live : Nat := 99
noncomputable abbrev fn_log_live : Func := Tryd.f99
abbrev n_log_scan : Nat := 100
noncomputable abbrev fn_log_scan : Func := Tryd.f100
abbrev n_flash_Check : Nat := 101
noncomputable abbrev fn_flash_Check : Func := Tryd.f101
abbrev n_slices_Repeat_Lint : Nat := 102
noncomputable abbrev fn_slices_Repeat_Lint : Func := Tryd.f102
abbrev n_flash_Wipe : Nat := 103
noncomputable abbrev fn_flash_Wipe : Func := Tryd.f103
abbrev n_flash_Burn : Nat := 104
noncomputable abbrev fn_flash_Burn : Func := Tryd.f104
abbrev n_trust_Take_1 : Nat := 105
noncomputable abbrev fn_trust_Take_1 : Func := Tryd.f105
abbrev n_trust_Turn : Nat := 106
noncomputable abbrev fn_trust_Turn : Func := Tryd.f106
abbrev n_trust_Count : Nat := 107
noncomputable abbrev fn_trust_Count : Func := Tryd.f107
abbrev n_log_check : Nat := 108
noncomputable abbrev fn_log_check : Func := Tryd.f108
abbrev n_slices_Clone_LRecord : Nat := 109
noncomputable abbrev fn_slices_Clone_LRecord : Func := Tryd.f109
abbrev n_log_words : Nat := 110
noncomputable abbrev fn_log_words : Func := Tryd.f110
abbrev n_slices_IndexFunc_Lint : Nat := 111
noncomputable abbrev fn_slices_IndexFunc_Lint : Func := Tryd.f111
abbrev n_strconv_syntaxError : Nat := 115
noncomputable abbrev fn_strconv_syntaxError : Func := Tryd.f115
abbrev n_strconv_rangeError : Nat := 116
noncomputable abbrev fn_strconv_rangeError : Func := Tryd.f116
abbrev n_strconv_baseError : Nat := 117
noncomputable abbrev fn_strconv_baseError : Func := Tryd.f117
abbrev n_strconv_bitSizeError : Nat := 118
noncomputable abbrev fn_strconv_bitSizeError : Func := Tryd.f118
abbrev n_slices_Contains_Lstring : Nat := 125
noncomputable abbrev fn_slices_Contains_Lstring : Func := Tryd.f125
abbrev n_slices_Clone_Record : Nat := 129
noncomputable abbrev fn_slices_Clone_Record : Func := Tryd.f129
abbrev n_math_bits_Mul : Nat := 130
noncomputable abbrev fn_math_bits_Mul : Func := Tryd.f130
abbrev n_flash_burn : Nat := 131
noncomputable abbrev fn_flash_burn : Func := Tryd.f131
abbrev n_trust_CheckSigned : Nat := 132
noncomputable abbrev fn_trust_CheckSigned : Func := Tryd.f132
abbrev n_slices_Contains_Lint : Nat := 133
noncomputable abbrev fn_slices_Contains_Lint : Func := Tryd.f133
abbrev n_slices_Contains_LSigned : Nat := 134
noncomputable abbrev fn_slices_Contains_LSigned : Func := Tryd.f134
abbrev n_slices_ContainsFunc_Record : Nat := 135
noncomputable abbrev fn_slices_ContainsFunc_Record : Func := Tryd.f135
abbrev n_log_check_1 : Nat := 136
noncomputable abbrev fn_log_check_1 : Func := Tryd.f136
abbrev n_log_head : Nat := 137
noncomputable abbrev fn_log_head : Func := Tryd.f137
abbrev n_math_bits_Len64 : Nat := 145
noncomputable abbrev fn_math_bits_Len64 : Func := Tryd.f145
abbrev n_math_bits_TrailingZeros : Nat := 148
noncomputable abbrev fn_math_bits_TrailingZeros : Func := Tryd.f148
abbrev n_math_bits_Mul32 : Nat := 154
noncomputable abbrev fn_math_bits_Mul32 : Func := Tryd.f154
abbrev n_math_bits_Mul64 : Nat := 155
noncomputable abbrev fn_math_bits_Mul64 : Func := Tryd.f155
abbrev n_slices_Index_Lint : Nat := 156
noncomputable abbrev fn_slices_Index_Lint : Func := Tryd.f156
abbrev n_slices_Index_LSigned : Nat := 157
noncomputable abbrev fn_slices_Index_LSigned : Func := Tryd.f157
abbrev n_slices_IndexFunc_Record : Nat := 158
noncomputable abbrev fn_slices_IndexFunc_Record : Func := Tryd.f158
abbrev n_math_bits_TrailingZeros32 : Nat := 159
noncomputable abbrev fn_math_bits_TrailingZeros32 : Func := Tryd.f159
abbrev n_math_bits_TrailingZeros64 : Nat := 160
noncomputable abbrev fn_math_bits_TrailingZeros64 : Func := Tryd.f160
def fnNames : List Nat := [n_law_MetaBack, n_law_GatePieces, n_law_GateOnce, n_law_GateTwice, n_law_MetaSays, n_meta_ReleaseText, n_law_written, n_ref_SameRelease, n_meta_ParseRelease, n_meta_ImageText, n_slices_Equal_Lint, n_gate_Due, n_gate_Read, n_law_gated, n_law_at, n_gate_GiveUp, n_gate_Hear, n_gate_Boot, n_ref_SameGate, n_ref_SameMessages, n_slices_Equal_Lbool, n_meta_RootText, n_ref_CheckRoot, n_ref_CheckRelease, n_ref_CheckImage, n_meta_CheckRoot, n_meta_CheckRelease, n_meta_CheckImage, n_ref_RootText, n_ref_ReleaseText, n_ref_ImageText, n_ref_ReadRelease, n_strconv_Itoa, n_meta_list, n_meta_ImageName, n_slices_Equal_LTarget, n_strings_Split, n_meta_numbers, n_gate_up, n_gate_of, n_gate_decision, n_slices_Clone_Lint, n_gate_Check, n_law_simple, n_gate_New, n_gate_Begin, n_gate_Copy, n_gate_note, n_slices_Contains_Lbool, n_gate_forget, n_ref_SameFlash, n_ref_SameTrust, n_slices_EqualFunc_LMessage, n_ref_SameMessages_1, n_ref_allWords, n_ref_spaced, n_strings_Join, n_ref_ReadRelease_1, n_ref_ReadRelease_2, n_strconv_ParseInt, n_strconv_FormatInt, n_strings_CutPrefix, n_strings_Cut, n_meta_Name, n_strings_genSplit, n_strconv_Atoi, n_log_Records, n_gate_state, n_log_Check, n_trust_CheckTrust, n_flash_New, n_log_Format, n_trust_Take, n_flash_Copy, n_slices_Clone_Lbool, n_log_Append, n_gate_keep, n_slices_Index_Lbool, n_slices_ContainsFunc_Lint, n_ref_allWords_1, n_ref_IsWord, n_strconv_toError, n_meta_CheckBook, n_slices_Index_Lstring, n_strings_explode, n_strings_Count, n_strings_Index, n_log_live, n_log_scan, n_flash_Check, n_slices_Repeat_Lint, n_flash_Wipe, n_flash_Burn, n_trust_Take_1, n_trust_Turn, n_trust_Count, n_log_check, n_slices_Clone_LRecord, n_log_words, n_slices_IndexFunc_Lint, n_strconv_syntaxError, n_strconv_rangeError, n_strconv_baseError, n_strconv_bitSizeError, n_slices_Contains_Lstring, n_slices_Clone_Record, n_math_bits_Mul, n_flash_burn, n_trust_CheckSigned, n_slices_Contains_Lint, n_slices_Contains_LSigned, n_slices_ContainsFunc_Record, n_log_check_1, n_log_head, n_math_bits_Len64, n_math_bits_TrailingZeros, n_math_bits_Mul32, n_math_bits_Mul64, n_slices_Index_Lint, n_slices_Index_LSigned, n_slices_IndexFunc_Record, n_math_bits_TrailingZeros32, n_math_bits_TrailingZeros64]
theorem hf_law_MetaBack : Tryd.prog.funcs[n_law_MetaBack]? = some fn_law_MetaBack := Tryd.func3
theorem hB_law_MetaBack : fnB fn_law_MetaBack = true := by kernel_rfl
theorem hf_law_GatePieces : Tryd.prog.funcs[n_law_GatePieces]? = some fn_law_GatePieces := Tryd.func4
theorem hB_law_GatePieces : fnB fn_law_GatePieces = true := by kernel_rfl
theorem hf_law_GateOnce : Tryd.prog.funcs[n_law_GateOnce]? = some fn_law_GateOnce := Tryd.func5
theorem hB_law_GateOnce : fnB fn_law_GateOnce = true := by kernel_rfl
theorem hf_law_GateTwice : Tryd.prog.funcs[n_law_GateTwice]? = some fn_law_GateTwice := Tryd.func6
theorem hB_law_GateTwice : fnB fn_law_GateTwice = true := by kernel_rfl
theorem hf_law_MetaSays : Tryd.prog.funcs[n_law_MetaSays]? = some fn_law_MetaSays := Tryd.func7
theorem hB_law_MetaSays : fnB fn_law_MetaSays = true := by kernel_rfl
theorem hf_meta_ReleaseText : Tryd.prog.funcs[n_meta_ReleaseText]? = some fn_meta_ReleaseText := Tryd.func8
theorem hB_meta_ReleaseText : fnB fn_meta_ReleaseText = true := by kernel_rfl
theorem hf_law_written : Tryd.prog.funcs[n_law_written]? = some fn_law_written := Tryd.func9
theorem hB_law_written : fnB fn_law_written = true := by kernel_rfl
theorem hf_ref_SameRelease : Tryd.prog.funcs[n_ref_SameRelease]? = some fn_ref_SameRelease := Tryd.func10
theorem hB_ref_SameRelease : fnB fn_ref_SameRelease = true := by kernel_rfl
theorem hf_meta_ParseRelease : Tryd.prog.funcs[n_meta_ParseRelease]? = some fn_meta_ParseRelease := Tryd.func11
theorem hB_meta_ParseRelease : fnB fn_meta_ParseRelease = true := by kernel_rfl
theorem hf_meta_ImageText : Tryd.prog.funcs[n_meta_ImageText]? = some fn_meta_ImageText := Tryd.func12
theorem hB_meta_ImageText : fnB fn_meta_ImageText = true := by kernel_rfl
theorem hf_slices_Equal_Lint : Tryd.prog.funcs[n_slices_Equal_Lint]? = some fn_slices_Equal_Lint := Tryd.func13
theorem hB_slices_Equal_Lint : fnB fn_slices_Equal_Lint = true := by kernel_rfl
theorem hf_gate_Due : Tryd.prog.funcs[n_gate_Due]? = some fn_gate_Due := Tryd.func14
theorem hB_gate_Due : fnB fn_gate_Due = true := by kernel_rfl
theorem hf_gate_Read : Tryd.prog.funcs[n_gate_Read]? = some fn_gate_Read := Tryd.func15
theorem hB_gate_Read : fnB fn_gate_Read = true := by kernel_rfl
theorem hf_law_gated : Tryd.prog.funcs[n_law_gated]? = some fn_law_gated := Tryd.func16
theorem hB_law_gated : fnB fn_law_gated = true := by kernel_rfl
theorem hf_law_at : Tryd.prog.funcs[n_law_at]? = some fn_law_at := Tryd.func17
theorem hB_law_at : fnB fn_law_at = true := by kernel_rfl
theorem hf_gate_GiveUp : Tryd.prog.funcs[n_gate_GiveUp]? = some fn_gate_GiveUp := Tryd.func18
theorem hB_gate_GiveUp : fnB fn_gate_GiveUp = true := by kernel_rfl
theorem hf_gate_Hear : Tryd.prog.funcs[n_gate_Hear]? = some fn_gate_Hear := Tryd.func19
theorem hB_gate_Hear : fnB fn_gate_Hear = true := by kernel_rfl
theorem hf_gate_Boot : Tryd.prog.funcs[n_gate_Boot]? = some fn_gate_Boot := Tryd.func20
theorem hB_gate_Boot : fnB fn_gate_Boot = true := by kernel_rfl
theorem hf_ref_SameGate : Tryd.prog.funcs[n_ref_SameGate]? = some fn_ref_SameGate := Tryd.func21
theorem hB_ref_SameGate : fnB fn_ref_SameGate = true := by kernel_rfl
theorem hf_ref_SameMessages : Tryd.prog.funcs[n_ref_SameMessages]? = some fn_ref_SameMessages := Tryd.func22
theorem hB_ref_SameMessages : fnB fn_ref_SameMessages = true := by kernel_rfl
theorem hf_slices_Equal_Lbool : Tryd.prog.funcs[n_slices_Equal_Lbool]? = some fn_slices_Equal_Lbool := Tryd.func23
theorem hB_slices_Equal_Lbool : fnB fn_slices_Equal_Lbool = true := by kernel_rfl
theorem hf_meta_RootText : Tryd.prog.funcs[n_meta_RootText]? = some fn_meta_RootText := Tryd.func24
theorem hB_meta_RootText : fnB fn_meta_RootText = true := by kernel_rfl
theorem hf_ref_CheckRoot : Tryd.prog.funcs[n_ref_CheckRoot]? = some fn_ref_CheckRoot := Tryd.func25
theorem hB_ref_CheckRoot : fnB fn_ref_CheckRoot = true := by kernel_rfl
theorem hf_ref_CheckRelease : Tryd.prog.funcs[n_ref_CheckRelease]? = some fn_ref_CheckRelease := Tryd.func26
theorem hB_ref_CheckRelease : fnB fn_ref_CheckRelease = true := by kernel_rfl
theorem hf_ref_CheckImage : Tryd.prog.funcs[n_ref_CheckImage]? = some fn_ref_CheckImage := Tryd.func27
theorem hB_ref_CheckImage : fnB fn_ref_CheckImage = true := by kernel_rfl
theorem hf_meta_CheckRoot : Tryd.prog.funcs[n_meta_CheckRoot]? = some fn_meta_CheckRoot := Tryd.func28
theorem hB_meta_CheckRoot : fnB fn_meta_CheckRoot = true := by kernel_rfl
theorem hf_meta_CheckRelease : Tryd.prog.funcs[n_meta_CheckRelease]? = some fn_meta_CheckRelease := Tryd.func29
theorem hB_meta_CheckRelease : fnB fn_meta_CheckRelease = true := by kernel_rfl
theorem hf_meta_CheckImage : Tryd.prog.funcs[n_meta_CheckImage]? = some fn_meta_CheckImage := Tryd.func30
theorem hB_meta_CheckImage : fnB fn_meta_CheckImage = true := by kernel_rfl
theorem hf_ref_RootText : Tryd.prog.funcs[n_ref_RootText]? = some fn_ref_RootText := Tryd.func31
theorem hB_ref_RootText : fnB fn_ref_RootText = true := by kernel_rfl
theorem hf_ref_ReleaseText : Tryd.prog.funcs[n_ref_ReleaseText]? = some fn_ref_ReleaseText := Tryd.func32
theorem hB_ref_ReleaseText : fnB fn_ref_ReleaseText = true := by kernel_rfl
theorem hf_ref_ImageText : Tryd.prog.funcs[n_ref_ImageText]? = some fn_ref_ImageText := Tryd.func33
theorem hB_ref_ImageText : fnB fn_ref_ImageText = true := by kernel_rfl
theorem hf_ref_ReadRelease : Tryd.prog.funcs[n_ref_ReadRelease]? = some fn_ref_ReadRelease := Tryd.func34
theorem hB_ref_ReadRelease : fnB fn_ref_ReadRelease = true := by kernel_rfl
theorem hf_strconv_Itoa : Tryd.prog.funcs[n_strconv_Itoa]? = some fn_strconv_Itoa := Tryd.func35
theorem hB_strconv_Itoa : fnB fn_strconv_Itoa = true := by kernel_rfl
theorem hf_meta_list : Tryd.prog.funcs[n_meta_list]? = some fn_meta_list := Tryd.func36
theorem hB_meta_list : fnB fn_meta_list = true := by kernel_rfl
theorem hf_meta_ImageName : Tryd.prog.funcs[n_meta_ImageName]? = some fn_meta_ImageName := Tryd.func37
theorem hB_meta_ImageName : fnB fn_meta_ImageName = true := by kernel_rfl
theorem hf_slices_Equal_LTarget : Tryd.prog.funcs[n_slices_Equal_LTarget]? = some fn_slices_Equal_LTarget := Tryd.func38
theorem hB_slices_Equal_LTarget : fnB fn_slices_Equal_LTarget = true := by kernel_rfl
theorem hf_strings_Split : Tryd.prog.funcs[n_strings_Split]? = some fn_strings_Split := Tryd.func39
theorem hB_strings_Split : fnB fn_strings_Split = true := by kernel_rfl
theorem hf_meta_numbers : Tryd.prog.funcs[n_meta_numbers]? = some fn_meta_numbers := Tryd.func40
theorem hB_meta_numbers : fnB fn_meta_numbers = true := by kernel_rfl
theorem hf_gate_up : Tryd.prog.funcs[n_gate_up]? = some fn_gate_up := Tryd.func41
theorem hB_gate_up : fnB fn_gate_up = true := by kernel_rfl
theorem hf_gate_of : Tryd.prog.funcs[n_gate_of]? = some fn_gate_of := Tryd.func42
theorem hB_gate_of : fnB fn_gate_of = true := by kernel_rfl
theorem hf_gate_decision : Tryd.prog.funcs[n_gate_decision]? = some fn_gate_decision := Tryd.func43
theorem hB_gate_decision : fnB fn_gate_decision = true := by kernel_rfl
theorem hf_slices_Clone_Lint : Tryd.prog.funcs[n_slices_Clone_Lint]? = some fn_slices_Clone_Lint := Tryd.func44
theorem hB_slices_Clone_Lint : fnB fn_slices_Clone_Lint = true := by kernel_rfl
theorem hf_gate_Check : Tryd.prog.funcs[n_gate_Check]? = some fn_gate_Check := Tryd.func45
theorem hB_gate_Check : fnB fn_gate_Check = true := by kernel_rfl
theorem hf_law_simple : Tryd.prog.funcs[n_law_simple]? = some fn_law_simple := Tryd.func46
theorem hB_law_simple : fnB fn_law_simple = true := by kernel_rfl
theorem hf_gate_New : Tryd.prog.funcs[n_gate_New]? = some fn_gate_New := Tryd.func47
theorem hB_gate_New : fnB fn_gate_New = true := by kernel_rfl
theorem hf_gate_Begin : Tryd.prog.funcs[n_gate_Begin]? = some fn_gate_Begin := Tryd.func48
theorem hB_gate_Begin : fnB fn_gate_Begin = true := by kernel_rfl
theorem hf_gate_Copy : Tryd.prog.funcs[n_gate_Copy]? = some fn_gate_Copy := Tryd.func49
theorem hB_gate_Copy : fnB fn_gate_Copy = true := by kernel_rfl
theorem hf_gate_note : Tryd.prog.funcs[n_gate_note]? = some fn_gate_note := Tryd.func50
theorem hB_gate_note : fnB fn_gate_note = true := by kernel_rfl
theorem hf_slices_Contains_Lbool : Tryd.prog.funcs[n_slices_Contains_Lbool]? = some fn_slices_Contains_Lbool := Tryd.func51
theorem hB_slices_Contains_Lbool : fnB fn_slices_Contains_Lbool = true := by kernel_rfl
theorem hf_gate_forget : Tryd.prog.funcs[n_gate_forget]? = some fn_gate_forget := Tryd.func52
theorem hB_gate_forget : fnB fn_gate_forget = true := by kernel_rfl
theorem hf_ref_SameFlash : Tryd.prog.funcs[n_ref_SameFlash]? = some fn_ref_SameFlash := Tryd.func53
theorem hB_ref_SameFlash : fnB fn_ref_SameFlash = true := by kernel_rfl
theorem hf_ref_SameTrust : Tryd.prog.funcs[n_ref_SameTrust]? = some fn_ref_SameTrust := Tryd.func54
theorem hB_ref_SameTrust : fnB fn_ref_SameTrust = true := by kernel_rfl
theorem hf_slices_EqualFunc_LMessage : Tryd.prog.funcs[n_slices_EqualFunc_LMessage]? = some fn_slices_EqualFunc_LMessage := Tryd.func55
theorem hB_slices_EqualFunc_LMessage : fnB fn_slices_EqualFunc_LMessage = true := by kernel_rfl
theorem hf_ref_SameMessages_1 : Tryd.prog.funcs[n_ref_SameMessages_1]? = some fn_ref_SameMessages_1 := Tryd.func56
theorem hB_ref_SameMessages_1 : fnB fn_ref_SameMessages_1 = true := by kernel_rfl
theorem hf_ref_allWords : Tryd.prog.funcs[n_ref_allWords]? = some fn_ref_allWords := Tryd.func57
theorem hB_ref_allWords : fnB fn_ref_allWords = true := by kernel_rfl
theorem hf_ref_spaced : Tryd.prog.funcs[n_ref_spaced]? = some fn_ref_spaced := Tryd.func58
theorem hB_ref_spaced : fnB fn_ref_spaced = true := by kernel_rfl
theorem hf_strings_Join : Tryd.prog.funcs[n_strings_Join]? = some fn_strings_Join := Tryd.func59
theorem hB_strings_Join : fnB fn_strings_Join = true := by kernel_rfl
theorem hf_ref_ReadRelease_1 : Tryd.prog.funcs[n_ref_ReadRelease_1]? = some fn_ref_ReadRelease_1 := Tryd.func60
theorem hB_ref_ReadRelease_1 : fnB fn_ref_ReadRelease_1 = true := by kernel_rfl
theorem hf_ref_ReadRelease_2 : Tryd.prog.funcs[n_ref_ReadRelease_2]? = some fn_ref_ReadRelease_2 := Tryd.func61
theorem hB_ref_ReadRelease_2 : fnB fn_ref_ReadRelease_2 = true := by kernel_rfl
theorem hf_strconv_ParseInt : Tryd.prog.funcs[n_strconv_ParseInt]? = some fn_strconv_ParseInt := Tryd.func62
theorem hB_strconv_ParseInt : fnB fn_strconv_ParseInt = true := by kernel_rfl
theorem hf_strconv_FormatInt : Tryd.prog.funcs[n_strconv_FormatInt]? = some fn_strconv_FormatInt := Tryd.func63
theorem hB_strconv_FormatInt : fnB fn_strconv_FormatInt = true := by kernel_rfl
theorem hf_strings_CutPrefix : Tryd.prog.funcs[n_strings_CutPrefix]? = some fn_strings_CutPrefix := Tryd.func64
theorem hB_strings_CutPrefix : fnB fn_strings_CutPrefix = true := by kernel_rfl
theorem hf_strings_Cut : Tryd.prog.funcs[n_strings_Cut]? = some fn_strings_Cut := Tryd.func65
theorem hB_strings_Cut : fnB fn_strings_Cut = true := by kernel_rfl
theorem hf_meta_Name : Tryd.prog.funcs[n_meta_Name]? = some fn_meta_Name := Tryd.func67
theorem hB_meta_Name : fnB fn_meta_Name = true := by kernel_rfl
theorem hf_strings_genSplit : Tryd.prog.funcs[n_strings_genSplit]? = some fn_strings_genSplit := Tryd.func68
theorem hB_strings_genSplit : fnB fn_strings_genSplit = true := by kernel_rfl
theorem hf_strconv_Atoi : Tryd.prog.funcs[n_strconv_Atoi]? = some fn_strconv_Atoi := Tryd.func69
theorem hB_strconv_Atoi : fnB fn_strconv_Atoi = true := by kernel_rfl
theorem hf_log_Records : Tryd.prog.funcs[n_log_Records]? = some fn_log_Records := Tryd.func70
theorem hB_log_Records : fnB fn_log_Records = true := by kernel_rfl
theorem hf_gate_state : Tryd.prog.funcs[n_gate_state]? = some fn_gate_state := Tryd.func71
theorem hB_gate_state : fnB fn_gate_state = true := by kernel_rfl
theorem hf_log_Check : Tryd.prog.funcs[n_log_Check]? = some fn_log_Check := Tryd.func72
theorem hB_log_Check : fnB fn_log_Check = true := by kernel_rfl
theorem hf_trust_CheckTrust : Tryd.prog.funcs[n_trust_CheckTrust]? = some fn_trust_CheckTrust := Tryd.func73
theorem hB_trust_CheckTrust : fnB fn_trust_CheckTrust = true := by kernel_rfl
theorem hf_flash_New : Tryd.prog.funcs[n_flash_New]? = some fn_flash_New := Tryd.func74
theorem hB_flash_New : fnB fn_flash_New = true := by kernel_rfl
theorem hf_log_Format : Tryd.prog.funcs[n_log_Format]? = some fn_log_Format := Tryd.func75
theorem hB_log_Format : fnB fn_log_Format = true := by kernel_rfl
theorem hf_trust_Take : Tryd.prog.funcs[n_trust_Take]? = some fn_trust_Take := Tryd.func76
theorem hB_trust_Take : fnB fn_trust_Take = true := by kernel_rfl
theorem hf_flash_Copy : Tryd.prog.funcs[n_flash_Copy]? = some fn_flash_Copy := Tryd.func77
theorem hB_flash_Copy : fnB fn_flash_Copy = true := by kernel_rfl
theorem hf_slices_Clone_Lbool : Tryd.prog.funcs[n_slices_Clone_Lbool]? = some fn_slices_Clone_Lbool := Tryd.func78
theorem hB_slices_Clone_Lbool : fnB fn_slices_Clone_Lbool = true := by kernel_rfl
theorem hf_log_Append : Tryd.prog.funcs[n_log_Append]? = some fn_log_Append := Tryd.func79
theorem hB_log_Append : fnB fn_log_Append = true := by kernel_rfl
theorem hf_gate_keep : Tryd.prog.funcs[n_gate_keep]? = some fn_gate_keep := Tryd.func80
theorem hB_gate_keep : fnB fn_gate_keep = true := by kernel_rfl
theorem hf_slices_Index_Lbool : Tryd.prog.funcs[n_slices_Index_Lbool]? = some fn_slices_Index_Lbool := Tryd.func81
theorem hB_slices_Index_Lbool : fnB fn_slices_Index_Lbool = true := by kernel_rfl
theorem hf_slices_ContainsFunc_Lint : Tryd.prog.funcs[n_slices_ContainsFunc_Lint]? = some fn_slices_ContainsFunc_Lint := Tryd.func82
theorem hB_slices_ContainsFunc_Lint : fnB fn_slices_ContainsFunc_Lint = true := by kernel_rfl
theorem hf_ref_allWords_1 : Tryd.prog.funcs[n_ref_allWords_1]? = some fn_ref_allWords_1 := Tryd.func83
theorem hB_ref_allWords_1 : fnB fn_ref_allWords_1 = true := by kernel_rfl
theorem hf_ref_IsWord : Tryd.prog.funcs[n_ref_IsWord]? = some fn_ref_IsWord := Tryd.func84
theorem hB_ref_IsWord : fnB fn_ref_IsWord = true := by kernel_rfl
theorem hf_strconv_toError : Tryd.prog.funcs[n_strconv_toError]? = some fn_strconv_toError := Tryd.func89
theorem hB_strconv_toError : fnB fn_strconv_toError = true := by kernel_rfl
theorem hf_meta_CheckBook : Tryd.prog.funcs[n_meta_CheckBook]? = some fn_meta_CheckBook := Tryd.func93
theorem hB_meta_CheckBook : fnB fn_meta_CheckBook = true := by kernel_rfl
theorem hf_slices_Index_Lstring : Tryd.prog.funcs[n_slices_Index_Lstring]? = some fn_slices_Index_Lstring := Tryd.func94
theorem hB_slices_Index_Lstring : fnB fn_slices_Index_Lstring = true := by kernel_rfl
theorem hf_strings_explode : Tryd.prog.funcs[n_strings_explode]? = some fn_strings_explode := Tryd.func95
theorem hB_strings_explode : fnB fn_strings_explode = true := by kernel_rfl
theorem hf_strings_Count : Tryd.prog.funcs[n_strings_Count]? = some fn_strings_Count := Tryd.func96
theorem hB_strings_Count : fnB fn_strings_Count = true := by kernel_rfl
theorem hf_strings_Index : Tryd.prog.funcs[n_strings_Index]? = some fn_strings_Index := Tryd.func97
theorem hB_strings_Index : fnB fn_strings_Index = true := by kernel_rfl
theorem hf_log_live : Tryd.prog.funcs[n_log_live]? = some fn_log_live := Tryd.func99
theorem hB_log_live : fnB fn_log_live = true := by kernel_rfl
theorem hf_log_scan : Tryd.prog.funcs[n_log_scan]? = some fn_log_scan := Tryd.func100
theorem hB_log_scan : fnB fn_log_scan = true := by kernel_rfl
theorem hf_flash_Check : Tryd.prog.funcs[n_flash_Check]? = some fn_flash_Check := Tryd.func101
theorem hB_flash_Check : fnB fn_flash_Check = true := by kernel_rfl
theorem hf_slices_Repeat_Lint : Tryd.prog.funcs[n_slices_Repeat_Lint]? = some fn_slices_Repeat_Lint := Tryd.func102
theorem hB_slices_Repeat_Lint : fnB fn_slices_Repeat_Lint = true := by kernel_rfl
theorem hf_flash_Wipe : Tryd.prog.funcs[n_flash_Wipe]? = some fn_flash_Wipe := Tryd.func103
theorem hB_flash_Wipe : fnB fn_flash_Wipe = true := by kernel_rfl
theorem hf_flash_Burn : Tryd.prog.funcs[n_flash_Burn]? = some fn_flash_Burn := Tryd.func104
theorem hB_flash_Burn : fnB fn_flash_Burn = true := by kernel_rfl
theorem hf_trust_Take_1 : Tryd.prog.funcs[n_trust_Take_1]? = some fn_trust_Take_1 := Tryd.func105
theorem hB_trust_Take_1 : fnB fn_trust_Take_1 = true := by kernel_rfl
theorem hf_trust_Turn : Tryd.prog.funcs[n_trust_Turn]? = some fn_trust_Turn := Tryd.func106
theorem hB_trust_Turn : fnB fn_trust_Turn = true := by kernel_rfl
theorem hf_trust_Count : Tryd.prog.funcs[n_trust_Count]? = some fn_trust_Count := Tryd.func107
theorem hB_trust_Count : fnB fn_trust_Count = true := by kernel_rfl
theorem hf_log_check : Tryd.prog.funcs[n_log_check]? = some fn_log_check := Tryd.func108
theorem hB_log_check : fnB fn_log_check = true := by kernel_rfl
theorem hf_slices_Clone_LRecord : Tryd.prog.funcs[n_slices_Clone_LRecord]? = some fn_slices_Clone_LRecord := Tryd.func109
theorem hB_slices_Clone_LRecord : fnB fn_slices_Clone_LRecord = true := by kernel_rfl
theorem hf_log_words : Tryd.prog.funcs[n_log_words]? = some fn_log_words := Tryd.func110
theorem hB_log_words : fnB fn_log_words = true := by kernel_rfl
theorem hf_slices_IndexFunc_Lint : Tryd.prog.funcs[n_slices_IndexFunc_Lint]? = some fn_slices_IndexFunc_Lint := Tryd.func111
theorem hB_slices_IndexFunc_Lint : fnB fn_slices_IndexFunc_Lint = true := by kernel_rfl
theorem hf_strconv_syntaxError : Tryd.prog.funcs[n_strconv_syntaxError]? = some fn_strconv_syntaxError := Tryd.func115
theorem hB_strconv_syntaxError : fnB fn_strconv_syntaxError = true := by kernel_rfl
theorem hf_strconv_rangeError : Tryd.prog.funcs[n_strconv_rangeError]? = some fn_strconv_rangeError := Tryd.func116
theorem hB_strconv_rangeError : fnB fn_strconv_rangeError = true := by kernel_rfl
theorem hf_strconv_baseError : Tryd.prog.funcs[n_strconv_baseError]? = some fn_strconv_baseError := Tryd.func117
theorem hB_strconv_baseError : fnB fn_strconv_baseError = true := by kernel_rfl
theorem hf_strconv_bitSizeError : Tryd.prog.funcs[n_strconv_bitSizeError]? = some fn_strconv_bitSizeError := Tryd.func118
theorem hB_strconv_bitSizeError : fnB fn_strconv_bitSizeError = true := by kernel_rfl
theorem hf_slices_Contains_Lstring : Tryd.prog.funcs[n_slices_Contains_Lstring]? = some fn_slices_Contains_Lstring := Tryd.func125
theorem hB_slices_Contains_Lstring : fnB fn_slices_Contains_Lstring = true := by kernel_rfl
theorem hf_slices_Clone_Record : Tryd.prog.funcs[n_slices_Clone_Record]? = some fn_slices_Clone_Record := Tryd.func129
theorem hB_slices_Clone_Record : fnB fn_slices_Clone_Record = true := by kernel_rfl
theorem hf_math_bits_Mul : Tryd.prog.funcs[n_math_bits_Mul]? = some fn_math_bits_Mul := Tryd.func130
theorem hB_math_bits_Mul : fnB fn_math_bits_Mul = true := by kernel_rfl
theorem hf_flash_burn : Tryd.prog.funcs[n_flash_burn]? = some fn_flash_burn := Tryd.func131
theorem hB_flash_burn : fnB fn_flash_burn = true := by kernel_rfl
theorem hf_trust_CheckSigned : Tryd.prog.funcs[n_trust_CheckSigned]? = some fn_trust_CheckSigned := Tryd.func132
theorem hB_trust_CheckSigned : fnB fn_trust_CheckSigned = true := by kernel_rfl
theorem hf_slices_Contains_Lint : Tryd.prog.funcs[n_slices_Contains_Lint]? = some fn_slices_Contains_Lint := Tryd.func133
theorem hB_slices_Contains_Lint : fnB fn_slices_Contains_Lint = true := by kernel_rfl
theorem hf_slices_Contains_LSigned : Tryd.prog.funcs[n_slices_Contains_LSigned]? = some fn_slices_Contains_LSigned := Tryd.func134
theorem hB_slices_Contains_LSigned : fnB fn_slices_Contains_LSigned = true := by kernel_rfl
theorem hf_slices_ContainsFunc_Record : Tryd.prog.funcs[n_slices_ContainsFunc_Record]? = some fn_slices_ContainsFunc_Record := Tryd.func135
theorem hB_slices_ContainsFunc_Record : fnB fn_slices_ContainsFunc_Record = true := by kernel_rfl
theorem hf_log_check_1 : Tryd.prog.funcs[n_log_check_1]? = some fn_log_check_1 := Tryd.func136
theorem hB_log_check_1 : fnB fn_log_check_1 = true := by kernel_rfl
theorem hf_log_head : Tryd.prog.funcs[n_log_head]? = some fn_log_head := Tryd.func137
theorem hB_log_head : fnB fn_log_head = true := by kernel_rfl
theorem hf_math_bits_Len64 : Tryd.prog.funcs[n_math_bits_Len64]? = some fn_math_bits_Len64 := Tryd.func145
theorem hB_math_bits_Len64 : fnB fn_math_bits_Len64 = true := by kernel_rfl
theorem hf_math_bits_TrailingZeros : Tryd.prog.funcs[n_math_bits_TrailingZeros]? = some fn_math_bits_TrailingZeros := Tryd.func148
theorem hB_math_bits_TrailingZeros : fnB fn_math_bits_TrailingZeros = true := by kernel_rfl
theorem hf_math_bits_Mul32 : Tryd.prog.funcs[n_math_bits_Mul32]? = some fn_math_bits_Mul32 := Tryd.func154
theorem hB_math_bits_Mul32 : fnB fn_math_bits_Mul32 = true := by kernel_rfl
theorem hf_math_bits_Mul64 : Tryd.prog.funcs[n_math_bits_Mul64]? = some fn_math_bits_Mul64 := Tryd.func155
theorem hB_math_bits_Mul64 : fnB fn_math_bits_Mul64 = true := by kernel_rfl
theorem hf_slices_Index_Lint : Tryd.prog.funcs[n_slices_Index_Lint]? = some fn_slices_Index_Lint := Tryd.func156
theorem hB_slices_Index_Lint : fnB fn_slices_Index_Lint = true := by kernel_rfl
theorem hf_slices_Index_LSigned : Tryd.prog.funcs[n_slices_Index_LSigned]? = some fn_slices_Index_LSigned := Tryd.func157
theorem hB_slices_Index_LSigned : fnB fn_slices_Index_LSigned = true := by kernel_rfl
theorem hf_slices_IndexFunc_Record : Tryd.prog.funcs[n_slices_IndexFunc_Record]? = some fn_slices_IndexFunc_Record := Tryd.func158
theorem hB_slices_IndexFunc_Record : fnB fn_slices_IndexFunc_Record = true := by kernel_rfl
theorem hf_math_bits_TrailingZeros32 : Tryd.prog.funcs[n_math_bits_TrailingZeros32]? = some fn_math_bits_TrailingZeros32 := Tryd.func159
theorem hB_math_bits_TrailingZeros32 : fnB fn_math_bits_TrailingZeros32 = true := by kernel_rfl
theorem hf_math_bits_TrailingZeros64 : Tryd.prog.funcs[n_math_bits_TrailingZeros64]? = some fn_math_bits_TrailingZeros64 := Tryd.func160
theorem hB_math_bits_TrailingZeros64 : fnB fn_math_bits_TrailingZeros64 = true := by kernel_rfl
theorem ok_nil : Ok Tryd.prog tab [] := Ok.nil tab_ok (by kernel_rfl)
end Go.Proofs.YtlbppjmekiemiacDoor
