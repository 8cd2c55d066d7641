/- The types of the program, checked; its functions by name. No condition. -/
import Derived.Test.YtlbppjmekiemiabDoorVmd
import Derived.Test.YtlbppjmekiemiabDoorChecked
import Derived.KernelRfl
import Derived.WalkKit
namespace Go.Proofs.YtlbppjmekiemiabDoor
open Vm
noncomputable def tab : Tab := ⟨[
  (3, ⟨1, .int, [.dat Ty.int (0 : Int)], [], [], 0⟩),
  (4, ⟨1, .bool, [.dat Ty.bool false], [], [], 0⟩),
  (9, ⟨1, .str, [.dat Ty.str []], [], [], 0⟩),
  (22, ⟨1, .slice Ty.str 9, [.nil Ty.str], [], [], 16⟩),
  (24, ⟨1, .struct, [.nil Ty.str], [0], [1], 0⟩),
  (25, ⟨1, .int, [.dat Ty.int (0 : Int)], [], [], 0⟩),
  (31, ⟨1, .slice Ty.int 3, [.nil Ty.int], [], [], 8⟩),
  (38, ⟨1, .slice Ty.signed 62, [.nil Ty.signed], [], [], 16⟩),
  (40, ⟨3, .struct, [.dat Ty.int (0 : Int), .nil Ty.int, .dat Ty.int (0 : Int)], [0, 1, 2], [1, 1, 1], 0⟩),
  (42, ⟨4, .struct, [.dat Ty.int (0 : Int), .nil Ty.int, .dat Ty.int (0 : Int), .dat Ty.int (0 : Int)], [0, 3], [3, 1], 0⟩),
  (43, ⟨1, .slice Ty.root 40, [.nil Ty.root], [], [], 40⟩),
  (44, ⟨1, .slice (Ty.list Ty.int) 31, [.nil (Ty.list Ty.int)], [], [], 24⟩),
  (45, ⟨1, .slice Ty.target 99, [.nil Ty.target], [], [], 24⟩),
  (47, ⟨3, .struct, [.dat Ty.int (0 : Int), .dat Ty.int (0 : Int), .nil Ty.target], [0, 1, 2], [1, 1, 1], 0⟩),
  (49, ⟨7, .struct, [.nil Ty.root, .nil (Ty.list Ty.int), .dat Ty.int (0 : Int), .dat Ty.int (0 : Int), .nil Ty.target, .nil Ty.int, .nil (Ty.list Ty.int)], [0, 1, 2, 5, 6], [1, 1, 3, 1, 1], 0⟩),
  (62, ⟨2, .struct, [.dat Ty.int (0 : Int), .dat Ty.int (0 : Int)], [0, 1], [1, 1], 0⟩),
  (70, ⟨2, .struct, [.nil Ty.int, .dat Ty.int (0 : Int)], [0, 1], [1, 1], 0⟩),
  (72, ⟨5, .struct, [.nil Ty.int, .dat Ty.int (0 : Int), .dat Ty.bool false, .dat Ty.int (0 : Int), .dat Ty.int (0 : Int)], [0, 2, 3, 4], [2, 1, 1, 1], 0⟩),
  (74, ⟨7, .struct, [.dat Ty.int (0 : Int), .dat Ty.int (0 : Int), .dat Ty.int (0 : Int), .dat Ty.int (0 : Int), .dat Ty.int (0 : Int), .nil Ty.int, .dat Ty.bool false], [0, 1, 2, 3, 4, 5, 6], [1, 1, 1, 1, 1, 1, 1], 0⟩),
  (75, ⟨1, .slice Ty.message 74, [.nil Ty.message], [], [], 72⟩),
  (84, ⟨3, .struct, [.dat Ty.int (0 : Int), .dat Ty.int (0 : Int), .dat Ty.int (0 : Int)], [0, 1, 2], [1, 1, 1], 0⟩),
  (99, ⟨3, .struct, [.dat Ty.int (0 : Int), .dat Ty.int (0 : Int), .dat Ty.int (0 : Int)], [0, 1, 2], [1, 1, 1], 0⟩),
  (103, ⟨1, .other, [.undef], [], [], 0⟩),
  (111, ⟨1, .mapib, [.undef], [], [], 0⟩),
  (113, ⟨6, .array 2 3, [.dat Ty.int (0 : Int), .nil Ty.int, .dat Ty.int (0 : Int), .dat Ty.int (0 : Int), .nil Ty.int, .dat Ty.int (0 : Int)], [0, 3], [3, 3], 0⟩),
  (120, ⟨1, .other, [.undef], [], [], 0⟩),
  (129, ⟨1, .other, [.undef], [], [], 0⟩),
  (131, ⟨1, .other, [.undef], [], [], 0⟩),
  (132, ⟨3, .array 3 1, [.dat Ty.int (0 : Int), .dat Ty.int (0 : Int), .dat Ty.int (0 : Int)], [0, 1, 2], [1, 1, 1], 0⟩),
  (133, ⟨9, .array 3 3, [.dat Ty.int (0 : Int), .dat Ty.int (0 : Int), .dat Ty.int (0 : Int), .dat Ty.int (0 : Int), .dat Ty.int (0 : Int), .dat Ty.int (0 : Int), .dat Ty.int (0 : Int), .dat Ty.int (0 : Int), .dat Ty.int (0 : Int)], [0, 3, 6], [3, 3, 3], 0⟩),
  (138, ⟨1, .slice (Ty.list Ty.int) 151, [.nil (Ty.list Ty.int)], [], [], 24⟩),
  (146, ⟨1, .other, [.undef], [], [], 0⟩),
  (151, ⟨1, .slice Ty.int 3, [.nil Ty.int], [], [], 8⟩),
  (172, ⟨1, .other, [.undef], [], [], 0⟩),
  (188, ⟨1, .u64, [.undef], [], [], 0⟩)
  ], 999999, 999999, [62, 84, 99], false, some 0⟩
-- pow 0 193 20 180

theorem tab_ok : TabOk Tryd.prog tab := tabOk_plain (by kernel_rfl) (by kernel_rfl) (fun h => by cases h)
abbrev n_law_MetaApart : Nat := 3
noncomputable abbrev fn_law_MetaApart : Func := Tryd.f3
abbrev n_law_MetaNames : Nat := 4
noncomputable abbrev fn_law_MetaNames : Func := Tryd.f4
abbrev n_law_TrustRises : Nat := 5
noncomputable abbrev fn_law_TrustRises : Func := Tryd.f5
abbrev n_law_TrustSays : Nat := 6
noncomputable abbrev fn_law_TrustSays : Func := Tryd.f6
abbrev n_law_TrustCounts : Nat := 7
noncomputable abbrev fn_law_TrustCounts : Func := Tryd.f7
abbrev n_law_UnitDown : Nat := 8
noncomputable abbrev fn_law_UnitDown : Func := Tryd.f8
abbrev n_law_UnitHolds : Nat := 9
noncomputable abbrev fn_law_UnitHolds : Func := Tryd.f9
abbrev n_law_UnitPieces : Nat := 10
noncomputable abbrev fn_law_UnitPieces : Func := Tryd.f10
abbrev n_law_UnitReady : Nat := 11
noncomputable abbrev fn_law_UnitReady : Func := Tryd.f11
abbrev n_law_UnitTwice : Nat := 12
noncomputable abbrev fn_law_UnitTwice : Func := Tryd.f12
abbrev n_meta_Name : Nat := 13
noncomputable abbrev fn_meta_Name : Func := Tryd.f13
abbrev n_law_written : Nat := 14
noncomputable abbrev fn_law_written : Func := Tryd.f14
abbrev n_slices_Contains_Lstring : Nat := 15
noncomputable abbrev fn_slices_Contains_Lstring : Func := Tryd.f15
abbrev n_meta_ImageName : Nat := 16
noncomputable abbrev fn_meta_ImageName : Func := Tryd.f16
abbrev n_ref_CheckBook : Nat := 17
noncomputable abbrev fn_ref_CheckBook : Func := Tryd.f17
abbrev n_meta_CheckBook : Nat := 18
noncomputable abbrev fn_meta_CheckBook : Func := Tryd.f18
abbrev n_ref_NameOf : Nat := 19
noncomputable abbrev fn_ref_NameOf : Func := Tryd.f19
abbrev n_ref_CheckImage : Nat := 20
noncomputable abbrev fn_ref_CheckImage : Func := Tryd.f20
abbrev n_ref_ImageText : Nat := 21
noncomputable abbrev fn_ref_ImageText : Func := Tryd.f21
abbrev n_trust_Take : Nat := 22
noncomputable abbrev fn_trust_Take : Func := Tryd.f22
abbrev n_law_trusted : Nat := 23
noncomputable abbrev fn_law_trusted : Func := Tryd.f23
abbrev n_meta_ReleaseText : Nat := 24
noncomputable abbrev fn_meta_ReleaseText : Func := Tryd.f24
abbrev n_trust_Count : Nat := 25
noncomputable abbrev fn_trust_Count : Func := Tryd.f25
abbrev n_ref_SameTrust : Nat := 26
noncomputable abbrev fn_ref_SameTrust : Func := Tryd.f26
abbrev n_ref_Counted : Nat := 27
noncomputable abbrev fn_ref_Counted : Func := Tryd.f27
abbrev n_ref_Taken : Nat := 28
noncomputable abbrev fn_ref_Taken : Func := Tryd.f28
abbrev n_trust_CheckSigned : Nat := 29
noncomputable abbrev fn_trust_CheckSigned : Func := Tryd.f29
abbrev n_ref_CheckSigned : Nat := 30
noncomputable abbrev fn_ref_CheckSigned : Func := Tryd.f30
abbrev n_trust_CheckTrust : Nat := 31
noncomputable abbrev fn_trust_CheckTrust : Func := Tryd.f31
abbrev n_ref_CheckTrust : Nat := 32
noncomputable abbrev fn_ref_CheckTrust : Func := Tryd.f32
abbrev n_trust_Turn : Nat := 33
noncomputable abbrev fn_trust_Turn : Func := Tryd.f33
abbrev n_ref_Turned : Nat := 34
noncomputable abbrev fn_ref_Turned : Func := Tryd.f34
abbrev n_slices_Clone_Lint : Nat := 35
noncomputable abbrev fn_slices_Clone_Lint : Func := Tryd.f35
abbrev n_slices_Reverse_Lint : Nat := 36
noncomputable abbrev fn_slices_Reverse_Lint : Func := Tryd.f36
abbrev n_slices_Clone_LSigned : Nat := 37
noncomputable abbrev fn_slices_Clone_LSigned : Func := Tryd.f37
abbrev n_slices_Reverse_LSigned : Nat := 38
noncomputable abbrev fn_slices_Reverse_LSigned : Func := Tryd.f38
abbrev n_slices_Concat_Lint : Nat := 39
noncomputable abbrev fn_slices_Concat_Lint : Func := Tryd.f39
abbrev n_unit_Hear : Nat := 40
noncomputable abbrev fn_unit_Hear : Func := Tryd.f40
abbrev n_ref_SameUnit : Nat := 41
noncomputable abbrev fn_ref_SameUnit : Func := Tryd.f41
abbrev n_law_at : Nat := 42
noncomputable abbrev fn_law_at : Func := Tryd.f42
abbrev n_law_united : Nat := 43
noncomputable abbrev fn_law_united : Func := Tryd.f43
abbrev n_unit_Runs : Nat := 44
noncomputable abbrev fn_unit_Runs : Func := Tryd.f44
abbrev n_unit_Read : Nat := 45
noncomputable abbrev fn_unit_Read : Func := Tryd.f45
abbrev n_unit_Boot : Nat := 46
noncomputable abbrev fn_unit_Boot : Func := Tryd.f46
abbrev n_unit_Check : Nat := 47
noncomputable abbrev fn_unit_Check : Func := Tryd.f47
abbrev n_slices_Equal_Lint : Nat := 48
noncomputable abbrev fn_slices_Equal_Lint : Func := Tryd.f48
abbrev n_slot_Image : Nat := 49
noncomputable abbrev fn_slot_Image : Func := Tryd.f49
abbrev n_ref_SameMessages : Nat := 50
noncomputable abbrev fn_ref_SameMessages : Func := Tryd.f50
abbrev n_ref_SameFlash : Nat := 51
noncomputable abbrev fn_ref_SameFlash : Func := Tryd.f51
abbrev n_slices_Index_Lstring : Nat := 52
noncomputable abbrev fn_slices_Index_Lstring : Func := Tryd.f52
abbrev n_meta_RootText : Nat := 53
noncomputable abbrev fn_meta_RootText : Func := Tryd.f53
abbrev n_meta_ImageText : Nat := 54
noncomputable abbrev fn_meta_ImageText : Func := Tryd.f54
abbrev n_ref_allWords : Nat := 55
noncomputable abbrev fn_ref_allWords : Func := Tryd.f55
abbrev n_ref_spaced : Nat := 56
noncomputable abbrev fn_ref_spaced : Func := Tryd.f56
abbrev n_trust_Take_1 : Nat := 57
noncomputable abbrev fn_trust_Take_1 : Func := Tryd.f57
abbrev n_law_simple : Nat := 58
noncomputable abbrev fn_law_simple : Func := Tryd.f58
abbrev n_meta_CheckRelease : Nat := 59
noncomputable abbrev fn_meta_CheckRelease : Func := Tryd.f59
abbrev n_strconv_Itoa : Nat := 60
noncomputable abbrev fn_strconv_Itoa : Func := Tryd.f60
abbrev n_meta_list : Nat := 61
noncomputable abbrev fn_meta_list : Func := Tryd.f61
abbrev n_meta_CheckRoot : Nat := 62
noncomputable abbrev fn_meta_CheckRoot : Func := Tryd.f62
abbrev n_slices_Contains_Lint : Nat := 63
noncomputable abbrev fn_slices_Contains_Lint : Func := Tryd.f63
abbrev n_slices_Contains_LSigned : Nat := 64
noncomputable abbrev fn_slices_Contains_LSigned : Func := Tryd.f64
abbrev n_ref_CheckRoot : Nat := 65
noncomputable abbrev fn_ref_CheckRoot : Func := Tryd.f65
abbrev n_ref_Taken_1 : Nat := 66
noncomputable abbrev fn_ref_Taken_1 : Func := Tryd.f66
abbrev n_ref_CheckRelease : Nat := 67
noncomputable abbrev fn_ref_CheckRelease : Func := Tryd.f67
abbrev n_ref_ReleaseText : Nat := 68
noncomputable abbrev fn_ref_ReleaseText : Func := Tryd.f68
abbrev n_ref_Turned_1 : Nat := 69
noncomputable abbrev fn_ref_Turned_1 : Func := Tryd.f69
abbrev n_ref_RootText : Nat := 70
noncomputable abbrev fn_ref_RootText : Func := Tryd.f70
abbrev n_slices_Grow_Lint : Nat := 71
noncomputable abbrev fn_slices_Grow_Lint : Func := Tryd.f71
abbrev n_unit_CheckMessage : Nat := 72
noncomputable abbrev fn_unit_CheckMessage : Func := Tryd.f72
abbrev n_unit_Copy : Nat := 73
noncomputable abbrev fn_unit_Copy : Func := Tryd.f73
abbrev n_unit_of : Nat := 74
noncomputable abbrev fn_unit_of : Func := Tryd.f74
abbrev n_unit_piece : Nat := 75
noncomputable abbrev fn_unit_piece : Func := Tryd.f75
abbrev n_unit_prepare : Nat := 76
noncomputable abbrev fn_unit_prepare : Func := Tryd.f76
abbrev n_unit_decided : Nat := 77
noncomputable abbrev fn_unit_decided : Func := Tryd.f77
abbrev n_unit_New : Nat := 78
noncomputable abbrev fn_unit_New : Func := Tryd.f78
abbrev n_unit_down : Nat := 79
noncomputable abbrev fn_unit_down : Func := Tryd.f79
abbrev n_log_Check : Nat := 80
noncomputable abbrev fn_log_Check : Func := Tryd.f80
abbrev n_slot_check : Nat := 81
noncomputable abbrev fn_slot_check : Func := Tryd.f81
abbrev n_slot_begin : Nat := 82
noncomputable abbrev fn_slot_begin : Func := Tryd.f82
abbrev n_slices_EqualFunc_LMessage : Nat := 83
noncomputable abbrev fn_slices_EqualFunc_LMessage : Func := Tryd.f83
abbrev n_ref_SameMessages_1 : Nat := 84
noncomputable abbrev fn_ref_SameMessages_1 : Func := Tryd.f84
abbrev n_meta_CheckImage : Nat := 85
noncomputable abbrev fn_meta_CheckImage : Func := Tryd.f85
abbrev n_slices_ContainsFunc_Lint : Nat := 86
noncomputable abbrev fn_slices_ContainsFunc_Lint : Func := Tryd.f86
abbrev n_ref_allWords_1 : Nat := 87
noncomputable abbrev fn_ref_allWords_1 : Func := Tryd.f87
abbrev n_ref_IsWord : Nat := 88
noncomputable abbrev fn_ref_IsWord : Func := Tryd.f88
abbrev n_strings_Join : Nat := 90
noncomputable abbrev fn_strings_Join : Func := Tryd.f90
abbrev n_slices_Index_Lint : Nat := 91
noncomputable abbrev fn_slices_Index_Lint : Func := Tryd.f91
abbrev n_slices_Index_LSigned : Nat := 92
noncomputable abbrev fn_slices_Index_LSigned : Func := Tryd.f92
abbrev n_unit_CheckMessage_1 : Nat := 93
noncomputable abbrev fn_unit_CheckMessage_1 : Func := Tryd.f93
abbrev n_flash_Copy : Nat := 94
noncomputable abbrev fn_flash_Copy : Func := Tryd.f94
abbrev n_log_Records : Nat := 95
noncomputable abbrev fn_log_Records : Func := Tryd.f95
abbrev n_unit_state : Nat := 96
noncomputable abbrev fn_unit_state : Func := Tryd.f96
abbrev n_slot_Clear : Nat := 97
noncomputable abbrev fn_slot_Clear : Func := Tryd.f97
abbrev n_unit_change : Nat := 98
noncomputable abbrev fn_unit_change : Func := Tryd.f98
abbrev n_slot_Fill : Nat := 99
noncomputable abbrev fn_slot_Fill : Func := Tryd.f99
abbrev n_unit_prepare_1 : Nat := 100
noncomputable abbrev fn_unit_prepare_1 : Func := Tryd.f100
abbrev n_slot_Body : Nat := 101
noncomputable abbrev fn_slot_Body : Func := Tryd.f101
abbrev n_slot_Seal : Nat := 102
noncomputable abbrev fn_slot_Seal : Func := Tryd.f102
abbrev n_unit_note : Nat := 103
noncomputable abbrev fn_unit_note : Func := Tryd.f103
abbrev n_flash_New : Nat := 104
noncomputable abbrev fn_flash_New : Func := Tryd.f104
abbrev n_log_Format : Nat := 105
noncomputable abbrev fn_log_Format : Func := Tryd.f105
abbrev n_log_Append : Nat := 106
noncomputable abbrev fn_log_Append : Func := Tryd.f106
abbrev n_flash_Check : Nat := 107
noncomputable abbrev fn_flash_Check : Func := Tryd.f107
abbrev n_log_live : Nat := 108
noncomputable abbrev fn_log_live : Func := Tryd.f108
abbrev n_slices_IndexFunc_Lint : Nat := 109
noncomputable abbrev fn_slices_IndexFunc_Lint : Func := Tryd.f109
abbrev n_log_scan : Nat := 114
noncomputable abbrev fn_log_scan : Func := Tryd.f114
abbrev n_flash_Wipe : Nat := 115
noncomputable abbrev fn_flash_Wipe : Func := Tryd.f115
abbrev n_flash_Program : Nat := 116
noncomputable abbrev fn_flash_Program : Func := Tryd.f116
abbrev n_flash_Read : Nat := 117
noncomputable abbrev fn_flash_Read : Func := Tryd.f117
abbrev n_unit_keep : Nat := 118
noncomputable abbrev fn_unit_keep : Func := Tryd.f118
abbrev n_slices_Repeat_Lint : Nat := 119
noncomputable abbrev fn_slices_Repeat_Lint : Func := Tryd.f119
abbrev n_flash_Burn : Nat := 120
noncomputable abbrev fn_flash_Burn : Func := Tryd.f120
abbrev n_log_check : Nat := 121
noncomputable abbrev fn_log_check : Func := Tryd.f121
abbrev n_slices_Clone_LRecord : Nat := 122
noncomputable abbrev fn_slices_Clone_LRecord : Func := Tryd.f122
abbrev n_log_words : Nat := 123
noncomputable abbrev fn_log_words : Func := Tryd.f123
abbrev n_slices_Clone_Record : Nat := 130
noncomputable abbrev fn_slices_Clone_Record : Func := Tryd.f130
abbrev n_flash_burn : Nat := 131
noncomputable abbrev fn_flash_burn : Func := Tryd.f131
abbrev n_flash_Program_1 : Nat := 132
noncomputable abbrev fn_flash_Program_1 : Func := Tryd.f132
abbrev n_math_bits_Mul : Nat := 133
noncomputable abbrev fn_math_bits_Mul : Func := Tryd.f133
abbrev n_slices_ContainsFunc_Record : Nat := 134
noncomputable abbrev fn_slices_ContainsFunc_Record : Func := Tryd.f134
abbrev n_log_check_1 : Nat := 135
noncomputable abbrev fn_log_check_1 : Func := Tryd.f135
abbrev n_log_head : Nat := 136
noncomputable abbrev fn_log_head : Func := Tryd.f136
abbrev n_math_bits_Len64 : Nat := 138
noncomputable abbrev fn_math_bits_Len64 : Func := Tryd.f138
abbrev n_math_bits_TrailingZeros : Nat := 141
noncomputable abbrev fn_math_bits_TrailingZeros : Func := Tryd.f141
abbrev n_math_bits_Mul32 : Nat := 144
noncomputable abbrev fn_math_bits_Mul32 : Func := Tryd.f144
abbrev n_math_bits_Mul64 : Nat := 145
noncomputable abbrev fn_math_bits_Mul64 : Func := Tryd.f145
abbrev n_slices_IndexFunc_Record : Nat := 146
noncomputable abbrev fn_slices_IndexFunc_Record : Func := Tryd.f146
abbrev n_math_bits_TrailingZeros32 : Nat := 147
noncomputable abbrev fn_math_bits_TrailingZeros32 : Func := Tryd.f147
abbrev n_math_bits_TrailingZeros64 : Nat := 148
noncomputable abbrev fn_math_bits_TrailingZeros64 : Func := Tryd.f148
def fnNames : List Nat := [n_law_MetaApart, n_law_MetaNames, n_law_TrustRises, n_law_TrustSays, n_law_TrustCounts, n_law_UnitDown, n_law_UnitHolds, n_law_UnitPieces, n_law_UnitReady, n_law_UnitTwice, n_meta_Name, n_law_written, n_slices_Contains_Lstring, n_meta_ImageName, n_ref_CheckBook, n_meta_CheckBook, n_ref_NameOf, n_ref_CheckImage, n_ref_ImageText, n_trust_Take, n_law_trusted, n_meta_ReleaseText, n_trust_Count, n_ref_SameTrust, n_ref_Counted, n_ref_Taken, n_trust_CheckSigned, n_ref_CheckSigned, n_trust_CheckTrust, n_ref_CheckTrust, n_trust_Turn, n_ref_Turned, n_slices_Clone_Lint, n_slices_Reverse_Lint, n_slices_Clone_LSigned, n_slices_Reverse_LSigned, n_slices_Concat_Lint, n_unit_Hear, n_ref_SameUnit, n_law_at, n_law_united, n_unit_Runs, n_unit_Read, n_unit_Boot, n_unit_Check, n_slices_Equal_Lint, n_slot_Image, n_ref_SameMessages, n_ref_SameFlash, n_slices_Index_Lstring, n_meta_RootText, n_meta_ImageText, n_ref_allWords, n_ref_spaced, n_trust_Take_1, n_law_simple, n_meta_CheckRelease, n_strconv_Itoa, n_meta_list, n_meta_CheckRoot, n_slices_Contains_Lint, n_slices_Contains_LSigned, n_ref_CheckRoot, n_ref_Taken_1, n_ref_CheckRelease, n_ref_ReleaseText, n_ref_Turned_1, n_ref_RootText, n_slices_Grow_Lint, n_unit_CheckMessage, n_unit_Copy, n_unit_of, n_unit_piece, n_unit_prepare, n_unit_decided, n_unit_New, n_unit_down, n_log_Check, n_slot_check, n_slot_begin, n_slices_EqualFunc_LMessage, n_ref_SameMessages_1, n_meta_CheckImage, n_slices_ContainsFunc_Lint, n_ref_allWords_1, n_ref_IsWord, n_strings_Join, n_slices_Index_Lint, n_slices_Index_LSigned, n_unit_CheckMessage_1, n_flash_Copy, n_log_Records, n_unit_state, n_slot_Clear, n_unit_change, n_slot_Fill, n_unit_prepare_1, n_slot_Body, n_slot_Seal, n_unit_note, n_flash_New, n_log_Format, n_log_Append, n_flash_Check, n_log_live, n_slices_IndexFunc_Lint, n_log_scan, n_flash_Wipe, n_flash_Program, n_flash_Read, n_unit_keep, n_slices_Repeat_Lint, n_flash_Burn, n_log_check, n_slices_Clone_LRecord, n_log_words, n_slices_Clone_Record, n_flash_burn, n_flash_Program_1, n_math_bits_Mul, n_slices_ContainsFunc_Record, n_log_check_1, n_log_head, n_math_bits_Len64, n_math_bits_TrailingZeros, n_math_bits_Mul32, n_math_bits_Mul64, n_slices_IndexFunc_Record, n_math_bits_TrailingZeros32, n_math_bits_TrailingZeros64]
theorem hf_law_MetaApart : Tryd.prog.funcs[n_law_MetaApart]? = some fn_law_MetaApart := Tryd.func3
theorem hB_law_MetaApart : fnB fn_law_MetaApart = true := by kernel_rfl
theorem hf_law_MetaNames : Tryd.prog.funcs[n_law_MetaNames]? = some fn_law_MetaNames := Tryd.func4
theorem hB_law_MetaNames : fnB fn_law_MetaNames = true := by kernel_rfl
theorem hf_law_TrustRises : Tryd.prog.funcs[n_law_TrustRises]? = some fn_law_TrustRises := Tryd.func5
theorem hB_law_TrustRises : fnB fn_law_TrustRises = true := by kernel_rfl
theorem hf_law_TrustSays : Tryd.prog.funcs[n_law_TrustSays]? = some fn_law_TrustSays := Tryd.func6
theorem hB_law_TrustSays : fnB fn_law_TrustSays = true := by kernel_rfl
theorem hf_law_TrustCounts : Tryd.prog.funcs[n_law_TrustCounts]? = some fn_law_TrustCounts := Tryd.func7
theorem hB_law_TrustCounts : fnB fn_law_TrustCounts = true := by kernel_rfl
theorem hf_law_UnitDown : Tryd.prog.funcs[n_law_UnitDown]? = some fn_law_UnitDown := Tryd.func8
theorem hB_law_UnitDown : fnB fn_law_UnitDown = true := by kernel_rfl
theorem hf_law_UnitHolds : Tryd.prog.funcs[n_law_UnitHolds]? = some fn_law_UnitHolds := Tryd.func9
theorem hB_law_UnitHolds : fnB fn_law_UnitHolds = true := by kernel_rfl
theorem hf_law_UnitPieces : Tryd.prog.funcs[n_law_UnitPieces]? = some fn_law_UnitPieces := Tryd.func10
theorem hB_law_UnitPieces : fnB fn_law_UnitPieces = true := by kernel_rfl
theorem hf_law_UnitReady : Tryd.prog.funcs[n_law_UnitReady]? = some fn_law_UnitReady := Tryd.func11
theorem hB_law_UnitReady : fnB fn_law_UnitReady = true := by kernel_rfl
theorem hf_law_UnitTwice : Tryd.prog.funcs[n_law_UnitTwice]? = some fn_law_UnitTwice := Tryd.func12
theorem hB_law_UnitTwice : fnB fn_law_UnitTwice = true := by kernel_rfl
theorem hf_meta_Name : Tryd.prog.funcs[n_meta_Name]? = some fn_meta_Name := Tryd.func13
theorem hB_meta_Name : fnB fn_meta_Name = true := by kernel_rfl
theorem hf_law_written : Tryd.prog.funcs[n_law_written]? = some fn_law_written := Tryd.func14
theorem hB_law_written : fnB fn_law_written = true := by kernel_rfl
theorem hf_slices_Contains_Lstring : Tryd.prog.funcs[n_slices_Contains_Lstring]? = some fn_slices_Contains_Lstring := Tryd.func15
theorem hB_slices_Contains_Lstring : fnB fn_slices_Contains_Lstring = true := by kernel_rfl
theorem hf_meta_ImageName : Tryd.prog.funcs[n_meta_ImageName]? = some fn_meta_ImageName := Tryd.func16
theorem hB_meta_ImageName : fnB fn_meta_ImageName = true := by kernel_rfl
theorem hf_ref_CheckBook : Tryd.prog.funcs[n_ref_CheckBook]? = some fn_ref_CheckBook := Tryd.func17
theorem hB_ref_CheckBook : fnB fn_ref_CheckBook = true := by kernel_rfl
theorem hf_meta_CheckBook : Tryd.prog.funcs[n_meta_CheckBook]? = some fn_meta_CheckBook := Tryd.func18
theorem hB_meta_CheckBook : fnB fn_meta_CheckBook = true := by kernel_rfl
theorem hf_ref_NameOf : Tryd.prog.funcs[n_ref_NameOf]? = some fn_ref_NameOf := Tryd.func19
theorem hB_ref_NameOf : fnB fn_ref_NameOf = true := by kernel_rfl
theorem hf_ref_CheckImage : Tryd.prog.funcs[n_ref_CheckImage]? = some fn_ref_CheckImage := Tryd.func20
theorem hB_ref_CheckImage : fnB fn_ref_CheckImage = true := by kernel_rfl
theorem hf_ref_ImageText : Tryd.prog.funcs[n_ref_ImageText]? = some fn_ref_ImageText := Tryd.func21
theorem hB_ref_ImageText : fnB fn_ref_ImageText = true := by kernel_rfl
theorem hf_trust_Take : Tryd.prog.funcs[n_trust_Take]? = some fn_trust_Take := Tryd.func22
theorem hB_trust_Take : fnB fn_trust_Take = true := by kernel_rfl
theorem hf_law_trusted : Tryd.prog.funcs[n_law_trusted]? = some fn_law_trusted := Tryd.func23
theorem hB_law_trusted : fnB fn_law_trusted = true := by kernel_rfl
theorem hf_meta_ReleaseText : Tryd.prog.funcs[n_meta_ReleaseText]? = some fn_meta_ReleaseText := Tryd.func24
theorem hB_meta_ReleaseText : fnB fn_meta_ReleaseText = true := by kernel_rfl
theorem hf_trust_Count : Tryd.prog.funcs[n_trust_Count]? = some fn_trust_Count := Tryd.func25
theorem hB_trust_Count : fnB fn_trust_Count = true := by kernel_rfl
theorem hf_ref_SameTrust : Tryd.prog.funcs[n_ref_SameTrust]? = some fn_ref_SameTrust := Tryd.func26
theorem hB_ref_SameTrust : fnB fn_ref_SameTrust = true := by kernel_rfl
theorem hf_ref_Counted : Tryd.prog.funcs[n_ref_Counted]? = some fn_ref_Counted := Tryd.func27
theorem hB_ref_Counted : fnB fn_ref_Counted = true := by kernel_rfl
theorem hf_ref_Taken : Tryd.prog.funcs[n_ref_Taken]? = some fn_ref_Taken := Tryd.func28
theorem hB_ref_Taken : fnB fn_ref_Taken = true := by kernel_rfl
theorem hf_trust_CheckSigned : Tryd.prog.funcs[n_trust_CheckSigned]? = some fn_trust_CheckSigned := Tryd.func29
theorem hB_trust_CheckSigned : fnB fn_trust_CheckSigned = true := by kernel_rfl
theorem hf_ref_CheckSigned : Tryd.prog.funcs[n_ref_CheckSigned]? = some fn_ref_CheckSigned := Tryd.func30
theorem hB_ref_CheckSigned : fnB fn_ref_CheckSigned = true := by kernel_rfl
theorem hf_trust_CheckTrust : Tryd.prog.funcs[n_trust_CheckTrust]? = some fn_trust_CheckTrust := Tryd.func31
theorem hB_trust_CheckTrust : fnB fn_trust_CheckTrust = true := by kernel_rfl
theorem hf_ref_CheckTrust : Tryd.prog.funcs[n_ref_CheckTrust]? = some fn_ref_CheckTrust := Tryd.func32
theorem hB_ref_CheckTrust : fnB fn_ref_CheckTrust = true := by kernel_rfl
theorem hf_trust_Turn : Tryd.prog.funcs[n_trust_Turn]? = some fn_trust_Turn := Tryd.func33
theorem hB_trust_Turn : fnB fn_trust_Turn = true := by kernel_rfl
theorem hf_ref_Turned : Tryd.prog.funcs[n_ref_Turned]? = some fn_ref_Turned := Tryd.func34
theorem hB_ref_Turned : fnB fn_ref_Turned = true := by kernel_rfl
theorem hf_slices_Clone_Lint : Tryd.prog.funcs[n_slices_Clone_Lint]? = some fn_slices_Clone_Lint := Tryd.func35
theorem hB_slices_Clone_Lint : fnB fn_slices_Clone_Lint = true := by kernel_rfl
theorem hf_slices_Reverse_Lint : Tryd.prog.funcs[n_slices_Reverse_Lint]? = some fn_slices_Reverse_Lint := Tryd.func36
theorem hB_slices_Reverse_Lint : fnB fn_slices_Reverse_Lint = true := by kernel_rfl
theorem hf_slices_Clone_LSigned : Tryd.prog.funcs[n_slices_Clone_LSigned]? = some fn_slices_Clone_LSigned := Tryd.func37
theorem hB_slices_Clone_LSigned : fnB fn_slices_Clone_LSigned = true := by kernel_rfl
theorem hf_slices_Reverse_LSigned : Tryd.prog.funcs[n_slices_Reverse_LSigned]? = some fn_slices_Reverse_LSigned := Tryd.func38
theorem hB_slices_Reverse_LSigned : fnB fn_slices_Reverse_LSigned = true := by kernel_rfl
theorem hf_slices_Concat_Lint : Tryd.prog.funcs[n_slices_Concat_Lint]? = some fn_slices_Concat_Lint := Tryd.func39
theorem hB_slices_Concat_Lint : fnB fn_slices_Concat_Lint = true := by kernel_rfl
theorem hf_unit_Hear : Tryd.prog.funcs[n_unit_Hear]? = some fn_unit_Hear := Tryd.func40
theorem hB_unit_Hear : fnB fn_unit_Hear = true := by kernel_rfl
theorem hf_ref_SameUnit : Tryd.prog.funcs[n_ref_SameUnit]? = some fn_ref_SameUnit := Tryd.func41
theorem hB_ref_SameUnit : fnB fn_ref_SameUnit = true := by kernel_rfl
theorem hf_law_at : Tryd.prog.funcs[n_law_at]? = some fn_law_at := Tryd.func42
theorem hB_law_at : fnB fn_law_at = true := by kernel_rfl
theorem hf_law_united : Tryd.prog.funcs[n_law_united]? = some fn_law_united := Tryd.func43
theorem hB_law_united : fnB fn_law_united = true := by kernel_rfl
theorem hf_unit_Runs : Tryd.prog.funcs[n_unit_Runs]? = some fn_unit_Runs := Tryd.func44
theorem hB_unit_Runs : fnB fn_unit_Runs = true := by kernel_rfl
theorem hf_unit_Read : Tryd.prog.funcs[n_unit_Read]? = some fn_unit_Read := Tryd.func45
theorem hB_unit_Read : fnB fn_unit_Read = true := by kernel_rfl
theorem hf_unit_Boot : Tryd.prog.funcs[n_unit_Boot]? = some fn_unit_Boot := Tryd.func46
theorem hB_unit_Boot : fnB fn_unit_Boot = true := by kernel_rfl
theorem hf_unit_Check : Tryd.prog.funcs[n_unit_Check]? = some fn_unit_Check := Tryd.func47
theorem hB_unit_Check : fnB fn_unit_Check = true := by kernel_rfl
theorem hf_slices_Equal_Lint : Tryd.prog.funcs[n_slices_Equal_Lint]? = some fn_slices_Equal_Lint := Tryd.func48
theorem hB_slices_Equal_Lint : fnB fn_slices_Equal_Lint = true := by kernel_rfl
theorem hf_slot_Image : Tryd.prog.funcs[n_slot_Image]? = some fn_slot_Image := Tryd.func49
theorem hB_slot_Image : fnB fn_slot_Image = true := by kernel_rfl
theorem hf_ref_SameMessages : Tryd.prog.funcs[n_ref_SameMessages]? = some fn_ref_SameMessages := Tryd.func50
theorem hB_ref_SameMessages : fnB fn_ref_SameMessages = true := by kernel_rfl
theorem hf_ref_SameFlash : Tryd.prog.funcs[n_ref_SameFlash]? = some fn_ref_SameFlash := Tryd.func51
theorem hB_ref_SameFlash : fnB fn_ref_SameFlash = true := by kernel_rfl
theorem hf_slices_Index_Lstring : Tryd.prog.funcs[n_slices_Index_Lstring]? = some fn_slices_Index_Lstring := Tryd.func52
theorem hB_slices_Index_Lstring : fnB fn_slices_Index_Lstring = true := by kernel_rfl
theorem hf_meta_RootText : Tryd.prog.funcs[n_meta_RootText]? = some fn_meta_RootText := Tryd.func53
theorem hB_meta_RootText : fnB fn_meta_RootText = true := by kernel_rfl
theorem hf_meta_ImageText : Tryd.prog.funcs[n_meta_ImageText]? = some fn_meta_ImageText := Tryd.func54
theorem hB_meta_ImageText : fnB fn_meta_ImageText = true := by kernel_rfl
theorem hf_ref_allWords : Tryd.prog.funcs[n_ref_allWords]? = some fn_ref_allWords := Tryd.func55
theorem hB_ref_allWords : fnB fn_ref_allWords = true := by kernel_rfl
theorem hf_ref_spaced : Tryd.prog.funcs[n_ref_spaced]? = some fn_ref_spaced := Tryd.func56
theorem hB_ref_spaced : fnB fn_ref_spaced = true := by kernel_rfl
theorem hf_trust_Take_1 : Tryd.prog.funcs[n_trust_Take_1]? = some fn_trust_Take_1 := Tryd.func57
theorem hB_trust_Take_1 : fnB fn_trust_Take_1 = true := by kernel_rfl
theorem hf_law_simple : Tryd.prog.funcs[n_law_simple]? = some fn_law_simple := Tryd.func58
theorem hB_law_simple : fnB fn_law_simple = true := by kernel_rfl
theorem hf_meta_CheckRelease : Tryd.prog.funcs[n_meta_CheckRelease]? = some fn_meta_CheckRelease := Tryd.func59
theorem hB_meta_CheckRelease : fnB fn_meta_CheckRelease = true := by kernel_rfl
theorem hf_strconv_Itoa : Tryd.prog.funcs[n_strconv_Itoa]? = some fn_strconv_Itoa := Tryd.func60
theorem hB_strconv_Itoa : fnB fn_strconv_Itoa = true := by kernel_rfl
theorem hf_meta_list : Tryd.prog.funcs[n_meta_list]? = some fn_meta_list := Tryd.func61
theorem hB_meta_list : fnB fn_meta_list = true := by kernel_rfl
theorem hf_meta_CheckRoot : Tryd.prog.funcs[n_meta_CheckRoot]? = some fn_meta_CheckRoot := Tryd.func62
theorem hB_meta_CheckRoot : fnB fn_meta_CheckRoot = true := by kernel_rfl
theorem hf_slices_Contains_Lint : Tryd.prog.funcs[n_slices_Contains_Lint]? = some fn_slices_Contains_Lint := Tryd.func63
theorem hB_slices_Contains_Lint : fnB fn_slices_Contains_Lint = true := by kernel_rfl
theorem hf_slices_Contains_LSigned : Tryd.prog.funcs[n_slices_Contains_LSigned]? = some fn_slices_Contains_LSigned := Tryd.func64
theorem hB_slices_Contains_LSigned : fnB fn_slices_Contains_LSigned = true := by kernel_rfl
theorem hf_ref_CheckRoot : Tryd.prog.funcs[n_ref_CheckRoot]? = some fn_ref_CheckRoot := Tryd.func65
theorem hB_ref_CheckRoot : fnB fn_ref_CheckRoot = true := by kernel_rfl
theorem hf_ref_Taken_1 : Tryd.prog.funcs[n_ref_Taken_1]? = some fn_ref_Taken_1 := Tryd.func66
theorem hB_ref_Taken_1 : fnB fn_ref_Taken_1 = true := by kernel_rfl
theorem hf_ref_CheckRelease : Tryd.prog.funcs[n_ref_CheckRelease]? = some fn_ref_CheckRelease := Tryd.func67
theorem hB_ref_CheckRelease : fnB fn_ref_CheckRelease = true := by kernel_rfl
theorem hf_ref_ReleaseText : Tryd.prog.funcs[n_ref_ReleaseText]? = some fn_ref_ReleaseText := Tryd.func68
theorem hB_ref_ReleaseText : fnB fn_ref_ReleaseText = true := by kernel_rfl
theorem hf_ref_Turned_1 : Tryd.prog.funcs[n_ref_Turned_1]? = some fn_ref_Turned_1 := Tryd.func69
theorem hB_ref_Turned_1 : fnB fn_ref_Turned_1 = true := by kernel_rfl
theorem hf_ref_RootText : Tryd.prog.funcs[n_ref_RootText]? = some fn_ref_RootText := Tryd.func70
theorem hB_ref_RootText : fnB fn_ref_RootText = true := by kernel_rfl
theorem hf_slices_Grow_Lint : Tryd.prog.funcs[n_slices_Grow_Lint]? = some fn_slices_Grow_Lint := Tryd.func71
theorem hB_slices_Grow_Lint : fnB fn_slices_Grow_Lint = true := by kernel_rfl
theorem hf_unit_CheckMessage : Tryd.prog.funcs[n_unit_CheckMessage]? = some fn_unit_CheckMessage := Tryd.func72
theorem hB_unit_CheckMessage : fnB fn_unit_CheckMessage = true := by kernel_rfl
theorem hf_unit_Copy : Tryd.prog.funcs[n_unit_Copy]? = some fn_unit_Copy := Tryd.func73
theorem hB_unit_Copy : fnB fn_unit_Copy = true := by kernel_rfl
theorem hf_unit_of : Tryd.prog.funcs[n_unit_of]? = some fn_unit_of := Tryd.func74
theorem hB_unit_of : fnB fn_unit_of = true := by kernel_rfl
theorem hf_unit_piece : Tryd.prog.funcs[n_unit_piece]? = some fn_unit_piece := Tryd.func75
theorem hB_unit_piece : fnB fn_unit_piece = true := by kernel_rfl
theorem hf_unit_prepare : Tryd.prog.funcs[n_unit_prepare]? = some fn_unit_prepare := Tryd.func76
theorem hB_unit_prepare : fnB fn_unit_prepare = true := by kernel_rfl
theorem hf_unit_decided : Tryd.prog.funcs[n_unit_decided]? = some fn_unit_decided := Tryd.func77
theorem hB_unit_decided : fnB fn_unit_decided = true := by kernel_rfl
theorem hf_unit_New : Tryd.prog.funcs[n_unit_New]? = some fn_unit_New := Tryd.func78
theorem hB_unit_New : fnB fn_unit_New = true := by kernel_rfl
theorem hf_unit_down : Tryd.prog.funcs[n_unit_down]? = some fn_unit_down := Tryd.func79
theorem hB_unit_down : fnB fn_unit_down = true := by kernel_rfl
theorem hf_log_Check : Tryd.prog.funcs[n_log_Check]? = some fn_log_Check := Tryd.func80
theorem hB_log_Check : fnB fn_log_Check = true := by kernel_rfl
theorem hf_slot_check : Tryd.prog.funcs[n_slot_check]? = some fn_slot_check := Tryd.func81
theorem hB_slot_check : fnB fn_slot_check = true := by kernel_rfl
theorem hf_slot_begin : Tryd.prog.funcs[n_slot_begin]? = some fn_slot_begin := Tryd.func82
theorem hB_slot_begin : fnB fn_slot_begin = true := by kernel_rfl
theorem hf_slices_EqualFunc_LMessage : Tryd.prog.funcs[n_slices_EqualFunc_LMessage]? = some fn_slices_EqualFunc_LMessage := Tryd.func83
theorem hB_slices_EqualFunc_LMessage : fnB fn_slices_EqualFunc_LMessage = true := by kernel_rfl
theorem hf_ref_SameMessages_1 : Tryd.prog.funcs[n_ref_SameMessages_1]? = some fn_ref_SameMessages_1 := Tryd.func84
theorem hB_ref_SameMessages_1 : fnB fn_ref_SameMessages_1 = true := by kernel_rfl
theorem hf_meta_CheckImage : Tryd.prog.funcs[n_meta_CheckImage]? = some fn_meta_CheckImage := Tryd.func85
theorem hB_meta_CheckImage : fnB fn_meta_CheckImage = true := by kernel_rfl
theorem hf_slices_ContainsFunc_Lint : Tryd.prog.funcs[n_slices_ContainsFunc_Lint]? = some fn_slices_ContainsFunc_Lint := Tryd.func86
theorem hB_slices_ContainsFunc_Lint : fnB fn_slices_ContainsFunc_Lint = true := by kernel_rfl
theorem hf_ref_allWords_1 : Tryd.prog.funcs[n_ref_allWords_1]? = some fn_ref_allWords_1 := Tryd.func87
theorem hB_ref_allWords_1 : fnB fn_ref_allWords_1 = true := by kernel_rfl
theorem hf_ref_IsWord : Tryd.prog.funcs[n_ref_IsWord]? = some fn_ref_IsWord := Tryd.func88
theorem hB_ref_IsWord : fnB fn_ref_IsWord = true := by kernel_rfl
theorem hf_strings_Join : Tryd.prog.funcs[n_strings_Join]? = some fn_strings_Join := Tryd.func90
theorem hB_strings_Join : fnB fn_strings_Join = true := by kernel_rfl
theorem hf_slices_Index_Lint : Tryd.prog.funcs[n_slices_Index_Lint]? = some fn_slices_Index_Lint := Tryd.func91
theorem hB_slices_Index_Lint : fnB fn_slices_Index_Lint = true := by kernel_rfl
theorem hf_slices_Index_LSigned : Tryd.prog.funcs[n_slices_Index_LSigned]? = some fn_slices_Index_LSigned := Tryd.func92
theorem hB_slices_Index_LSigned : fnB fn_slices_Index_LSigned = true := by kernel_rfl
theorem hf_unit_CheckMessage_1 : Tryd.prog.funcs[n_unit_CheckMessage_1]? = some fn_unit_CheckMessage_1 := Tryd.func93
theorem hB_unit_CheckMessage_1 : fnB fn_unit_CheckMessage_1 = true := by kernel_rfl
theorem hf_flash_Copy : Tryd.prog.funcs[n_flash_Copy]? = some fn_flash_Copy := Tryd.func94
theorem hB_flash_Copy : fnB fn_flash_Copy = true := by kernel_rfl
theorem hf_log_Records : Tryd.prog.funcs[n_log_Records]? = some fn_log_Records := Tryd.func95
theorem hB_log_Records : fnB fn_log_Records = true := by kernel_rfl
theorem hf_unit_state : Tryd.prog.funcs[n_unit_state]? = some fn_unit_state := Tryd.func96
theorem hB_unit_state : fnB fn_unit_state = true := by kernel_rfl
theorem hf_slot_Clear : Tryd.prog.funcs[n_slot_Clear]? = some fn_slot_Clear := Tryd.func97
theorem hB_slot_Clear : fnB fn_slot_Clear = true := by kernel_rfl
theorem hf_unit_change : Tryd.prog.funcs[n_unit_change]? = some fn_unit_change := Tryd.func98
theorem hB_unit_change : fnB fn_unit_change = true := by kernel_rfl
theorem hf_slot_Fill : Tryd.prog.funcs[n_slot_Fill]? = some fn_slot_Fill := Tryd.func99
theorem hB_slot_Fill : fnB fn_slot_Fill = true := by kernel_rfl
theorem hf_unit_prepare_1 : Tryd.prog.funcs[n_unit_prepare_1]? = some fn_unit_prepare_1 := Tryd.func100
theorem hB_unit_prepare_1 : fnB fn_unit_prepare_1 = true := by kernel_rfl
theorem hf_slot_Body : Tryd.prog.funcs[n_slot_Body]? = some fn_slot_Body := Tryd.func101
theorem hB_slot_Body : fnB fn_slot_Body = true := by kernel_rfl
theorem hf_slot_Seal : Tryd.prog.funcs[n_slot_Seal]? = some fn_slot_Seal := Tryd.func102
theorem hB_slot_Seal : fnB fn_slot_Seal = true := by kernel_rfl
theorem hf_unit_note : Tryd.prog.funcs[n_unit_note]? = some fn_unit_note := Tryd.func103
theorem hB_unit_note : fnB fn_unit_note = true := by kernel_rfl
theorem hf_flash_New : Tryd.prog.funcs[n_flash_New]? = some fn_flash_New := Tryd.func104
theorem hB_flash_New : fnB fn_flash_New = true := by kernel_rfl
theorem hf_log_Format : Tryd.prog.funcs[n_log_Format]? = some fn_log_Format := Tryd.func105
theorem hB_log_Format : fnB fn_log_Format = true := by kernel_rfl
theorem hf_log_Append : Tryd.prog.funcs[n_log_Append]? = some fn_log_Append := Tryd.func106
theorem hB_log_Append : fnB fn_log_Append = true := by kernel_rfl
theorem hf_flash_Check : Tryd.prog.funcs[n_flash_Check]? = some fn_flash_Check := Tryd.func107
theorem hB_flash_Check : fnB fn_flash_Check = true := by kernel_rfl
theorem hf_log_live : Tryd.prog.funcs[n_log_live]? = some fn_log_live := Tryd.func108
theorem hB_log_live : fnB fn_log_live = true := by kernel_rfl
theorem hf_slices_IndexFunc_Lint : Tryd.prog.funcs[n_slices_IndexFunc_Lint]? = some fn_slices_IndexFunc_Lint := Tryd.func109
theorem hB_slices_IndexFunc_Lint : fnB fn_slices_IndexFunc_Lint = true := by kernel_rfl
theorem hf_log_scan : Tryd.prog.funcs[n_log_scan]? = some fn_log_scan := Tryd.func114
theorem hB_log_scan : fnB fn_log_scan = true := by kernel_rfl
theorem hf_flash_Wipe : Tryd.prog.funcs[n_flash_Wipe]? = some fn_flash_Wipe := Tryd.func115
theorem hB_flash_Wipe : fnB fn_flash_Wipe = true := by kernel_rfl
theorem hf_flash_Program : Tryd.prog.funcs[n_flash_Program]? = some fn_flash_Program := Tryd.func116
theorem hB_flash_Program : fnB fn_flash_Program = true := by kernel_rfl
theorem hf_flash_Read : Tryd.prog.funcs[n_flash_Read]? = some fn_flash_Read := Tryd.func117
theorem hB_flash_Read : fnB fn_flash_Read = true := by kernel_rfl
theorem hf_unit_keep : Tryd.prog.funcs[n_unit_keep]? = some fn_unit_keep := Tryd.func118
theorem hB_unit_keep : fnB fn_unit_keep = true := by kernel_rfl
theorem hf_slices_Repeat_Lint : Tryd.prog.funcs[n_slices_Repeat_Lint]? = some fn_slices_Repeat_Lint := Tryd.func119
theorem hB_slices_Repeat_Lint : fnB fn_slices_Repeat_Lint = true := by kernel_rfl
theorem hf_flash_Burn : Tryd.prog.funcs[n_flash_Burn]? = some fn_flash_Burn := Tryd.func120
theorem hB_flash_Burn : fnB fn_flash_Burn = true := by kernel_rfl
theorem hf_log_check : Tryd.prog.funcs[n_log_check]? = some fn_log_check := Tryd.func121
theorem hB_log_check : fnB fn_log_check = true := by kernel_rfl
theorem hf_slices_Clone_LRecord : Tryd.prog.funcs[n_slices_Clone_LRecord]? = some fn_slices_Clone_LRecord := Tryd.func122
theorem hB_slices_Clone_LRecord : fnB fn_slices_Clone_LRecord = true := by kernel_rfl
theorem hf_log_words : Tryd.prog.funcs[n_log_words]? = some fn_log_words := Tryd.func123
theorem hB_log_words : fnB fn_log_words = true := by kernel_rfl
theorem hf_slices_Clone_Record : Tryd.prog.funcs[n_slices_Clone_Record]? = some fn_slices_Clone_Record := Tryd.func130
theorem hB_slices_Clone_Record : fnB fn_slices_Clone_Record = true := by kernel_rfl
theorem hf_flash_burn : Tryd.prog.funcs[n_flash_burn]? = some fn_flash_burn := Tryd.func131
theorem hB_flash_burn : fnB fn_flash_burn = true := by kernel_rfl
theorem hf_flash_Program_1 : Tryd.prog.funcs[n_flash_Program_1]? = some fn_flash_Program_1 := Tryd.func132
theorem hB_flash_Program_1 : fnB fn_flash_Program_1 = true := by kernel_rfl
theorem hf_math_bits_Mul : Tryd.prog.funcs[n_math_bits_Mul]? = some fn_math_bits_Mul := Tryd.func133
theorem hB_math_bits_Mul : fnB fn_math_bits_Mul = true := by kernel_rfl
theorem hf_slices_ContainsFunc_Record : Tryd.prog.funcs[n_slices_ContainsFunc_Record]? = some fn_slices_ContainsFunc_Record := Tryd.func134
theorem hB_slices_ContainsFunc_Record : fnB fn_slices_ContainsFunc_Record = true := by kernel_rfl
theorem hf_log_check_1 : Tryd.prog.funcs[n_log_check_1]? = some fn_log_check_1 := Tryd.func135
theorem hB_log_check_1 : fnB fn_log_check_1 = true := by kernel_rfl
theorem hf_log_head : Tryd.prog.funcs[n_log_head]? = some fn_log_head := Tryd.func136
theorem hB_log_head : fnB fn_log_head = true := by kernel_rfl
theorem hf_math_bits_Len64 : Tryd.prog.funcs[n_math_bits_Len64]? = some fn_math_bits_Len64 := Tryd.func138
theorem hB_math_bits_Len64 : fnB fn_math_bits_Len64 = true := by kernel_rfl
theorem hf_math_bits_TrailingZeros : Tryd.prog.funcs[n_math_bits_TrailingZeros]? = some fn_math_bits_TrailingZeros := Tryd.func141
theorem hB_math_bits_TrailingZeros : fnB fn_math_bits_TrailingZeros = true := by kernel_rfl
theorem hf_math_bits_Mul32 : Tryd.prog.funcs[n_math_bits_Mul32]? = some fn_math_bits_Mul32 := Tryd.func144
theorem hB_math_bits_Mul32 : fnB fn_math_bits_Mul32 = true := by kernel_rfl
theorem hf_math_bits_Mul64 : Tryd.prog.funcs[n_math_bits_Mul64]? = some fn_math_bits_Mul64 := Tryd.func145
theorem hB_math_bits_Mul64 : fnB fn_math_bits_Mul64 = true := by kernel_rfl
theorem hf_slices_IndexFunc_Record : Tryd.prog.funcs[n_slices_IndexFunc_Record]? = some fn_slices_IndexFunc_Record := Tryd.func146
theorem hB_slices_IndexFunc_Record : fnB fn_slices_IndexFunc_Record = true := by kernel_rfl
theorem hf_math_bits_TrailingZeros32 : Tryd.prog.funcs[n_math_bits_TrailingZeros32]? = some fn_math_bits_TrailingZeros32 := Tryd.func147
theorem hB_math_bits_TrailingZeros32 : fnB fn_math_bits_TrailingZeros32 = true := by kernel_rfl
theorem hf_math_bits_TrailingZeros64 : Tryd.prog.funcs[n_math_bits_TrailingZeros64]? = some fn_math_bits_TrailingZeros64 := Tryd.func148
theorem hB_math_bits_TrailingZeros64 : fnB fn_math_bits_TrailingZeros64 = true := by kernel_rfl
theorem ok_nil : Ok Tryd.prog tab [] := Ok.nil tab_ok (by kernel_rfl)
end Go.Proofs.YtlbppjmekiemiabDoor
