/- The types of the program, checked; its functions by name. No condition. -/
import Derived.Test.YtlbppjmekiemiaaVmc
import Derived.Test.YtlbppjmekiemiaaChecked
import Derived.KernelRfl
import Derived.WalkKit
namespace Go.Proofs.Ytlbppjmekiemiaa
open Vm
noncomputable def tab : Tab := ⟨[
  (3, ⟨1, .int, [.dat Ty.int (0 : Int)], [], [], 0⟩),
  (4, ⟨1, .bool, [.dat Ty.bool false], [], [], 0⟩),
  (22, ⟨1, .int, [.dat Ty.int (0 : Int)], [], [], 0⟩),
  (23, ⟨1, .slice Ty.int 22, [.nil Ty.int], [], [], 8⟩),
  (24, ⟨1, .slice Ty.int 3, [.nil Ty.int], [], [], 8⟩),
  (28, ⟨2, .struct, [.nil Ty.int, .dat Ty.int (0 : Int)], [0, 1], [1, 1], 0⟩),
  (45, ⟨1, .slice Ty.flash 28, [.nil Ty.flash], [], [], 32⟩),
  (53, ⟨1, .slice Ty.int 3, [.nil Ty.int], [], [], 8⟩),
  (54, ⟨1, .slice (Ty.list Ty.int) 53, [.nil (Ty.list Ty.int)], [], [], 24⟩),
  (60, ⟨1, .other, [.undef], [], [], 0⟩),
  (66, ⟨1, .other, [.undef], [], [], 0⟩),
  (68, ⟨1, .other, [.undef], [], [], 0⟩),
  (72, ⟨1, .u64, [.undef], [], [], 0⟩),
  (76, ⟨1, .slice Ty.change 96, [.nil Ty.change], [], [], 16⟩),
  (79, ⟨1, .other, [.undef], [], [], 0⟩),
  (96, ⟨2, .struct, [.dat Ty.int (0 : Int), .undef], [0, 1], [1, 1], 0⟩)
  ], 73, 74, [], true⟩

theorem fnw_ok : FnwOk Try.prog tab where
  ok0 := ⟨Try.f73, Try.func73, by kernel_rfl, by kernel_rfl⟩
  ok1 := ⟨Try.f74, Try.func74, by kernel_rfl, by kernel_rfl⟩
  run0 := fun n w => by
    show Calls Try.prog 73 _ _ _
    go_enter Try.func73, Try.ntmps73
    go_wp2
    go_ret
    exact ⟨rfl, rfl⟩
  run1 := fun n m b w hc => by
    show Calls Try.prog 74 _ _ _
    have hc' : w.cell? ⟨b, 0, none⟩ = some (.int .i64 m) := hc
    unfold at0
    go_enter Try.func74, Try.ntmps74
    go_wp2
    go_ret
    exact ⟨rfl, rfl⟩
theorem tab_ok : TabOk Try.prog tab := tabOk_plain (by kernel_rfl) rfl (fun _ => fnw_ok)
abbrev n_law_Names : Nat := 3
noncomputable abbrev fn_law_Names : Func := Try.f3
abbrev n_law_FlashParts : Nat := 4
noncomputable abbrev fn_law_FlashParts : Func := Try.f4
abbrev n_law_FlashBack : Nat := 5
noncomputable abbrev fn_law_FlashBack : Func := Try.f5
abbrev n_law_FlashSays : Nat := 6
noncomputable abbrev fn_law_FlashSays : Func := Try.f6
abbrev n_law_SlotApart : Nat := 7
noncomputable abbrev fn_law_SlotApart : Func := Try.f7
abbrev n_law_SlotHolds : Nat := 8
noncomputable abbrev fn_law_SlotHolds : Func := Try.f8
abbrev n_law_SlotSays : Nat := 9
noncomputable abbrev fn_law_SlotSays : Func := Try.f9
abbrev n_law_LogHolds : Nat := 10
noncomputable abbrev fn_law_LogHolds : Func := Try.f10
abbrev n_law_LogGoes : Nat := 11
noncomputable abbrev fn_law_LogGoes : Func := Try.f11
abbrev n_law_LogPower : Nat := 12
noncomputable abbrev fn_law_LogPower : Func := Try.f12
abbrev n_law_LogApart : Nat := 13
noncomputable abbrev fn_law_LogApart : Func := Try.f13
abbrev n_slices_Equal_Lint : Nat := 14
noncomputable abbrev fn_slices_Equal_Lint : Func := Try.f14
abbrev n_flash_Program : Nat := 15
noncomputable abbrev fn_flash_Program : Func := Try.f15
abbrev n_law_burnt : Nat := 16
noncomputable abbrev fn_law_burnt : Func := Try.f16
abbrev n_law_at : Nat := 17
noncomputable abbrev fn_law_at : Func := Try.f17
abbrev n_flash_Same : Nat := 18
noncomputable abbrev fn_flash_Same : Func := Try.f18
abbrev n_flash_Erase : Nat := 19
noncomputable abbrev fn_flash_Erase : Func := Try.f19
abbrev n_flash_Read : Nat := 20
noncomputable abbrev fn_flash_Read : Func := Try.f20
abbrev n_ref_OwnFlash : Nat := 21
noncomputable abbrev fn_ref_OwnFlash : Func := Try.f21
abbrev n_flash_New : Nat := 22
noncomputable abbrev fn_flash_New : Func := Try.f22
abbrev n_ref_CheckFlash : Nat := 23
noncomputable abbrev fn_ref_CheckFlash : Func := Try.f23
abbrev n_flash_Check : Nat := 24
noncomputable abbrev fn_flash_Check : Func := Try.f24
abbrev n_ref_SameFlash : Nat := 25
noncomputable abbrev fn_ref_SameFlash : Func := Try.f25
abbrev n_slices_Repeat_Lint : Nat := 26
noncomputable abbrev fn_slices_Repeat_Lint : Func := Try.f26
abbrev n_ref_Erased : Nat := 27
noncomputable abbrev fn_ref_Erased : Func := Try.f27
abbrev n_ref_Programmed : Nat := 28
noncomputable abbrev fn_ref_Programmed : Func := Try.f28
abbrev n_slot_Clear : Nat := 29
noncomputable abbrev fn_slot_Clear : Func := Try.f29
abbrev n_slot_Fill : Nat := 30
noncomputable abbrev fn_slot_Fill : Func := Try.f30
abbrev n_slot_Seal : Nat := 31
noncomputable abbrev fn_slot_Seal : Func := Try.f31
abbrev n_law_slotted : Nat := 32
noncomputable abbrev fn_law_slotted : Func := Try.f32
abbrev n_slot_Image : Nat := 33
noncomputable abbrev fn_slot_Image : Func := Try.f33
abbrev n_slot_Body : Nat := 34
noncomputable abbrev fn_slot_Body : Func := Try.f34
abbrev n_ref_CheckSlot : Nat := 35
noncomputable abbrev fn_ref_CheckSlot : Func := Try.f35
abbrev n_ref_Cleared : Nat := 36
noncomputable abbrev fn_ref_Cleared : Func := Try.f36
abbrev n_ref_Filled : Nat := 37
noncomputable abbrev fn_ref_Filled : Func := Try.f37
abbrev n_ref_SealedIn : Nat := 38
noncomputable abbrev fn_ref_SealedIn : Func := Try.f38
abbrev n_ref_ImageOf : Nat := 39
noncomputable abbrev fn_ref_ImageOf : Func := Try.f39
abbrev n_log_Records : Nat := 40
noncomputable abbrev fn_log_Records : Func := Try.f40
abbrev n_log_Append : Nat := 41
noncomputable abbrev fn_log_Append : Func := Try.f41
abbrev n_law_logged : Nat := 42
noncomputable abbrev fn_law_logged : Func := Try.f42
abbrev n_slices_Clone_LRecord : Nat := 43
noncomputable abbrev fn_slices_Clone_LRecord : Func := Try.f43
abbrev n_ref_SameRecords : Nat := 44
noncomputable abbrev fn_ref_SameRecords : Func := Try.f44
abbrev n_slices_Equal_Record : Nat := 45
noncomputable abbrev fn_slices_Equal_Record : Func := Try.f45
abbrev n_log_Format : Nat := 46
noncomputable abbrev fn_log_Format : Func := Try.f46
abbrev n_slices_ContainsFunc_Lint : Nat := 47
noncomputable abbrev fn_slices_ContainsFunc_Lint : Func := Try.f47
abbrev n_flash_Program_1 : Nat := 48
noncomputable abbrev fn_flash_Program_1 : Func := Try.f48
abbrev n_flash_Copy : Nat := 49
noncomputable abbrev fn_flash_Copy : Func := Try.f49
abbrev n_flash_Burn : Nat := 50
noncomputable abbrev fn_flash_Burn : Func := Try.f50
abbrev n_flash_Wipe : Nat := 51
noncomputable abbrev fn_flash_Wipe : Func := Try.f51
abbrev n_slices_Clone_Lint : Nat := 52
noncomputable abbrev fn_slices_Clone_Lint : Func := Try.f52
abbrev n_ref_allWords : Nat := 53
noncomputable abbrev fn_ref_allWords : Func := Try.f53
abbrev n_math_bits_Mul : Nat := 54
noncomputable abbrev fn_math_bits_Mul : Func := Try.f54
abbrev n_ref_Changed : Nat := 55
noncomputable abbrev fn_ref_Changed : Func := Try.f55
abbrev n_ref_erases : Nat := 56
noncomputable abbrev fn_ref_erases : Func := Try.f56
abbrev n_ref_programs : Nat := 57
noncomputable abbrev fn_ref_programs : Func := Try.f57
abbrev n_slot_check : Nat := 58
noncomputable abbrev fn_slot_check : Func := Try.f58
abbrev n_slot_begin : Nat := 59
noncomputable abbrev fn_slot_begin : Func := Try.f59
abbrev n_log_Check : Nat := 60
noncomputable abbrev fn_log_Check : Func := Try.f60
abbrev n_log_live : Nat := 61
noncomputable abbrev fn_log_live : Func := Try.f61
abbrev n_log_scan : Nat := 62
noncomputable abbrev fn_log_scan : Func := Try.f62
abbrev n_log_check : Nat := 63
noncomputable abbrev fn_log_check : Func := Try.f63
abbrev n_log_words : Nat := 64
noncomputable abbrev fn_log_words : Func := Try.f64
abbrev n_slices_EqualFunc_LRecord : Nat := 65
noncomputable abbrev fn_slices_EqualFunc_LRecord : Func := Try.f65
abbrev n_ref_SameRecords_1 : Nat := 66
noncomputable abbrev fn_ref_SameRecords_1 : Func := Try.f66
abbrev n_slices_IndexFunc_Lint : Nat := 67
noncomputable abbrev fn_slices_IndexFunc_Lint : Func := Try.f67
abbrev n_flash_burn : Nat := 68
noncomputable abbrev fn_flash_burn : Func := Try.f68
abbrev n_ref_allWords_1 : Nat := 69
noncomputable abbrev fn_ref_allWords_1 : Func := Try.f69
abbrev n_ref_IsWord : Nat := 70
noncomputable abbrev fn_ref_IsWord : Func := Try.f70
abbrev n_math_bits_Mul32 : Nat := 71
noncomputable abbrev fn_math_bits_Mul32 : Func := Try.f71
abbrev n_math_bits_Mul64 : Nat := 72
noncomputable abbrev fn_math_bits_Mul64 : Func := Try.f72
abbrev n_ref_erases_1 : Nat := 73
noncomputable abbrev fn_ref_erases_1 : Func := Try.f73
abbrev n_ref_programs_1 : Nat := 74
noncomputable abbrev fn_ref_programs_1 : Func := Try.f74
abbrev n_slices_Clone_Record : Nat := 75
noncomputable abbrev fn_slices_Clone_Record : Func := Try.f75
abbrev n_slices_ContainsFunc_Record : Nat := 76
noncomputable abbrev fn_slices_ContainsFunc_Record : Func := Try.f76
abbrev n_log_check_1 : Nat := 77
noncomputable abbrev fn_log_check_1 : Func := Try.f77
abbrev n_log_head : Nat := 78
noncomputable abbrev fn_log_head : Func := Try.f78
abbrev n_slices_IndexFunc_Record : Nat := 79
noncomputable abbrev fn_slices_IndexFunc_Record : Func := Try.f79
def fnNames : List Nat := [n_law_Names, n_law_FlashParts, n_law_FlashBack, n_law_FlashSays, n_law_SlotApart, n_law_SlotHolds, n_law_SlotSays, n_law_LogHolds, n_law_LogGoes, n_law_LogPower, n_law_LogApart, n_slices_Equal_Lint, n_flash_Program, n_law_burnt, n_law_at, n_flash_Same, n_flash_Erase, n_flash_Read, n_ref_OwnFlash, n_flash_New, n_ref_CheckFlash, n_flash_Check, n_ref_SameFlash, n_slices_Repeat_Lint, n_ref_Erased, n_ref_Programmed, n_slot_Clear, n_slot_Fill, n_slot_Seal, n_law_slotted, n_slot_Image, n_slot_Body, n_ref_CheckSlot, n_ref_Cleared, n_ref_Filled, n_ref_SealedIn, n_ref_ImageOf, n_log_Records, n_log_Append, n_law_logged, n_slices_Clone_LRecord, n_ref_SameRecords, n_slices_Equal_Record, n_log_Format, n_slices_ContainsFunc_Lint, n_flash_Program_1, n_flash_Copy, n_flash_Burn, n_flash_Wipe, n_slices_Clone_Lint, n_ref_allWords, n_math_bits_Mul, n_ref_Changed, n_ref_erases, n_ref_programs, n_slot_check, n_slot_begin, n_log_Check, n_log_live, n_log_scan, n_log_check, n_log_words, n_slices_EqualFunc_LRecord, n_ref_SameRecords_1, n_slices_IndexFunc_Lint, n_flash_burn, n_ref_allWords_1, n_ref_IsWord, n_math_bits_Mul32, n_math_bits_Mul64, n_ref_erases_1, n_ref_programs_1, n_slices_Clone_Record, n_slices_ContainsFunc_Record, n_log_check_1, n_log_head, n_slices_IndexFunc_Record]
theorem hf_law_Names : Try.prog.funcs[n_law_Names]? = some fn_law_Names := Try.func3
theorem hB_law_Names : fnB fn_law_Names = true := by kernel_rfl
theorem hf_law_FlashParts : Try.prog.funcs[n_law_FlashParts]? = some fn_law_FlashParts := Try.func4
theorem hB_law_FlashParts : fnB fn_law_FlashParts = true := by kernel_rfl
theorem hf_law_FlashBack : Try.prog.funcs[n_law_FlashBack]? = some fn_law_FlashBack := Try.func5
theorem hB_law_FlashBack : fnB fn_law_FlashBack = true := by kernel_rfl
theorem hf_law_FlashSays : Try.prog.funcs[n_law_FlashSays]? = some fn_law_FlashSays := Try.func6
theorem hB_law_FlashSays : fnB fn_law_FlashSays = true := by kernel_rfl
theorem hf_law_SlotApart : Try.prog.funcs[n_law_SlotApart]? = some fn_law_SlotApart := Try.func7
theorem hB_law_SlotApart : fnB fn_law_SlotApart = true := by kernel_rfl
theorem hf_law_SlotHolds : Try.prog.funcs[n_law_SlotHolds]? = some fn_law_SlotHolds := Try.func8
theorem hB_law_SlotHolds : fnB fn_law_SlotHolds = true := by kernel_rfl
theorem hf_law_SlotSays : Try.prog.funcs[n_law_SlotSays]? = some fn_law_SlotSays := Try.func9
theorem hB_law_SlotSays : fnB fn_law_SlotSays = true := by kernel_rfl
theorem hf_law_LogHolds : Try.prog.funcs[n_law_LogHolds]? = some fn_law_LogHolds := Try.func10
theorem hB_law_LogHolds : fnB fn_law_LogHolds = true := by kernel_rfl
theorem hf_law_LogGoes : Try.prog.funcs[n_law_LogGoes]? = some fn_law_LogGoes := Try.func11
theorem hB_law_LogGoes : fnB fn_law_LogGoes = true := by kernel_rfl
theorem hf_law_LogPower : Try.prog.funcs[n_law_LogPower]? = some fn_law_LogPower := Try.func12
theorem hB_law_LogPower : fnB fn_law_LogPower = true := by kernel_rfl
theorem hf_law_LogApart : Try.prog.funcs[n_law_LogApart]? = some fn_law_LogApart := Try.func13
theorem hB_law_LogApart : fnB fn_law_LogApart = true := by kernel_rfl
theorem hf_slices_Equal_Lint : Try.prog.funcs[n_slices_Equal_Lint]? = some fn_slices_Equal_Lint := Try.func14
theorem hB_slices_Equal_Lint : fnB fn_slices_Equal_Lint = true := by kernel_rfl
theorem hf_flash_Program : Try.prog.funcs[n_flash_Program]? = some fn_flash_Program := Try.func15
theorem hB_flash_Program : fnB fn_flash_Program = true := by kernel_rfl
theorem hf_law_burnt : Try.prog.funcs[n_law_burnt]? = some fn_law_burnt := Try.func16
theorem hB_law_burnt : fnB fn_law_burnt = true := by kernel_rfl
theorem hf_law_at : Try.prog.funcs[n_law_at]? = some fn_law_at := Try.func17
theorem hB_law_at : fnB fn_law_at = true := by kernel_rfl
theorem hf_flash_Same : Try.prog.funcs[n_flash_Same]? = some fn_flash_Same := Try.func18
theorem hB_flash_Same : fnB fn_flash_Same = true := by kernel_rfl
theorem hf_flash_Erase : Try.prog.funcs[n_flash_Erase]? = some fn_flash_Erase := Try.func19
theorem hB_flash_Erase : fnB fn_flash_Erase = true := by kernel_rfl
theorem hf_flash_Read : Try.prog.funcs[n_flash_Read]? = some fn_flash_Read := Try.func20
theorem hB_flash_Read : fnB fn_flash_Read = true := by kernel_rfl
theorem hf_ref_OwnFlash : Try.prog.funcs[n_ref_OwnFlash]? = some fn_ref_OwnFlash := Try.func21
theorem hB_ref_OwnFlash : fnB fn_ref_OwnFlash = true := by kernel_rfl
theorem hf_flash_New : Try.prog.funcs[n_flash_New]? = some fn_flash_New := Try.func22
theorem hB_flash_New : fnB fn_flash_New = true := by kernel_rfl
theorem hf_ref_CheckFlash : Try.prog.funcs[n_ref_CheckFlash]? = some fn_ref_CheckFlash := Try.func23
theorem hB_ref_CheckFlash : fnB fn_ref_CheckFlash = true := by kernel_rfl
theorem hf_flash_Check : Try.prog.funcs[n_flash_Check]? = some fn_flash_Check := Try.func24
theorem hB_flash_Check : fnB fn_flash_Check = true := by kernel_rfl
theorem hf_ref_SameFlash : Try.prog.funcs[n_ref_SameFlash]? = some fn_ref_SameFlash := Try.func25
theorem hB_ref_SameFlash : fnB fn_ref_SameFlash = true := by kernel_rfl
theorem hf_slices_Repeat_Lint : Try.prog.funcs[n_slices_Repeat_Lint]? = some fn_slices_Repeat_Lint := Try.func26
theorem hB_slices_Repeat_Lint : fnB fn_slices_Repeat_Lint = true := by kernel_rfl
theorem hf_ref_Erased : Try.prog.funcs[n_ref_Erased]? = some fn_ref_Erased := Try.func27
theorem hB_ref_Erased : fnB fn_ref_Erased = true := by kernel_rfl
theorem hf_ref_Programmed : Try.prog.funcs[n_ref_Programmed]? = some fn_ref_Programmed := Try.func28
theorem hB_ref_Programmed : fnB fn_ref_Programmed = true := by kernel_rfl
theorem hf_slot_Clear : Try.prog.funcs[n_slot_Clear]? = some fn_slot_Clear := Try.func29
theorem hB_slot_Clear : fnB fn_slot_Clear = true := by kernel_rfl
theorem hf_slot_Fill : Try.prog.funcs[n_slot_Fill]? = some fn_slot_Fill := Try.func30
theorem hB_slot_Fill : fnB fn_slot_Fill = true := by kernel_rfl
theorem hf_slot_Seal : Try.prog.funcs[n_slot_Seal]? = some fn_slot_Seal := Try.func31
theorem hB_slot_Seal : fnB fn_slot_Seal = true := by kernel_rfl
theorem hf_law_slotted : Try.prog.funcs[n_law_slotted]? = some fn_law_slotted := Try.func32
theorem hB_law_slotted : fnB fn_law_slotted = true := by kernel_rfl
theorem hf_slot_Image : Try.prog.funcs[n_slot_Image]? = some fn_slot_Image := Try.func33
theorem hB_slot_Image : fnB fn_slot_Image = true := by kernel_rfl
theorem hf_slot_Body : Try.prog.funcs[n_slot_Body]? = some fn_slot_Body := Try.func34
theorem hB_slot_Body : fnB fn_slot_Body = true := by kernel_rfl
theorem hf_ref_CheckSlot : Try.prog.funcs[n_ref_CheckSlot]? = some fn_ref_CheckSlot := Try.func35
theorem hB_ref_CheckSlot : fnB fn_ref_CheckSlot = true := by kernel_rfl
theorem hf_ref_Cleared : Try.prog.funcs[n_ref_Cleared]? = some fn_ref_Cleared := Try.func36
theorem hB_ref_Cleared : fnB fn_ref_Cleared = true := by kernel_rfl
theorem hf_ref_Filled : Try.prog.funcs[n_ref_Filled]? = some fn_ref_Filled := Try.func37
theorem hB_ref_Filled : fnB fn_ref_Filled = true := by kernel_rfl
theorem hf_ref_SealedIn : Try.prog.funcs[n_ref_SealedIn]? = some fn_ref_SealedIn := Try.func38
theorem hB_ref_SealedIn : fnB fn_ref_SealedIn = true := by kernel_rfl
theorem hf_ref_ImageOf : Try.prog.funcs[n_ref_ImageOf]? = some fn_ref_ImageOf := Try.func39
theorem hB_ref_ImageOf : fnB fn_ref_ImageOf = true := by kernel_rfl
theorem hf_log_Records : Try.prog.funcs[n_log_Records]? = some fn_log_Records := Try.func40
theorem hB_log_Records : fnB fn_log_Records = true := by kernel_rfl
theorem hf_log_Append : Try.prog.funcs[n_log_Append]? = some fn_log_Append := Try.func41
theorem hB_log_Append : fnB fn_log_Append = true := by kernel_rfl
theorem hf_law_logged : Try.prog.funcs[n_law_logged]? = some fn_law_logged := Try.func42
theorem hB_law_logged : fnB fn_law_logged = true := by kernel_rfl
theorem hf_slices_Clone_LRecord : Try.prog.funcs[n_slices_Clone_LRecord]? = some fn_slices_Clone_LRecord := Try.func43
theorem hB_slices_Clone_LRecord : fnB fn_slices_Clone_LRecord = true := by kernel_rfl
theorem hf_ref_SameRecords : Try.prog.funcs[n_ref_SameRecords]? = some fn_ref_SameRecords := Try.func44
theorem hB_ref_SameRecords : fnB fn_ref_SameRecords = true := by kernel_rfl
theorem hf_slices_Equal_Record : Try.prog.funcs[n_slices_Equal_Record]? = some fn_slices_Equal_Record := Try.func45
theorem hB_slices_Equal_Record : fnB fn_slices_Equal_Record = true := by kernel_rfl
theorem hf_log_Format : Try.prog.funcs[n_log_Format]? = some fn_log_Format := Try.func46
theorem hB_log_Format : fnB fn_log_Format = true := by kernel_rfl
theorem hf_slices_ContainsFunc_Lint : Try.prog.funcs[n_slices_ContainsFunc_Lint]? = some fn_slices_ContainsFunc_Lint := Try.func47
theorem hB_slices_ContainsFunc_Lint : fnB fn_slices_ContainsFunc_Lint = true := by kernel_rfl
theorem hf_flash_Program_1 : Try.prog.funcs[n_flash_Program_1]? = some fn_flash_Program_1 := Try.func48
theorem hB_flash_Program_1 : fnB fn_flash_Program_1 = true := by kernel_rfl
theorem hf_flash_Copy : Try.prog.funcs[n_flash_Copy]? = some fn_flash_Copy := Try.func49
theorem hB_flash_Copy : fnB fn_flash_Copy = true := by kernel_rfl
theorem hf_flash_Burn : Try.prog.funcs[n_flash_Burn]? = some fn_flash_Burn := Try.func50
theorem hB_flash_Burn : fnB fn_flash_Burn = true := by kernel_rfl
theorem hf_flash_Wipe : Try.prog.funcs[n_flash_Wipe]? = some fn_flash_Wipe := Try.func51
theorem hB_flash_Wipe : fnB fn_flash_Wipe = true := by kernel_rfl
theorem hf_slices_Clone_Lint : Try.prog.funcs[n_slices_Clone_Lint]? = some fn_slices_Clone_Lint := Try.func52
theorem hB_slices_Clone_Lint : fnB fn_slices_Clone_Lint = true := by kernel_rfl
theorem hf_ref_allWords : Try.prog.funcs[n_ref_allWords]? = some fn_ref_allWords := Try.func53
theorem hB_ref_allWords : fnB fn_ref_allWords = true := by kernel_rfl
theorem hf_math_bits_Mul : Try.prog.funcs[n_math_bits_Mul]? = some fn_math_bits_Mul := Try.func54
theorem hB_math_bits_Mul : fnB fn_math_bits_Mul = true := by kernel_rfl
theorem hf_ref_Changed : Try.prog.funcs[n_ref_Changed]? = some fn_ref_Changed := Try.func55
theorem hB_ref_Changed : fnB fn_ref_Changed = true := by kernel_rfl
theorem hf_ref_erases : Try.prog.funcs[n_ref_erases]? = some fn_ref_erases := Try.func56
theorem hB_ref_erases : fnB fn_ref_erases = true := by kernel_rfl
theorem hf_ref_programs : Try.prog.funcs[n_ref_programs]? = some fn_ref_programs := Try.func57
theorem hB_ref_programs : fnB fn_ref_programs = true := by kernel_rfl
theorem hf_slot_check : Try.prog.funcs[n_slot_check]? = some fn_slot_check := Try.func58
theorem hB_slot_check : fnB fn_slot_check = true := by kernel_rfl
theorem hf_slot_begin : Try.prog.funcs[n_slot_begin]? = some fn_slot_begin := Try.func59
theorem hB_slot_begin : fnB fn_slot_begin = true := by kernel_rfl
theorem hf_log_Check : Try.prog.funcs[n_log_Check]? = some fn_log_Check := Try.func60
theorem hB_log_Check : fnB fn_log_Check = true := by kernel_rfl
theorem hf_log_live : Try.prog.funcs[n_log_live]? = some fn_log_live := Try.func61
theorem hB_log_live : fnB fn_log_live = true := by kernel_rfl
theorem hf_log_scan : Try.prog.funcs[n_log_scan]? = some fn_log_scan := Try.func62
theorem hB_log_scan : fnB fn_log_scan = true := by kernel_rfl
theorem hf_log_check : Try.prog.funcs[n_log_check]? = some fn_log_check := Try.func63
theorem hB_log_check : fnB fn_log_check = true := by kernel_rfl
theorem hf_log_words : Try.prog.funcs[n_log_words]? = some fn_log_words := Try.func64
theorem hB_log_words : fnB fn_log_words = true := by kernel_rfl
theorem hf_slices_EqualFunc_LRecord : Try.prog.funcs[n_slices_EqualFunc_LRecord]? = some fn_slices_EqualFunc_LRecord := Try.func65
theorem hB_slices_EqualFunc_LRecord : fnB fn_slices_EqualFunc_LRecord = true := by kernel_rfl
theorem hf_ref_SameRecords_1 : Try.prog.funcs[n_ref_SameRecords_1]? = some fn_ref_SameRecords_1 := Try.func66
theorem hB_ref_SameRecords_1 : fnB fn_ref_SameRecords_1 = true := by kernel_rfl
theorem hf_slices_IndexFunc_Lint : Try.prog.funcs[n_slices_IndexFunc_Lint]? = some fn_slices_IndexFunc_Lint := Try.func67
theorem hB_slices_IndexFunc_Lint : fnB fn_slices_IndexFunc_Lint = true := by kernel_rfl
theorem hf_flash_burn : Try.prog.funcs[n_flash_burn]? = some fn_flash_burn := Try.func68
theorem hB_flash_burn : fnB fn_flash_burn = true := by kernel_rfl
theorem hf_ref_allWords_1 : Try.prog.funcs[n_ref_allWords_1]? = some fn_ref_allWords_1 := Try.func69
theorem hB_ref_allWords_1 : fnB fn_ref_allWords_1 = true := by kernel_rfl
theorem hf_ref_IsWord : Try.prog.funcs[n_ref_IsWord]? = some fn_ref_IsWord := Try.func70
theorem hB_ref_IsWord : fnB fn_ref_IsWord = true := by kernel_rfl
theorem hf_math_bits_Mul32 : Try.prog.funcs[n_math_bits_Mul32]? = some fn_math_bits_Mul32 := Try.func71
theorem hB_math_bits_Mul32 : fnB fn_math_bits_Mul32 = true := by kernel_rfl
theorem hf_math_bits_Mul64 : Try.prog.funcs[n_math_bits_Mul64]? = some fn_math_bits_Mul64 := Try.func72
theorem hB_math_bits_Mul64 : fnB fn_math_bits_Mul64 = true := by kernel_rfl
theorem hf_ref_erases_1 : Try.prog.funcs[n_ref_erases_1]? = some fn_ref_erases_1 := Try.func73
theorem hB_ref_erases_1 : fnB fn_ref_erases_1 = true := by kernel_rfl
theorem hf_ref_programs_1 : Try.prog.funcs[n_ref_programs_1]? = some fn_ref_programs_1 := Try.func74
theorem hB_ref_programs_1 : fnB fn_ref_programs_1 = true := by kernel_rfl
theorem hf_slices_Clone_Record : Try.prog.funcs[n_slices_Clone_Record]? = some fn_slices_Clone_Record := Try.func75
theorem hB_slices_Clone_Record : fnB fn_slices_Clone_Record = true := by kernel_rfl
theorem hf_slices_ContainsFunc_Record : Try.prog.funcs[n_slices_ContainsFunc_Record]? = some fn_slices_ContainsFunc_Record := Try.func76
theorem hB_slices_ContainsFunc_Record : fnB fn_slices_ContainsFunc_Record = true := by kernel_rfl
theorem hf_log_check_1 : Try.prog.funcs[n_log_check_1]? = some fn_log_check_1 := Try.func77
theorem hB_log_check_1 : fnB fn_log_check_1 = true := by kernel_rfl
theorem hf_log_head : Try.prog.funcs[n_log_head]? = some fn_log_head := Try.func78
theorem hB_log_head : fnB fn_log_head = true := by kernel_rfl
theorem hf_slices_IndexFunc_Record : Try.prog.funcs[n_slices_IndexFunc_Record]? = some fn_slices_IndexFunc_Record := Try.func79
theorem hB_slices_IndexFunc_Record : fnB fn_slices_IndexFunc_Record = true := by kernel_rfl
theorem ok_nil : Ok Try.prog tab [] := Ok.nil tab_ok (by kernel_rfl)
end Go.Proofs.Ytlbppjmekiemiaa
