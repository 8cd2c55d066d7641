/- The types of the program, checked; its functions by name. No condition. -/
import Derived.Test.YtlbppjmekiemiabVmc
import Derived.Test.YtlbppjmekiemiabChecked
import Derived.KernelRfl
import Derived.WalkKit
namespace Go.Proofs.Ytlbppjmekiemiab
open Vm
noncomputable def tab : Tab := ⟨[
  (3, ⟨1, .int, [.dat Ty.int (0 : Int)], [], [], 0⟩),
  (4, ⟨1, .bool, [.dat Ty.bool false], [], [], 0⟩),
  (22, ⟨1, .slice Ty.int 3, [.nil Ty.int], [], [], 8⟩),
  (24, ⟨2, .struct, [.nil Ty.int, .dat Ty.int (0 : Int)], [0, 1], [1, 1], 0⟩),
  (25, ⟨1, .slice Ty.int 3, [.nil Ty.int], [], [], 8⟩),
  (26, ⟨1, .slice (Ty.list Ty.int) 25, [.nil (Ty.list Ty.int)], [], [], 24⟩),
  (28, ⟨1, .int, [.dat Ty.int (0 : Int)], [], [], 0⟩),
  (42, ⟨1, .other, [.undef], [], [], 0⟩),
  (56, ⟨1, .slice Ty.change 60, [.nil Ty.change], [], [], 16⟩),
  (58, ⟨1, .other, [.undef], [], [], 0⟩),
  (60, ⟨2, .struct, [.dat Ty.int (0 : Int), .undef], [0, 1], [1, 1], 0⟩),
  (64, ⟨1, .other, [.undef], [], [], 0⟩),
  (69, ⟨1, .other, [.undef], [], [], 0⟩),
  (73, ⟨1, .slice (Ty.list Ty.change) 56, [.nil (Ty.list Ty.change)], [], [], 24⟩),
  (77, ⟨1, .u64, [.undef], [], [], 0⟩)
  ], 50, 51, [], true⟩

theorem fnw_ok : FnwOk Try.prog tab where
  ok0 := ⟨Try.f50, Try.func50, by kernel_rfl, by kernel_rfl⟩
  ok1 := ⟨Try.f51, Try.func51, by kernel_rfl, by kernel_rfl⟩
  run0 := fun n w => by
    show Calls Try.prog 50 _ _ _
    go_enter Try.func50, Try.ntmps50
    go_wp2
    go_ret
    exact ⟨rfl, rfl⟩
  run1 := fun n m b w hc => by
    show Calls Try.prog 51 _ _ _
    have hc' : w.cell? ⟨b, 0, none⟩ = some (.int .i64 m) := hc
    unfold at0
    go_enter Try.func51, Try.ntmps51
    go_wp2
    go_ret
    exact ⟨rfl, rfl⟩
theorem tab_ok : TabOk Try.prog tab := tabOk_plain (by kernel_rfl) rfl (fun _ => fnw_ok)
abbrev n_law_LogSays : Nat := 3
noncomputable abbrev fn_law_LogSays : Func := Try.f3
abbrev n_ref_OwnFlash : Nat := 4
noncomputable abbrev fn_ref_OwnFlash : Func := Try.f4
abbrev n_log_Format : Nat := 5
noncomputable abbrev fn_log_Format : Func := Try.f5
abbrev n_log_Records : Nat := 6
noncomputable abbrev fn_log_Records : Func := Try.f6
abbrev n_log_Append : Nat := 7
noncomputable abbrev fn_log_Append : Func := Try.f7
abbrev n_ref_CheckFlash : Nat := 8
noncomputable abbrev fn_ref_CheckFlash : Func := Try.f8
abbrev n_ref_CheckLog : Nat := 9
noncomputable abbrev fn_ref_CheckLog : Func := Try.f9
abbrev n_law_logged : Nat := 10
noncomputable abbrev fn_law_logged : Func := Try.f10
abbrev n_log_Check : Nat := 11
noncomputable abbrev fn_log_Check : Func := Try.f11
abbrev n_ref_SameFlash : Nat := 12
noncomputable abbrev fn_ref_SameFlash : Func := Try.f12
abbrev n_ref_Formatted : Nat := 13
noncomputable abbrev fn_ref_Formatted : Func := Try.f13
abbrev n_ref_RecordsOf : Nat := 14
noncomputable abbrev fn_ref_RecordsOf : Func := Try.f14
abbrev n_ref_Appended : Nat := 15
noncomputable abbrev fn_ref_Appended : Func := Try.f15
abbrev n_ref_SameRecords : Nat := 16
noncomputable abbrev fn_ref_SameRecords : Func := Try.f16
abbrev n_flash_Check : Nat := 17
noncomputable abbrev fn_flash_Check : Func := Try.f17
abbrev n_flash_Copy : Nat := 18
noncomputable abbrev fn_flash_Copy : Func := Try.f18
abbrev n_flash_Wipe : Nat := 19
noncomputable abbrev fn_flash_Wipe : Func := Try.f19
abbrev n_flash_Burn : Nat := 20
noncomputable abbrev fn_flash_Burn : Func := Try.f20
abbrev n_log_live : Nat := 21
noncomputable abbrev fn_log_live : Func := Try.f21
abbrev n_log_scan : Nat := 22
noncomputable abbrev fn_log_scan : Func := Try.f22
abbrev n_log_check : Nat := 23
noncomputable abbrev fn_log_check : Func := Try.f23
abbrev n_slices_Clone_LRecord : Nat := 24
noncomputable abbrev fn_slices_Clone_LRecord : Func := Try.f24
abbrev n_log_words : Nat := 25
noncomputable abbrev fn_log_words : Func := Try.f25
abbrev n_ref_allWords : Nat := 26
noncomputable abbrev fn_ref_allWords : Func := Try.f26
abbrev n_ref_counts : Nat := 27
noncomputable abbrev fn_ref_counts : Func := Try.f27
abbrev n_flash_New : Nat := 28
noncomputable abbrev fn_flash_New : Func := Try.f28
abbrev n_slices_Equal_Lint : Nat := 29
noncomputable abbrev fn_slices_Equal_Lint : Func := Try.f29
abbrev n_ref_Changed : Nat := 30
noncomputable abbrev fn_ref_Changed : Func := Try.f30
abbrev n_slices_Concat_Lref_change : Nat := 31
noncomputable abbrev fn_slices_Concat_Lref_change : Func := Try.f31
abbrev n_ref_erases : Nat := 32
noncomputable abbrev fn_ref_erases : Func := Try.f32
abbrev n_ref_programs : Nat := 33
noncomputable abbrev fn_ref_programs : Func := Try.f33
abbrev n_ref_checkRecord : Nat := 34
noncomputable abbrev fn_ref_checkRecord : Func := Try.f34
abbrev n_slices_EqualFunc_LRecord : Nat := 35
noncomputable abbrev fn_slices_EqualFunc_LRecord : Func := Try.f35
abbrev n_ref_SameRecords_1 : Nat := 36
noncomputable abbrev fn_ref_SameRecords_1 : Func := Try.f36
abbrev n_slices_Equal_Record : Nat := 37
noncomputable abbrev fn_slices_Equal_Record : Func := Try.f37
abbrev n_slices_Clone_Lint : Nat := 38
noncomputable abbrev fn_slices_Clone_Lint : Func := Try.f38
abbrev n_flash_burn : Nat := 39
noncomputable abbrev fn_flash_burn : Func := Try.f39
abbrev n_slices_Clone_Record : Nat := 40
noncomputable abbrev fn_slices_Clone_Record : Func := Try.f40
abbrev n_slices_ContainsFunc_Record : Nat := 41
noncomputable abbrev fn_slices_ContainsFunc_Record : Func := Try.f41
abbrev n_log_check_1 : Nat := 42
noncomputable abbrev fn_log_check_1 : Func := Try.f42
abbrev n_log_head : Nat := 43
noncomputable abbrev fn_log_head : Func := Try.f43
abbrev n_slices_ContainsFunc_Lint : Nat := 44
noncomputable abbrev fn_slices_ContainsFunc_Lint : Func := Try.f44
abbrev n_ref_allWords_1 : Nat := 45
noncomputable abbrev fn_ref_allWords_1 : Func := Try.f45
abbrev n_ref_IsWord : Nat := 46
noncomputable abbrev fn_ref_IsWord : Func := Try.f46
abbrev n_ref_generation : Nat := 47
noncomputable abbrev fn_ref_generation : Func := Try.f47
abbrev n_slices_Repeat_Lint : Nat := 48
noncomputable abbrev fn_slices_Repeat_Lint : Func := Try.f48
abbrev n_slices_Grow_Lref_change : Nat := 49
noncomputable abbrev fn_slices_Grow_Lref_change : Func := Try.f49
abbrev n_ref_erases_1 : Nat := 50
noncomputable abbrev fn_ref_erases_1 : Func := Try.f50
abbrev n_ref_programs_1 : Nat := 51
noncomputable abbrev fn_ref_programs_1 : Func := Try.f51
abbrev n_slices_IndexFunc_Record : Nat := 52
noncomputable abbrev fn_slices_IndexFunc_Record : Func := Try.f52
abbrev n_slices_IndexFunc_Lint : Nat := 53
noncomputable abbrev fn_slices_IndexFunc_Lint : Func := Try.f53
abbrev n_math_bits_Mul : Nat := 54
noncomputable abbrev fn_math_bits_Mul : Func := Try.f54
abbrev n_math_bits_Mul32 : Nat := 55
noncomputable abbrev fn_math_bits_Mul32 : Func := Try.f55
abbrev n_math_bits_Mul64 : Nat := 56
noncomputable abbrev fn_math_bits_Mul64 : Func := Try.f56
def fnNames : List Nat := [n_law_LogSays, n_ref_OwnFlash, n_log_Format, n_log_Records, n_log_Append, n_ref_CheckFlash, n_ref_CheckLog, n_law_logged, n_log_Check, n_ref_SameFlash, n_ref_Formatted, n_ref_RecordsOf, n_ref_Appended, n_ref_SameRecords, n_flash_Check, n_flash_Copy, n_flash_Wipe, n_flash_Burn, n_log_live, n_log_scan, n_log_check, n_slices_Clone_LRecord, n_log_words, n_ref_allWords, n_ref_counts, n_flash_New, n_slices_Equal_Lint, n_ref_Changed, n_slices_Concat_Lref_change, n_ref_erases, n_ref_programs, n_ref_checkRecord, n_slices_EqualFunc_LRecord, n_ref_SameRecords_1, n_slices_Equal_Record, n_slices_Clone_Lint, n_flash_burn, n_slices_Clone_Record, n_slices_ContainsFunc_Record, n_log_check_1, n_log_head, n_slices_ContainsFunc_Lint, n_ref_allWords_1, n_ref_IsWord, n_ref_generation, n_slices_Repeat_Lint, n_slices_Grow_Lref_change, n_ref_erases_1, n_ref_programs_1, n_slices_IndexFunc_Record, n_slices_IndexFunc_Lint, n_math_bits_Mul, n_math_bits_Mul32, n_math_bits_Mul64]
theorem hf_law_LogSays : Try.prog.funcs[n_law_LogSays]? = some fn_law_LogSays := Try.func3
theorem hB_law_LogSays : fnB fn_law_LogSays = true := by kernel_rfl
theorem hf_ref_OwnFlash : Try.prog.funcs[n_ref_OwnFlash]? = some fn_ref_OwnFlash := Try.func4
theorem hB_ref_OwnFlash : fnB fn_ref_OwnFlash = true := by kernel_rfl
theorem hf_log_Format : Try.prog.funcs[n_log_Format]? = some fn_log_Format := Try.func5
theorem hB_log_Format : fnB fn_log_Format = true := by kernel_rfl
theorem hf_log_Records : Try.prog.funcs[n_log_Records]? = some fn_log_Records := Try.func6
theorem hB_log_Records : fnB fn_log_Records = true := by kernel_rfl
theorem hf_log_Append : Try.prog.funcs[n_log_Append]? = some fn_log_Append := Try.func7
theorem hB_log_Append : fnB fn_log_Append = true := by kernel_rfl
theorem hf_ref_CheckFlash : Try.prog.funcs[n_ref_CheckFlash]? = some fn_ref_CheckFlash := Try.func8
theorem hB_ref_CheckFlash : fnB fn_ref_CheckFlash = true := by kernel_rfl
theorem hf_ref_CheckLog : Try.prog.funcs[n_ref_CheckLog]? = some fn_ref_CheckLog := Try.func9
theorem hB_ref_CheckLog : fnB fn_ref_CheckLog = true := by kernel_rfl
theorem hf_law_logged : Try.prog.funcs[n_law_logged]? = some fn_law_logged := Try.func10
theorem hB_law_logged : fnB fn_law_logged = true := by kernel_rfl
theorem hf_log_Check : Try.prog.funcs[n_log_Check]? = some fn_log_Check := Try.func11
theorem hB_log_Check : fnB fn_log_Check = true := by kernel_rfl
theorem hf_ref_SameFlash : Try.prog.funcs[n_ref_SameFlash]? = some fn_ref_SameFlash := Try.func12
theorem hB_ref_SameFlash : fnB fn_ref_SameFlash = true := by kernel_rfl
theorem hf_ref_Formatted : Try.prog.funcs[n_ref_Formatted]? = some fn_ref_Formatted := Try.func13
theorem hB_ref_Formatted : fnB fn_ref_Formatted = true := by kernel_rfl
theorem hf_ref_RecordsOf : Try.prog.funcs[n_ref_RecordsOf]? = some fn_ref_RecordsOf := Try.func14
theorem hB_ref_RecordsOf : fnB fn_ref_RecordsOf = true := by kernel_rfl
theorem hf_ref_Appended : Try.prog.funcs[n_ref_Appended]? = some fn_ref_Appended := Try.func15
theorem hB_ref_Appended : fnB fn_ref_Appended = true := by kernel_rfl
theorem hf_ref_SameRecords : Try.prog.funcs[n_ref_SameRecords]? = some fn_ref_SameRecords := Try.func16
theorem hB_ref_SameRecords : fnB fn_ref_SameRecords = true := by kernel_rfl
theorem hf_flash_Check : Try.prog.funcs[n_flash_Check]? = some fn_flash_Check := Try.func17
theorem hB_flash_Check : fnB fn_flash_Check = true := by kernel_rfl
theorem hf_flash_Copy : Try.prog.funcs[n_flash_Copy]? = some fn_flash_Copy := Try.func18
theorem hB_flash_Copy : fnB fn_flash_Copy = true := by kernel_rfl
theorem hf_flash_Wipe : Try.prog.funcs[n_flash_Wipe]? = some fn_flash_Wipe := Try.func19
theorem hB_flash_Wipe : fnB fn_flash_Wipe = true := by kernel_rfl
theorem hf_flash_Burn : Try.prog.funcs[n_flash_Burn]? = some fn_flash_Burn := Try.func20
theorem hB_flash_Burn : fnB fn_flash_Burn = true := by kernel_rfl
theorem hf_log_live : Try.prog.funcs[n_log_live]? = some fn_log_live := Try.func21
theorem hB_log_live : fnB fn_log_live = true := by kernel_rfl
theorem hf_log_scan : Try.prog.funcs[n_log_scan]? = some fn_log_scan := Try.func22
theorem hB_log_scan : fnB fn_log_scan = true := by kernel_rfl
theorem hf_log_check : Try.prog.funcs[n_log_check]? = some fn_log_check := Try.func23
theorem hB_log_check : fnB fn_log_check = true := by kernel_rfl
theorem hf_slices_Clone_LRecord : Try.prog.funcs[n_slices_Clone_LRecord]? = some fn_slices_Clone_LRecord := Try.func24
theorem hB_slices_Clone_LRecord : fnB fn_slices_Clone_LRecord = true := by kernel_rfl
theorem hf_log_words : Try.prog.funcs[n_log_words]? = some fn_log_words := Try.func25
theorem hB_log_words : fnB fn_log_words = true := by kernel_rfl
theorem hf_ref_allWords : Try.prog.funcs[n_ref_allWords]? = some fn_ref_allWords := Try.func26
theorem hB_ref_allWords : fnB fn_ref_allWords = true := by kernel_rfl
theorem hf_ref_counts : Try.prog.funcs[n_ref_counts]? = some fn_ref_counts := Try.func27
theorem hB_ref_counts : fnB fn_ref_counts = true := by kernel_rfl
theorem hf_flash_New : Try.prog.funcs[n_flash_New]? = some fn_flash_New := Try.func28
theorem hB_flash_New : fnB fn_flash_New = true := by kernel_rfl
theorem hf_slices_Equal_Lint : Try.prog.funcs[n_slices_Equal_Lint]? = some fn_slices_Equal_Lint := Try.func29
theorem hB_slices_Equal_Lint : fnB fn_slices_Equal_Lint = true := by kernel_rfl
theorem hf_ref_Changed : Try.prog.funcs[n_ref_Changed]? = some fn_ref_Changed := Try.func30
theorem hB_ref_Changed : fnB fn_ref_Changed = true := by kernel_rfl
theorem hf_slices_Concat_Lref_change : Try.prog.funcs[n_slices_Concat_Lref_change]? = some fn_slices_Concat_Lref_change := Try.func31
theorem hB_slices_Concat_Lref_change : fnB fn_slices_Concat_Lref_change = true := by kernel_rfl
theorem hf_ref_erases : Try.prog.funcs[n_ref_erases]? = some fn_ref_erases := Try.func32
theorem hB_ref_erases : fnB fn_ref_erases = true := by kernel_rfl
theorem hf_ref_programs : Try.prog.funcs[n_ref_programs]? = some fn_ref_programs := Try.func33
theorem hB_ref_programs : fnB fn_ref_programs = true := by kernel_rfl
theorem hf_ref_checkRecord : Try.prog.funcs[n_ref_checkRecord]? = some fn_ref_checkRecord := Try.func34
theorem hB_ref_checkRecord : fnB fn_ref_checkRecord = true := by kernel_rfl
theorem hf_slices_EqualFunc_LRecord : Try.prog.funcs[n_slices_EqualFunc_LRecord]? = some fn_slices_EqualFunc_LRecord := Try.func35
theorem hB_slices_EqualFunc_LRecord : fnB fn_slices_EqualFunc_LRecord = true := by kernel_rfl
theorem hf_ref_SameRecords_1 : Try.prog.funcs[n_ref_SameRecords_1]? = some fn_ref_SameRecords_1 := Try.func36
theorem hB_ref_SameRecords_1 : fnB fn_ref_SameRecords_1 = true := by kernel_rfl
theorem hf_slices_Equal_Record : Try.prog.funcs[n_slices_Equal_Record]? = some fn_slices_Equal_Record := Try.func37
theorem hB_slices_Equal_Record : fnB fn_slices_Equal_Record = true := by kernel_rfl
theorem hf_slices_Clone_Lint : Try.prog.funcs[n_slices_Clone_Lint]? = some fn_slices_Clone_Lint := Try.func38
theorem hB_slices_Clone_Lint : fnB fn_slices_Clone_Lint = true := by kernel_rfl
theorem hf_flash_burn : Try.prog.funcs[n_flash_burn]? = some fn_flash_burn := Try.func39
theorem hB_flash_burn : fnB fn_flash_burn = true := by kernel_rfl
theorem hf_slices_Clone_Record : Try.prog.funcs[n_slices_Clone_Record]? = some fn_slices_Clone_Record := Try.func40
theorem hB_slices_Clone_Record : fnB fn_slices_Clone_Record = true := by kernel_rfl
theorem hf_slices_ContainsFunc_Record : Try.prog.funcs[n_slices_ContainsFunc_Record]? = some fn_slices_ContainsFunc_Record := Try.func41
theorem hB_slices_ContainsFunc_Record : fnB fn_slices_ContainsFunc_Record = true := by kernel_rfl
theorem hf_log_check_1 : Try.prog.funcs[n_log_check_1]? = some fn_log_check_1 := Try.func42
theorem hB_log_check_1 : fnB fn_log_check_1 = true := by kernel_rfl
theorem hf_log_head : Try.prog.funcs[n_log_head]? = some fn_log_head := Try.func43
theorem hB_log_head : fnB fn_log_head = true := by kernel_rfl
theorem hf_slices_ContainsFunc_Lint : Try.prog.funcs[n_slices_ContainsFunc_Lint]? = some fn_slices_ContainsFunc_Lint := Try.func44
theorem hB_slices_ContainsFunc_Lint : fnB fn_slices_ContainsFunc_Lint = true := by kernel_rfl
theorem hf_ref_allWords_1 : Try.prog.funcs[n_ref_allWords_1]? = some fn_ref_allWords_1 := Try.func45
theorem hB_ref_allWords_1 : fnB fn_ref_allWords_1 = true := by kernel_rfl
theorem hf_ref_IsWord : Try.prog.funcs[n_ref_IsWord]? = some fn_ref_IsWord := Try.func46
theorem hB_ref_IsWord : fnB fn_ref_IsWord = true := by kernel_rfl
theorem hf_ref_generation : Try.prog.funcs[n_ref_generation]? = some fn_ref_generation := Try.func47
theorem hB_ref_generation : fnB fn_ref_generation = true := by kernel_rfl
theorem hf_slices_Repeat_Lint : Try.prog.funcs[n_slices_Repeat_Lint]? = some fn_slices_Repeat_Lint := Try.func48
theorem hB_slices_Repeat_Lint : fnB fn_slices_Repeat_Lint = true := by kernel_rfl
theorem hf_slices_Grow_Lref_change : Try.prog.funcs[n_slices_Grow_Lref_change]? = some fn_slices_Grow_Lref_change := Try.func49
theorem hB_slices_Grow_Lref_change : fnB fn_slices_Grow_Lref_change = true := by kernel_rfl
theorem hf_ref_erases_1 : Try.prog.funcs[n_ref_erases_1]? = some fn_ref_erases_1 := Try.func50
theorem hB_ref_erases_1 : fnB fn_ref_erases_1 = true := by kernel_rfl
theorem hf_ref_programs_1 : Try.prog.funcs[n_ref_programs_1]? = some fn_ref_programs_1 := Try.func51
theorem hB_ref_programs_1 : fnB fn_ref_programs_1 = true := by kernel_rfl
theorem hf_slices_IndexFunc_Record : Try.prog.funcs[n_slices_IndexFunc_Record]? = some fn_slices_IndexFunc_Record := Try.func52
theorem hB_slices_IndexFunc_Record : fnB fn_slices_IndexFunc_Record = true := by kernel_rfl
theorem hf_slices_IndexFunc_Lint : Try.prog.funcs[n_slices_IndexFunc_Lint]? = some fn_slices_IndexFunc_Lint := Try.func53
theorem hB_slices_IndexFunc_Lint : fnB fn_slices_IndexFunc_Lint = true := by kernel_rfl
theorem hf_math_bits_Mul : Try.prog.funcs[n_math_bits_Mul]? = some fn_math_bits_Mul := Try.func54
theorem hB_math_bits_Mul : fnB fn_math_bits_Mul = true := by kernel_rfl
theorem hf_math_bits_Mul32 : Try.prog.funcs[n_math_bits_Mul32]? = some fn_math_bits_Mul32 := Try.func55
theorem hB_math_bits_Mul32 : fnB fn_math_bits_Mul32 = true := by kernel_rfl
theorem hf_math_bits_Mul64 : Try.prog.funcs[n_math_bits_Mul64]? = some fn_math_bits_Mul64 := Try.func56
theorem hB_math_bits_Mul64 : fnB fn_math_bits_Mul64 = true := by kernel_rfl
theorem ok_nil : Ok Try.prog tab [] := Ok.nil tab_ok (by kernel_rfl)
end Go.Proofs.Ytlbppjmekiemiab
