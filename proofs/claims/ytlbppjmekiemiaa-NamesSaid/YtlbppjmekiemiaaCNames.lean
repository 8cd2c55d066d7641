/- Names: whatever its arguments are, the law answers true, and they read as before. No condition. -/
import Derived.Test.YtlbppjmekiemiaaRows
import Derived.Test.YtlbppjmekiemiaaFNames
import Derived.ProofKit
namespace Go.Proofs.Ytlbppjmekiemiaa
open Vm Go.ChangeShapes Go.WideShapes Go.ChangeAt Go.RowKit
theorem own : ownKnob Try.prog.godebug = none := by kernel_rfl
theorem laidOut : laidOutB Try.prog = true := by kernel_rfl
theorem names_calls (us : List V) (h : ArgsAre [] us) : AC Try.prog tab n_law_Names us [] (.one (.dat .bool true)) [] := by
  obtain rfl := args_nil h
  exact sound_law_Names _ _ _ _ _ rfl trivial
theorem names_lifted (os : Os) (started : os.Started) (H : Type) (enc : TypeId × Value → H) :
    ReturnsInHanded {} Try.checked os n_law_Names .any (Rows.namesSpec.pre6 enc Try.prog fn_law_Names Rows.namesRow.domain false) (Rows.namesSpec.post enc Try.prog fn_law_Names false true false false) := by
  refine returnsInHanded_of_change_sized (C := Try.checked) own started (by kernel_rfl) hf_law_Names
    (ChangeSpec.witness6 (enc := enc) (C := Try.checked) false ⟨#[], #[], []⟩ 8 (by kernel_rfl) (by kernel_rfl) (by kernel_rfl) (by kernel_rfl)) ?_
  intro W base args ds gs before hval hW _ hsz _
  refine law_calls (P := Try.prog) (tab := tab) (m := 12) (ps := []) laidOut (by kernel_rfl) (by kernel_rfl) (tb := 4) (by kernel_rfl) rfl ?_ names_calls hval hW hsz
  intro ds h
  match ds, h with
  | [], _ => exact ⟨rfl, rfl, rfl⟩
theorem names_holds : Rows.NamesSaid :=
  OpenClaim.holds_of_wide n_law_Names fn_law_Names rfl rfl rfl rfl rfl rfl rfl ⟨rfl, rfl, rfl, rfl, rfl⟩ rfl rfl rfl rfl rfl (by kernel_rfl) hf_law_Names (by kernel_rfl)
    (of_decide_eq_true (by kernel_rfl)) (by unfold Func.isWrapper; first | (rw [if_pos (by decide +kernel)]; kernel_rfl) | (rw [if_neg (by decide +kernel)]; exact ⟨rfl, rfl⟩))
    (fun os started H enc _ => names_lifted os started H enc)
#print axioms names_holds
end Go.Proofs.Ytlbppjmekiemiaa
