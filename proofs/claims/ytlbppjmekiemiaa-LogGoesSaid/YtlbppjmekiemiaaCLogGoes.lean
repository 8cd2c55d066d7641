/- LogGoes: whatever its arguments are, the law answers true, and they read as before. No condition. -/
import Derived.Test.YtlbppjmekiemiaaRows
import Derived.Test.YtlbppjmekiemiaaFLogGoes
import Derived.ProofKit
namespace Go.Proofs.Ytlbppjmekiemiaa
open Vm Go.ChangeShapes Go.WideShapes Go.ChangeAt Go.RowKit
theorem own : ownKnob Try.prog.godebug = none := by kernel_rfl
theorem laidOut : laidOutB Try.prog = true := by kernel_rfl
theorem logGoes_calls (us : List V) (h : ArgsAre [(false, [(.list (.list .int))]), (false, [(.list (.list .int))])] us) : AC Try.prog tab n_law_LogGoes us [] (.one (.dat .bool true)) [] := by
  obtain ⟨u0, us0, rfl, hu0, h1⟩ := args_cons h
  obtain ⟨l, rfl, z_l⟩ := arg_one hu0
  obtain ⟨u1, us1, rfl, hu1, h2⟩ := args_cons h1
  obtain ⟨keep, rfl, z_keep⟩ := arg_one hu1
  obtain rfl := args_nil h2
  exact sound_law_LogGoes _ _ _ _ _ rfl ⟨by
        exact ⟨(keep_of z_l).1, (keep_of z_l).2, keep_of z_keep⟩
      , trivial⟩
theorem logGoes_lifted (os : Os) (started : os.Started) (H : Type) (enc : TypeId × Value → H) :
    ReturnsInHanded {} Try.checked os n_law_LogGoes .any (Rows.logGoesSpec.pre6 enc Try.prog fn_law_LogGoes Rows.logGoesRow.domain false) (Rows.logGoesSpec.post enc Try.prog fn_law_LogGoes false true false false) := by
  refine returnsInHanded_of_change_sized (C := Try.checked) own started (by kernel_rfl) hf_law_LogGoes
    (ChangeSpec.witness6 (enc := enc) (C := Try.checked) false ⟨#[], #[.slice none 0 0, .slice none 0 0], []⟩ 8 (by kernel_rfl) (by kernel_rfl) (by kernel_rfl) (by kernel_rfl)) ?_
  intro W base args ds gs before hval hW _ hsz _
  refine law_calls (P := Try.prog) (tab := tab) (m := 12) (ps := [(false, [(.list (.list .int))]), (false, [(.list (.list .int))])]) laidOut (by kernel_rfl) (by kernel_rfl) (tb := 4) (by kernel_rfl) rfl ?_ logGoes_calls hval hW hsz
  intro ds h
  match ds, h with
  | [d0, d1], _ => exact ⟨rfl, rfl, rfl⟩
theorem logGoes_holds : Rows.LogGoesSaid :=
  OpenClaim.holds_of_wide n_law_LogGoes fn_law_LogGoes rfl rfl rfl rfl rfl rfl rfl ⟨rfl, rfl, rfl, rfl, rfl⟩ rfl rfl rfl rfl rfl (by kernel_rfl) hf_law_LogGoes (by kernel_rfl)
    (of_decide_eq_true (by kernel_rfl)) (by unfold Func.isWrapper; first | (rw [if_pos (by decide +kernel)]; kernel_rfl) | (rw [if_neg (by decide +kernel)]; exact ⟨rfl, rfl⟩))
    (fun os started H enc _ => logGoes_lifted os started H enc)
#print axioms logGoes_holds
end Go.Proofs.Ytlbppjmekiemiaa
