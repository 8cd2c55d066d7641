/- LogSays: whatever its arguments are, the law answers true, and they read as before. No condition. -/
import Derived.Test.YtlbppjmekiemiabRows
import Derived.Test.YtlbppjmekiemiabFLogSaysb
import Derived.ProofKit
namespace Go.Proofs.Ytlbppjmekiemiab
open Vm Go.ChangeShapes Go.WideShapes Go.ChangeAt Go.RowKit
theorem own : ownKnob Try.prog.godebug = none := by kernel_rfl
theorem laidOut : laidOutB Try.prog = true := by kernel_rfl
theorem logSays_calls (us : List V) (h : ArgsAre [(true, [(.list .int), .int]), (false, [(.list .int)]), (false, [(.list (.list .int))])] us) : AC Try.prog tab n_law_LogSays us [] (.one (.dat .bool true)) [] := by
  obtain ⟨u0, us0, rfl, hu0, h1⟩ := args_cons h
  obtain ⟨cs0, rfl, hs0_0, hz0⟩ := arg_agg hu0
  obtain ⟨ws, cs0_0, rfl, hs0_1⟩ := shapes_cons hs0_0
  obtain ⟨fu, cs0_1, rfl, hs0_2⟩ := shapes_cons hs0_1
  obtain rfl := shapes_nil hs0_2
  have z_ws := hz0 _ (List.mem_of_getElem? (i := 0) rfl)
  have z_fu := hz0 _ (List.mem_of_getElem? (i := 1) rfl)
  obtain ⟨u1, us1, rfl, hu1, h2⟩ := args_cons h1
  obtain ⟨r, rfl, z_r⟩ := arg_one hu1
  obtain ⟨u2, us2, rfl, hu2, h3⟩ := args_cons h2
  obtain ⟨keep, rfl, z_keep⟩ := arg_one hu2
  obtain rfl := args_nil h3
  exact sound_law_LogSays _ _ _ _ _ rfl ⟨by
        exact ⟨(szc_list z_ws).1, sm_of z_r, keep_of z_keep⟩
      , trivial⟩
theorem logSays_lifted (os : Os) (started : os.Started) (H : Type) (enc : TypeId × Value → H) :
    ReturnsInHanded {} Try.checked os n_law_LogSays .any (Rows.logSaysSpec.pre6 enc Try.prog fn_law_LogSays Rows.logSaysRow.domain false) (Rows.logSaysSpec.post enc Try.prog fn_law_LogSays false true false false) := by
  refine returnsInHanded_of_change_sized (C := Try.checked) own started (by kernel_rfl) hf_law_LogSays
    (ChangeSpec.witness6 (enc := enc) (C := Try.checked) false ⟨#[], #[.agg #[.slice none 0 0, .int .i64 0], .slice none 0 0, .slice none 0 0], []⟩ 8 (by kernel_rfl) (by kernel_rfl) (by kernel_rfl) (by kernel_rfl)) ?_
  intro W base args ds gs before hval hW _ hsz _
  refine law_calls (P := Try.prog) (tab := tab) (m := 12) (ps := [(true, [(.list .int), .int]), (false, [(.list .int)]), (false, [(.list (.list .int))])]) laidOut (by kernel_rfl) (by kernel_rfl) (tb := 4) (by kernel_rfl) rfl ?_ logSays_calls hval hW hsz
  intro ds h
  match ds, h with
  | [d0, d1, d2], _ => exact ⟨rfl, rfl, rfl⟩
theorem logSays_holds : Rows.LogSaysSaid :=
  OpenClaim.holds_of_wide n_law_LogSays fn_law_LogSays rfl rfl rfl rfl rfl rfl rfl ⟨rfl, rfl, rfl, rfl, rfl⟩ rfl rfl rfl rfl rfl (by kernel_rfl) hf_law_LogSays (by kernel_rfl)
    (of_decide_eq_true (by kernel_rfl)) (by unfold Func.isWrapper; first | (rw [if_pos (by decide +kernel)]; kernel_rfl) | (rw [if_neg (by decide +kernel)]; exact ⟨rfl, rfl⟩))
    (fun os started H enc _ => logSays_lifted os started H enc)
#print axioms logSays_holds
end Go.Proofs.Ytlbppjmekiemiab
