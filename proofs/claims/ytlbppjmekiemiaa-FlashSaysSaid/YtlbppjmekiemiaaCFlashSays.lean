/- FlashSays: whatever its arguments are, the law answers true, and they read as before. No condition. -/
import Derived.Test.YtlbppjmekiemiaaRows
import Derived.Test.YtlbppjmekiemiaaFFlashSays
import Derived.ProofKit
namespace Go.Proofs.Ytlbppjmekiemiaa
open Vm Go.ChangeShapes Go.WideShapes Go.ChangeAt Go.RowKit
theorem own : ownKnob Try.prog.godebug = none := by kernel_rfl
theorem laidOut : laidOutB Try.prog = true := by kernel_rfl
theorem flashSays_calls (us : List V) (h : ArgsAre [(false, [.int]), (true, [(.list .int), .int]), (false, [.int]), (false, [.int]), (false, [(.list .int)]), (true, [(.list .int), .int])] us) : AC Try.prog tab n_law_FlashSays us [] (.one (.dat .bool true)) [] := by
  obtain ⟨u0, us0, rfl, hu0, h1⟩ := args_cons h
  obtain ⟨n, rfl, z_n⟩ := arg_one hu0
  obtain ⟨u1, us1, rfl, hu1, h2⟩ := args_cons h1
  obtain ⟨cs1, rfl, hs1_0, hz1⟩ := arg_agg hu1
  obtain ⟨ws, cs1_0, rfl, hs1_1⟩ := shapes_cons hs1_0
  obtain ⟨fu, cs1_1, rfl, hs1_2⟩ := shapes_cons hs1_1
  obtain rfl := shapes_nil hs1_2
  have z_ws := hz1 _ (List.mem_of_getElem? (i := 0) rfl)
  have z_fu := hz1 _ (List.mem_of_getElem? (i := 1) rfl)
  obtain ⟨u2, us2, rfl, hu2, h3⟩ := args_cons h2
  obtain ⟨sector, rfl, z_sector⟩ := arg_one hu2
  obtain ⟨u3, us3, rfl, hu3, h4⟩ := args_cons h3
  obtain ⟨place, rfl, z_place⟩ := arg_one hu3
  obtain ⟨u4, us4, rfl, hu4, h5⟩ := args_cons h4
  obtain ⟨l, rfl, z_l⟩ := arg_one hu4
  obtain ⟨u5, us5, rfl, hu5, h6⟩ := args_cons h5
  obtain ⟨cs5, rfl, hs5_0, hz5⟩ := arg_agg hu5
  obtain ⟨us, cs5_0, rfl, hs5_1⟩ := shapes_cons hs5_0
  obtain ⟨fv, cs5_1, rfl, hs5_2⟩ := shapes_cons hs5_1
  obtain rfl := shapes_nil hs5_2
  have z_us := hz5 _ (List.mem_of_getElem? (i := 0) rfl)
  have z_fv := hz5 _ (List.mem_of_getElem? (i := 1) rfl)
  obtain rfl := args_nil h6
  exact sound_law_FlashSays _ _ _ _ _ rfl ⟨by
        exact ⟨(szc_list z_ws).1, sm_of z_l, sm_of z_us, szc_int z_sector, szc_int z_place, szc_int z_n⟩
      , trivial⟩
theorem flashSays_lifted (os : Os) (started : os.Started) (H : Type) (enc : TypeId × Value → H) :
    ReturnsInHanded {} Try.checked os n_law_FlashSays .any (Rows.flashSaysSpec.pre6 enc Try.prog fn_law_FlashSays Rows.flashSaysRow.domain false) (Rows.flashSaysSpec.post enc Try.prog fn_law_FlashSays false true false false) := by
  refine returnsInHanded_of_change_sized (C := Try.checked) own started (by kernel_rfl) hf_law_FlashSays
    (ChangeSpec.witness6 (enc := enc) (C := Try.checked) false ⟨#[], #[.int .i64 0, .agg #[.slice none 0 0, .int .i64 0], .int .i64 0, .int .i64 0, .slice none 0 0, .agg #[.slice none 0 0, .int .i64 0]], []⟩ 8 (by kernel_rfl) (by kernel_rfl) (by kernel_rfl) (by kernel_rfl)) ?_
  intro W base args ds gs before hval hW _ hsz _
  refine law_calls (P := Try.prog) (tab := tab) (m := 12) (ps := [(false, [.int]), (true, [(.list .int), .int]), (false, [.int]), (false, [.int]), (false, [(.list .int)]), (true, [(.list .int), .int])]) laidOut (by kernel_rfl) (by kernel_rfl) (tb := 4) (by kernel_rfl) rfl ?_ flashSays_calls hval hW hsz
  intro ds h
  match ds, h with
  | [d0, d1, d2, d3, d4, d5], _ => exact ⟨rfl, rfl, rfl⟩
theorem flashSays_holds : Rows.FlashSaysSaid :=
  OpenClaim.holds_of_wide n_law_FlashSays fn_law_FlashSays rfl rfl rfl rfl rfl rfl rfl ⟨rfl, rfl, rfl, rfl, rfl⟩ rfl rfl rfl rfl rfl (by kernel_rfl) hf_law_FlashSays (by kernel_rfl)
    (of_decide_eq_true (by kernel_rfl)) (by unfold Func.isWrapper; first | (rw [if_pos (by decide +kernel)]; kernel_rfl) | (rw [if_neg (by decide +kernel)]; exact ⟨rfl, rfl⟩))
    (fun os started H enc _ => flashSays_lifted os started H enc)
#print axioms flashSays_holds
end Go.Proofs.Ytlbppjmekiemiaa
