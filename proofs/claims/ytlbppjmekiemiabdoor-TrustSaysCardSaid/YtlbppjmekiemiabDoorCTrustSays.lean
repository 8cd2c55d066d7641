/- TrustSays: whatever its arguments are, the law answers true, and they read as before. No condition. -/
import Derived.Test.YtlbppjmekiemiabDoorRows
import Derived.Test.YtlbppjmekiemiabDoorCards
import Derived.Test.YtlbppjmekiemiabDoorTie
import Derived.SevenTiedAt
import Derived.LaidMore
import Derived.MakeChecks
import Derived.Lib.LaidTab
import Derived.Lay
import Derived.Test.YtlbppjmekiemiabDoorFTrustSaysb
import Derived.ProofKit
namespace Go.Proofs.YtlbppjmekiemiabDoor
open Vm Go Go.ChangeShapes Go.WideShapes Go.ChangeAt Go.RowKit
theorem own : ownKnob Tryd.prog.godebug = none := by kernel_rfl
theorem laidOut : laidOutB Tryd.prog = true := by kernel_rfl
theorem trustSays_calls (us : List V) (h : ArgsAre [(true, [(.list .str)]), (false, [(.list .signed)]), (true, [.int, (.list .int), .int, .int]), (true, [(.list .root), (.list (.list .int)), .int, .int, (.list .target), (.list .int), (.list (.list .int))]), (false, [.int]), (false, [.int]), (false, [.int])] us) : AC Tryd.prog tab n_law_TrustSays us [] (.one (.dat .bool true)) [] := by
  obtain ⟨u0, us0, rfl, hu0, h1⟩ := args_cons h
  obtain ⟨cs0, rfl, hs0_0, hz0⟩ := arg_agg hu0
  obtain ⟨b, cs0_0, rfl, hs0_1⟩ := shapes_cons hs0_0
  obtain rfl := shapes_nil hs0_1
  have z_b := hz0 _ (List.mem_of_getElem? (i := 0) rfl)
  obtain ⟨u1, us1, rfl, hu1, h2⟩ := args_cons h1
  obtain ⟨l, rfl, z_l⟩ := arg_one hu1
  obtain ⟨u2, us2, rfl, hu2, h3⟩ := args_cons h2
  obtain ⟨cs2, rfl, hs2_0, hz2⟩ := arg_agg hu2
  obtain ⟨v, cs2_0, rfl, hs2_1⟩ := shapes_cons hs2_0
  obtain ⟨ks, cs2_1, rfl, hs2_2⟩ := shapes_cons hs2_1
  obtain ⟨t, cs2_2, rfl, hs2_3⟩ := shapes_cons hs2_2
  obtain ⟨n, cs2_3, rfl, hs2_4⟩ := shapes_cons hs2_3
  obtain rfl := shapes_nil hs2_4
  have z_v := hz2 _ (List.mem_of_getElem? (i := 0) rfl)
  have z_ks := hz2 _ (List.mem_of_getElem? (i := 1) rfl)
  have z_t := hz2 _ (List.mem_of_getElem? (i := 2) rfl)
  have z_n := hz2 _ (List.mem_of_getElem? (i := 3) rfl)
  obtain ⟨u3, us3, rfl, hu3, h4⟩ := args_cons h3
  obtain ⟨cs3, rfl, hs3_0, hz3⟩ := arg_agg hu3
  obtain ⟨rs, cs3_0, rfl, hs3_1⟩ := shapes_cons hs3_0
  obtain ⟨rg, cs3_1, rfl, hs3_2⟩ := shapes_cons hs3_1
  obtain ⟨ov, cs3_2, rfl, hs3_3⟩ := shapes_cons hs3_2
  obtain ⟨ou, cs3_3, rfl, hs3_4⟩ := shapes_cons hs3_3
  obtain ⟨ts, cs3_4, rfl, hs3_5⟩ := shapes_cons hs3_4
  obtain ⟨sg, cs3_5, rfl, hs3_6⟩ := shapes_cons hs3_5
  obtain ⟨im, cs3_6, rfl, hs3_7⟩ := shapes_cons hs3_6
  obtain rfl := shapes_nil hs3_7
  have z_rs := hz3 _ (List.mem_of_getElem? (i := 0) rfl)
  have z_rg := hz3 _ (List.mem_of_getElem? (i := 1) rfl)
  have z_ov := hz3 _ (List.mem_of_getElem? (i := 2) rfl)
  have z_ou := hz3 _ (List.mem_of_getElem? (i := 3) rfl)
  have z_ts := hz3 _ (List.mem_of_getElem? (i := 4) rfl)
  have z_sg := hz3 _ (List.mem_of_getElem? (i := 5) rfl)
  have z_im := hz3 _ (List.mem_of_getElem? (i := 6) rfl)
  obtain ⟨u4, us4, rfl, hu4, h5⟩ := args_cons h4
  obtain ⟨now, rfl, z_now⟩ := arg_one hu4
  obtain ⟨u5, us5, rfl, hu5, h6⟩ := args_cons h5
  obtain ⟨units, rfl, z_units⟩ := arg_one hu5
  obtain ⟨u6, us6, rfl, hu6, h7⟩ := args_cons h6
  obtain ⟨name, rfl, z_name⟩ := arg_one hu6
  obtain rfl := args_nil h7
  exact sound_law_TrustSays _ _ _ _ _ rfl ⟨by
        have q : b.length * 16 ≤ 140737488351232 := (szc_list z_b).1
        omega
      , trivial⟩
set_option maxRecDepth 100000
def laid3 : List (String × DataW Unit) := Rows.trustSaysRow.laid
theorem pow_of {W : World} (h : laidMetH Tryd.prog laid3 W) : PowIs tab W (fun b => b < W.heap.size) := by
  rw [MakeChecks.laidMetH_plain _ _ _ (by kernel_rfl)] at h
  obtain ⟨ps, ⟨_, _, _, _, _, _, _, _, _, _, ⟨_, _, _, _, _, _, _, _, _, _, ⟨g9, t9, cs9, f9, p9, q9, hg9, ht9, hv9, hd9, _, _⟩, _⟩, _⟩, _⟩ := h
  have hgn : Tryd.prog.globalNamed "internal/strconv.uint64pow10" = some 0 := by kernel_rfl
  obtain rfl := Option.some.inj (hgn.symm.trans hg9)
  obtain rfl := Option.some.inj ((show (Tryd.prog.globals[0]?).map (·.type) = some 193 by kernel_rfl).symm.trans ht9)
  have hcs : cs9.toList = powTen.map fun z => Value.int .u64 z := Go.Lib.cells_of_tab (k := .u64) (n := 20) (e := 180) (by kernel_rfl) (by kernel_rfl) (by kernel_rfl) (by kernel_rfl) hd9
  intro g hg
  have hg' : some 0 = some g := hg
  cases hg'
  unfold World.var? at hv9
  rw [hgn] at hv9
  simp only [Option.bind_some] at hv9
  split at hv9
  · rename_i cs ty m hb
    cases hv9
    refine ⟨(Array.getElem?_eq_some_iff.1 hb).1, ty, m, ?_⟩
    rw [hb, ← hcs]
  · cases hv9
theorem trustSays_lifted (os : Os) (started : os.Started) (H : Type) (enc : TypeId × Value → H) :
    ReturnsInHanded {} Tryd.checked os n_law_TrustSays .any (fun w args => (Rows.trustSaysSpec.pre enc Tryd.prog fn_law_TrustSays Rows.trustSaysRow.domain false w args ∧ laidMetH Tryd.prog laid3 w) ∧ sizedMet enc Tryd.prog fn_law_TrustSays (OpenSpec.ofChange Rows.trustSaysSpec) false w args)
      (Rows.trustSaysSpec.post enc Tryd.prog fn_law_TrustSays false true false false) := by
  refine returnsInHanded_of_change_and (C := Tryd.checked) (X := fun w _ => laidMetH Tryd.prog laid3 w) (fun _ _ _ hh h => h.of_heap hh) own started (by kernel_rfl) hf_law_TrustSays
    (ChangeSpec.witness_shaped (enc := enc) (C := Tryd.checked) (os := os) (X := fun w _ => laidMetH Tryd.prog laid3 w) false (World.laidAll Tryd.prog os laid3) #[.agg #[.slice none 0 0], .slice none 0 0, .agg #[.int .i64 0, .slice none 0 0, .int .i64 0, .int .i64 0], .agg #[.slice none 0 0, .slice none 0 0, .int .i64 0, .int .i64 0, .slice none 0 0, .slice none 0 0, .slice none 0 0], .int .i64 0, .int .i64 0, .int .i64 0] 8 (World.laidAll_os _ _ _)
      (World.shaped_of_ZipB (by kernel_rfl) (by kernel_rfl)) (by kernel_rfl) (by kernel_rfl) (by kernel_rfl)
      (by rw [MakeChecks.laidMetH_plain _ _ _ (by kernel_rfl)]; exact laidMet_laidAll _ (by kernel_rfl) (by kernel_rfl))) ?_
  intro W base args ds gs before hval hW _ hsz hL _
  refine law_calls (P := Tryd.prog) (tab := tab) (m := 12) (ps := [(true, [(.list .str)]), (false, [(.list .signed)]), (true, [.int, (.list .int), .int, .int]), (true, [(.list .root), (.list (.list .int)), .int, .int, (.list .target), (.list .int), (.list (.list .int))]), (false, [.int]), (false, [.int]), (false, [.int])]) laidOut (by kernel_rfl) (by kernel_rfl) (tb := 4) (by kernel_rfl) rfl ?_ trustSays_calls hval hW hsz (pow_of hL)
  intro ds h
  match ds, h with
  | [d0, d1, d2, d3, d4, d5, d6], _ => exact ⟨rfl, rfl, rfl⟩
theorem trustSays_holds : Rows.TrustSaysSaid :=
  OpenClaim.holds_of_wide n_law_TrustSays fn_law_TrustSays rfl rfl rfl rfl rfl rfl rfl ⟨rfl, rfl, rfl, rfl, rfl⟩ rfl rfl rfl rfl rfl (by kernel_rfl) hf_law_TrustSays (by kernel_rfl)
    (of_decide_eq_true (by kernel_rfl)) (by unfold Func.isWrapper; first | (rw [if_pos (by decide +kernel)]; kernel_rfl) | (rw [if_neg (by decide +kernel)]; exact ⟨rfl, rfl⟩))
    (fun os started H enc _ => trustSays_lifted os started H enc)
#print axioms trustSays_holds
theorem trustSays_card_holds : Rows.TrustSaysCardSaid :=
  Claim7.holds_tied_plain_at .later [] [.data, .data, .data] true (true, "e1fd43673c3a9212ad12f0619f93528ef2f6c6e71029b67e9d2f92b086de2074") false
    trustSays_holds (fun _ h => by cases h) (by kernel_rfl) (fun _ h => by cases h) trustSays_row_tie rfl ⟨rfl, rfl⟩ (by kernel_rfl) rfl
    (fun f fn hf hfn => by
      obtain rfl : f = 6 := Option.some.inj ((show Tryd.prog.funcNamed "wainwright/wainwrightlaw.TrustSays" = some 6 by kernel_rfl).symm.trans hf) |>.symm
      obtain rfl : fn = Tryd.f6 := (Option.some.inj (Tryd.func6.symm.trans hfn)).symm
      exact ⟨by kernel_rfl, fun j t ht => by
        rw [Tryd.params6] at ht
        have hm : t ∈ [24, 38, 42, 49, 3, 3, 3] := by simpa using Array.mem_of_getElem? ht
        have hall : ([24, 38, 42, 49, 3, 3, 3].all fun u => !Tryd.prog.wantsStandIn u) = true := by kernel_rfl
        exact (show Tryd.prog.wantsStandIn t = false by simpa using List.all_eq_true.1 hall t hm)⟩)
    (by kernel_rfl)
#print axioms trustSays_card_holds
end Go.Proofs.YtlbppjmekiemiabDoor
