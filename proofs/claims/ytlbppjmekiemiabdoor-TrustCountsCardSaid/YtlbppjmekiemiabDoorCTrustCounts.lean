/- TrustCounts: whatever its arguments are, the law answers true, and they read as before. No condition. -/
import Derived.Test.YtlbppjmekiemiabDoorRows
import Derived.Test.YtlbppjmekiemiabDoorCards
import Derived.Test.YtlbppjmekiemiabDoorTie
import Derived.SevenTiedAt
import Derived.LaidMore
import Derived.MakeChecks
import Derived.Lib.LaidTab
import Derived.Lay
import Derived.Test.YtlbppjmekiemiabDoorFTrustCounts
import Derived.ProofKit
namespace Go.Proofs.YtlbppjmekiemiabDoor
open Vm Go Go.ChangeShapes Go.WideShapes Go.ChangeAt Go.RowKit
theorem own : ownKnob Tryd.prog.godebug = none := by kernel_rfl
theorem laidOut : laidOutB Tryd.prog = true := by kernel_rfl
theorem trustCounts_calls (us : List V) (h : ArgsAre [(false, [(.list .signed)]), (true, [.int, (.list .int), .int]), (false, [(.list .int)]), (false, [(.list .int)]), (false, [.int]), (true, [.int, .int])] us) : AC Tryd.prog tab n_law_TrustCounts us [] (.one (.dat .bool true)) [] := by
  obtain ⟨u0, us0, rfl, hu0, h1⟩ := args_cons h
  obtain ⟨l, rfl, z_l⟩ := arg_one hu0
  obtain ⟨u1, us1, rfl, hu1, h2⟩ := args_cons h1
  obtain ⟨cs1, rfl, hs1_0, hz1⟩ := arg_agg hu1
  obtain ⟨v, cs1_0, rfl, hs1_1⟩ := shapes_cons hs1_0
  obtain ⟨ks, cs1_1, rfl, hs1_2⟩ := shapes_cons hs1_1
  obtain ⟨t, cs1_2, rfl, hs1_3⟩ := shapes_cons hs1_2
  obtain rfl := shapes_nil hs1_3
  have z_v := hz1 _ (List.mem_of_getElem? (i := 0) rfl)
  have z_ks := hz1 _ (List.mem_of_getElem? (i := 1) rfl)
  have z_t := hz1 _ (List.mem_of_getElem? (i := 2) rfl)
  obtain ⟨u2, us2, rfl, hu2, h3⟩ := args_cons h2
  obtain ⟨sg, rfl, z_sg⟩ := arg_one hu2
  obtain ⟨u3, us3, rfl, hu3, h4⟩ := args_cons h3
  obtain ⟨more, rfl, z_more⟩ := arg_one hu3
  obtain ⟨u4, us4, rfl, hu4, h5⟩ := args_cons h4
  obtain ⟨n, rfl, z_n⟩ := arg_one hu4
  obtain ⟨u5, us5, rfl, hu5, h6⟩ := args_cons h5
  obtain ⟨cs5, rfl, hs5_0, hz5⟩ := arg_agg hu5
  obtain ⟨ek, cs5_0, rfl, hs5_1⟩ := shapes_cons hs5_0
  obtain ⟨en, cs5_1, rfl, hs5_2⟩ := shapes_cons hs5_1
  obtain rfl := shapes_nil hs5_2
  have z_ek := hz5 _ (List.mem_of_getElem? (i := 0) rfl)
  have z_en := hz5 _ (List.mem_of_getElem? (i := 1) rfl)
  obtain rfl := args_nil h6
  exact sound_law_TrustCounts _ _ _ _ _ rfl ⟨by
        exact (szc_list z_more).1
      , trivial⟩
set_option maxRecDepth 100000
def laid3 : List (String × DataW Unit) := Rows.trustCountsRow.laid
theorem pow_of {W : World} (h : laidMetH Tryd.prog laid3 W) : PowIs tab W (fun b => b < W.heap.size) := by
  rw [MakeChecks.laidMetH_plain _ _ _ (by kernel_rfl)] at h
  obtain ⟨ps, ⟨_, _, _, _, _, _, _, _, _, _, ⟨_, _, _, _, _, _, _, _, _, _, ⟨g9, t9, cs9, f9, p9, q9, hg9, ht9, hv9, hd9, _, _⟩, _⟩, _⟩, _⟩ := h
  have hgn : Tryd.prog.globalNamed "internal/strconv.uint64pow10" = some 0 := by kernel_rfl
  obtain rfl := Option.some.inj (hgn.symm.trans hg9)
  obtain rfl := Option.some.inj ((show (Tryd.prog.globals[0]?).map (·.type) = some 193 by kernel_rfl).symm.trans ht9)
  have hcs : cs9.toList = powTen.map fun z => Value.int .u64 z := Go.Lib.cells_of_tab (k := .u64) (n := 20) (e := 180) (by kernel_rfl) (by kernel_rfl) (by kernel_rfl) (by kernel_rfl) hd9
  intro g hg
  have hg' : some 0 = some g := hg
  cases hg'
  unfold World.var? at hv9
  rw [hgn] at hv9
  simp only [Option.bind_some] at hv9
  split at hv9
  · rename_i cs ty m hb
    cases hv9
    refine ⟨(Array.getElem?_eq_some_iff.1 hb).1, ty, m, ?_⟩
    rw [hb, ← hcs]
  · cases hv9
theorem trustCounts_lifted (os : Os) (started : os.Started) (H : Type) (enc : TypeId × Value → H) :
    ReturnsInHanded {} Tryd.checked os n_law_TrustCounts .any (fun w args => (Rows.trustCountsSpec.pre enc Tryd.prog fn_law_TrustCounts Rows.trustCountsRow.domain false w args ∧ laidMetH Tryd.prog laid3 w) ∧ sizedMet enc Tryd.prog fn_law_TrustCounts (OpenSpec.ofChange Rows.trustCountsSpec) false w args)
      (Rows.trustCountsSpec.post enc Tryd.prog fn_law_TrustCounts false true false false) := by
  refine returnsInHanded_of_change_and (C := Tryd.checked) (X := fun w _ => laidMetH Tryd.prog laid3 w) (fun _ _ _ hh h => h.of_heap hh) own started (by kernel_rfl) hf_law_TrustCounts
    (ChangeSpec.witness_shaped (enc := enc) (C := Tryd.checked) (os := os) (X := fun w _ => laidMetH Tryd.prog laid3 w) false (World.laidAll Tryd.prog os laid3) #[.slice none 0 0, .agg #[.int .i64 0, .slice none 0 0, .int .i64 0], .slice none 0 0, .slice none 0 0, .int .i64 0, .agg #[.int .i64 0, .int .i64 0]] 8 (World.laidAll_os _ _ _)
      (World.shaped_of_ZipB (by kernel_rfl) (by kernel_rfl)) (by kernel_rfl) (by kernel_rfl) (by kernel_rfl)
      (by rw [MakeChecks.laidMetH_plain _ _ _ (by kernel_rfl)]; exact laidMet_laidAll _ (by kernel_rfl) (by kernel_rfl))) ?_
  intro W base args ds gs before hval hW _ hsz hL _
  refine law_calls (P := Tryd.prog) (tab := tab) (m := 12) (ps := [(false, [(.list .signed)]), (true, [.int, (.list .int), .int]), (false, [(.list .int)]), (false, [(.list .int)]), (false, [.int]), (true, [.int, .int])]) laidOut (by kernel_rfl) (by kernel_rfl) (tb := 4) (by kernel_rfl) rfl ?_ trustCounts_calls hval hW hsz (pow_of hL)
  intro ds h
  match ds, h with
  | [d0, d1, d2, d3, d4, d5], _ => exact ⟨rfl, rfl, rfl⟩
theorem trustCounts_holds : Rows.TrustCountsSaid :=
  OpenClaim.holds_of_wide n_law_TrustCounts fn_law_TrustCounts rfl rfl rfl rfl rfl rfl rfl ⟨rfl, rfl, rfl, rfl, rfl⟩ rfl rfl rfl rfl rfl (by kernel_rfl) hf_law_TrustCounts (by kernel_rfl)
    (of_decide_eq_true (by kernel_rfl)) (by unfold Func.isWrapper; first | (rw [if_pos (by decide +kernel)]; kernel_rfl) | (rw [if_neg (by decide +kernel)]; exact ⟨rfl, rfl⟩))
    (fun os started H enc _ => trustCounts_lifted os started H enc)
#print axioms trustCounts_holds
theorem trustCounts_card_holds : Rows.TrustCountsCardSaid :=
  Claim7.holds_tied_plain_at .later [] [.data, .data, .data] true (true, "e1fd43673c3a9212ad12f0619f93528ef2f6c6e71029b67e9d2f92b086de2074") false
    trustCounts_holds (fun _ h => by cases h) (by kernel_rfl) (fun _ h => by cases h) trustCounts_row_tie rfl ⟨rfl, rfl⟩ (by kernel_rfl) rfl
    (fun f fn hf hfn => by
      obtain rfl : f = 7 := Option.some.inj ((show Tryd.prog.funcNamed "wainwright/wainwrightlaw.TrustCounts" = some 7 by kernel_rfl).symm.trans hf) |>.symm
      obtain rfl : fn = Tryd.f7 := (Option.some.inj (Tryd.func7.symm.trans hfn)).symm
      exact ⟨by kernel_rfl, fun j t ht => by
        rw [Tryd.params7] at ht
        have hm : t ∈ [38, 40, 31, 31, 3, 62] := by simpa using Array.mem_of_getElem? ht
        have hall : ([38, 40, 31, 31, 3, 62].all fun u => !Tryd.prog.wantsStandIn u) = true := by kernel_rfl
        exact (show Tryd.prog.wantsStandIn t = false by simpa using List.all_eq_true.1 hall t hm)⟩)
    (by kernel_rfl)
#print axioms trustCounts_card_holds
end Go.Proofs.YtlbppjmekiemiabDoor
