/- GateOnce: whatever its arguments are, the law answers true, and they read as before. No condition. -/
import Derived.Test.YtlbppjmekiemiacDoorRows
import Derived.Test.YtlbppjmekiemiacDoorCards
import Derived.Test.YtlbppjmekiemiacDoorTie
import Derived.SevenTiedAt
import Derived.LaidMore
import Derived.MakeChecks
import Derived.Lib.LaidTab
import Derived.Lay
import Derived.Test.YtlbppjmekiemiacDoorFGateOnceb
import Derived.ProofKit
namespace Go.Proofs.YtlbppjmekiemiacDoor
open Vm Go Go.ChangeShapes Go.WideShapes Go.ChangeAt Go.RowKit
theorem own : ownKnob Tryd.prog.godebug = none := by kernel_rfl
theorem laidOut : laidOutB Tryd.prog = true := by kernel_rfl
theorem gateOnce_calls (us : List V) (h : ArgsAre [(true, [(.list .int), .int, .bool, .int, (.list .int), .int, .int, (.list .bool), (.list .bool)]), (true, [.int, .int, .int, .int, .int, (.list .int), .bool]), (false, [.int]), (false, [.bool])] us) : AC Tryd.prog tab n_law_GateOnce us [] (.one (.dat .bool true)) [] := by
  obtain ⟨u0, us0, rfl, hu0, h1⟩ := args_cons h
  obtain ⟨cs0, rfl, hs0_0, hz0⟩ := arg_agg hu0
  obtain ⟨ws, cs0_0, rfl, hs0_1⟩ := shapes_cons hs0_0
  obtain ⟨fu, cs0_1, rfl, hs0_2⟩ := shapes_cons hs0_1
  obtain ⟨up, cs0_2, rfl, hs0_3⟩ := shapes_cons hs0_2
  obtain ⟨tv, cs0_3, rfl, hs0_4⟩ := shapes_cons hs0_3
  obtain ⟨tk, cs0_4, rfl, hs0_5⟩ := shapes_cons hs0_4
  obtain ⟨tt, cs0_5, rfl, hs0_6⟩ := shapes_cons hs0_5
  obtain ⟨tn, cs0_6, rfl, hs0_7⟩ := shapes_cons hs0_6
  obtain ⟨vo, cs0_7, rfl, hs0_8⟩ := shapes_cons hs0_7
  obtain ⟨di, cs0_8, rfl, hs0_9⟩ := shapes_cons hs0_8
  obtain rfl := shapes_nil hs0_9
  have z_ws := hz0 _ (List.mem_of_getElem? (i := 0) rfl)
  have z_fu := hz0 _ (List.mem_of_getElem? (i := 1) rfl)
  have z_up := hz0 _ (List.mem_of_getElem? (i := 2) rfl)
  have z_tv := hz0 _ (List.mem_of_getElem? (i := 3) rfl)
  have z_tk := hz0 _ (List.mem_of_getElem? (i := 4) rfl)
  have z_tt := hz0 _ (List.mem_of_getElem? (i := 5) rfl)
  have z_tn := hz0 _ (List.mem_of_getElem? (i := 6) rfl)
  have z_vo := hz0 _ (List.mem_of_getElem? (i := 7) rfl)
  have z_di := hz0 _ (List.mem_of_getElem? (i := 8) rfl)
  obtain ⟨u1, us1, rfl, hu1, h2⟩ := args_cons h1
  obtain ⟨cs1, rfl, hs1_0, hz1⟩ := arg_agg hu1
  obtain ⟨mk, cs1_0, rfl, hs1_1⟩ := shapes_cons hs1_0
  obtain ⟨mu, cs1_1, rfl, hs1_2⟩ := shapes_cons hs1_1
  obtain ⟨mn, cs1_2, rfl, hs1_3⟩ := shapes_cons hs1_2
  obtain ⟨ma, cs1_3, rfl, hs1_4⟩ := shapes_cons hs1_3
  obtain ⟨mi, cs1_4, rfl, hs1_5⟩ := shapes_cons hs1_4
  obtain ⟨mw, cs1_5, rfl, hs1_6⟩ := shapes_cons hs1_5
  obtain ⟨my, cs1_6, rfl, hs1_7⟩ := shapes_cons hs1_6
  obtain rfl := shapes_nil hs1_7
  have z_mk := hz1 _ (List.mem_of_getElem? (i := 0) rfl)
  have z_mu := hz1 _ (List.mem_of_getElem? (i := 1) rfl)
  have z_mn := hz1 _ (List.mem_of_getElem? (i := 2) rfl)
  have z_ma := hz1 _ (List.mem_of_getElem? (i := 3) rfl)
  have z_mi := hz1 _ (List.mem_of_getElem? (i := 4) rfl)
  have z_mw := hz1 _ (List.mem_of_getElem? (i := 5) rfl)
  have z_my := hz1 _ (List.mem_of_getElem? (i := 6) rfl)
  obtain ⟨u2, us2, rfl, hu2, h3⟩ := args_cons h2
  obtain ⟨fuel, rfl, z_fuel⟩ := arg_one hu2
  obtain ⟨u3, us3, rfl, hu3, h4⟩ := args_cons h3
  obtain ⟨give, rfl, z_give⟩ := arg_one hu3
  obtain rfl := args_nil h4
  exact sound_law_GateOnce _ _ _ _ _ rfl ⟨by
        exact szc_int z_fuel
      , trivial⟩
set_option maxRecDepth 100000
def laid3 : List (String × DataW Unit) := Rows.gateOnceRow.laid
theorem pow_of {W : World} (h : laidMetH Tryd.prog laid3 W) : PowIs tab W (fun b => b < W.heap.size) := by
  rw [MakeChecks.laidMetH_plain _ _ _ (by kernel_rfl)] at h
  obtain ⟨ps, ⟨_, _, _, _, _, _, _, _, _, _, ⟨_, _, _, _, _, _, _, _, _, _, ⟨g9, t9, cs9, f9, p9, q9, hg9, ht9, hv9, hd9, _, _⟩, _⟩, _⟩, _⟩ := h
  have hgn : Tryd.prog.globalNamed "internal/strconv.uint64pow10" = some 2 := by kernel_rfl
  obtain rfl := Option.some.inj (hgn.symm.trans hg9)
  obtain rfl := Option.some.inj ((show (Tryd.prog.globals[2]?).map (·.type) = some 218 by kernel_rfl).symm.trans ht9)
  have hcs : cs9.toList = powTen.map fun z => Value.int .u64 z := Go.Lib.cells_of_tab (k := .u64) (n := 20) (e := 180) (by kernel_rfl) (by kernel_rfl) (by kernel_rfl) (by kernel_rfl) hd9
  intro g hg
  have hg' : some 2 = some g := hg
  cases hg'
  unfold World.var? at hv9
  rw [hgn] at hv9
  simp only [Option.bind_some] at hv9
  split at hv9
  · rename_i cs ty m hb
    cases hv9
    refine ⟨(Array.getElem?_eq_some_iff.1 hb).1, ty, m, ?_⟩
    rw [hb, ← hcs]
  · cases hv9
theorem gateOnce_lifted (os : Os) (started : os.Started) (H : Type) (enc : TypeId × Value → H) :
    ReturnsInHanded {} Tryd.checked os n_law_GateOnce .any (fun w args => (Rows.gateOnceSpec.pre enc Tryd.prog fn_law_GateOnce Rows.gateOnceRow.domain false w args ∧ laidMetH Tryd.prog laid3 w) ∧ sizedMet enc Tryd.prog fn_law_GateOnce (OpenSpec.ofChange Rows.gateOnceSpec) false w args)
      (Rows.gateOnceSpec.post enc Tryd.prog fn_law_GateOnce false true false false) := by
  refine returnsInHanded_of_change_and (C := Tryd.checked) (X := fun w _ => laidMetH Tryd.prog laid3 w) (fun _ _ _ hh h => h.of_heap hh) own started (by kernel_rfl) hf_law_GateOnce
    (ChangeSpec.witness_shaped (enc := enc) (C := Tryd.checked) (os := os) (X := fun w _ => laidMetH Tryd.prog laid3 w) false (World.laidAll Tryd.prog os laid3) #[.agg #[.slice none 0 0, .int .i64 0, .bool false, .int .i64 0, .slice none 0 0, .int .i64 0, .int .i64 0, .slice none 0 0, .slice none 0 0], .agg #[.int .i64 0, .int .i64 0, .int .i64 0, .int .i64 0, .int .i64 0, .slice none 0 0, .bool false], .int .i64 0, .bool false] 8 (World.laidAll_os _ _ _)
      (World.shaped_of_ZipB (by kernel_rfl) (by kernel_rfl)) (by kernel_rfl) (by kernel_rfl) (by kernel_rfl)
      (by rw [MakeChecks.laidMetH_plain _ _ _ (by kernel_rfl)]; exact laidMet_laidAll _ (by kernel_rfl) (by kernel_rfl))) ?_
  intro W base args ds gs before hval hW _ hsz hL _
  refine law_calls (P := Tryd.prog) (tab := tab) (m := 12) (ps := [(true, [(.list .int), .int, .bool, .int, (.list .int), .int, .int, (.list .bool), (.list .bool)]), (true, [.int, .int, .int, .int, .int, (.list .int), .bool]), (false, [.int]), (false, [.bool])]) laidOut (by kernel_rfl) (by kernel_rfl) (tb := 4) (by kernel_rfl) rfl ?_ gateOnce_calls hval hW hsz (pow_of hL)
  intro ds h
  match ds, h with
  | [d0, d1, d2, d3], _ => exact ⟨rfl, rfl, rfl⟩
theorem gateOnce_holds : Rows.GateOnceSaid :=
  OpenClaim.holds_of_wide n_law_GateOnce fn_law_GateOnce rfl rfl rfl rfl rfl rfl rfl ⟨rfl, rfl, rfl, rfl, rfl⟩ rfl rfl rfl rfl rfl (by kernel_rfl) hf_law_GateOnce (by kernel_rfl)
    (of_decide_eq_true (by kernel_rfl)) (by unfold Func.isWrapper; first | (rw [if_pos (by decide +kernel)]; kernel_rfl) | (rw [if_neg (by decide +kernel)]; exact ⟨rfl, rfl⟩))
    (fun os started H enc _ => gateOnce_lifted os started H enc)
#print axioms gateOnce_holds
theorem gateOnce_card_holds : Rows.GateOnceCardSaid :=
  Claim7.holds_tied_plain_at .later [] [.data, .data, .data] true (true, "3b756515ec838048608a111c51edebaa4ff445733304c3b25cb95e92503f9c60") true
    gateOnce_holds (fun _ h => by cases h) (by kernel_rfl) (fun _ h => by cases h) gateOnce_row_tie rfl ⟨rfl, rfl⟩ (by kernel_rfl) rfl
    (fun f fn hf hfn => by
      obtain rfl : f = 5 := Option.some.inj ((show Tryd.prog.funcNamed "wainwright/wainwrightlaw.GateOnce" = some 5 by kernel_rfl).symm.trans hf) |>.symm
      obtain rfl : fn = Tryd.f5 := (Option.some.inj (Tryd.func5.symm.trans hfn)).symm
      exact ⟨by kernel_rfl, fun j t ht => by
        rw [Tryd.params5] at ht
        have hm : t ∈ [44, 56, 3, 4] := by simpa using Array.mem_of_getElem? ht
        have hall : ([44, 56, 3, 4].all fun u => !Tryd.prog.wantsStandIn u) = true := by kernel_rfl
        exact (show Tryd.prog.wantsStandIn t = false by simpa using List.all_eq_true.1 hall t hm)⟩)
    (by kernel_rfl)
#print axioms gateOnce_card_holds
end Go.Proofs.YtlbppjmekiemiacDoor
