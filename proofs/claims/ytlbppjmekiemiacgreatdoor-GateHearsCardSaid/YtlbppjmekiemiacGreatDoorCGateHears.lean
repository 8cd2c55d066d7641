/- GateHears: whatever its arguments are, the law answers true, and they read as before. No condition. -/
import Derived.Test.YtlbppjmekiemiacGreatDoorRows
import Derived.Test.YtlbppjmekiemiacGreatDoorCards
import Derived.Test.YtlbppjmekiemiacGreatDoorTie
import Derived.SevenTiedAt
import Derived.LaidMore
import Derived.MakeChecks
import Derived.Lib.LaidTab
import Derived.Lay
import Derived.Test.YtlbppjmekiemiacGreatDoorFGateHearsc
import Derived.ProofKit
namespace Go.Proofs.YtlbppjmekiemiacGreatDoor
open Vm Go Go.ChangeShapes Go.WideShapes Go.ChangeAt Go.RowKit
theorem own : ownKnob Tryz.prog.godebug = none := by kernel_rfl
theorem laidOut : laidOutB Tryz.prog = true := by kernel_rfl
theorem gateHears_calls (us : List V) (h : ArgsAre [(true, [(.list .int), .int, .bool, .int, (.list .int), .int, .int, (.list .bool), (.list .bool)]), (true, [.int, .int, .int, (.list .target), (.list (.list .int))]), (false, [.int]), (true, [.int, .int, .int, .int, .int, (.list .int), .bool])] us) : AC Tryz.prog tab n_q216 us [] (.one (.dat .bool true)) [] := by
  obtain ⟨u0, us0, rfl, hu0, h1⟩ := args_cons h
  obtain ⟨cs0, rfl, hs0_0, hz0⟩ := arg_agg hu0
  obtain ⟨ws, cs0_0, rfl, hs0_1⟩ := shapes_cons hs0_0
  obtain ⟨fu, cs0_1, rfl, hs0_2⟩ := shapes_cons hs0_1
  obtain ⟨up, cs0_2, rfl, hs0_3⟩ := shapes_cons hs0_2
  obtain ⟨tv, cs0_3, rfl, hs0_4⟩ := shapes_cons hs0_3
  obtain ⟨tk, cs0_4, rfl, hs0_5⟩ := shapes_cons hs0_4
  obtain ⟨tt, cs0_5, rfl, hs0_6⟩ := shapes_cons hs0_5
  obtain ⟨tn, cs0_6, rfl, hs0_7⟩ := shapes_cons hs0_6
  obtain ⟨vo, cs0_7, rfl, hs0_8⟩ := shapes_cons hs0_7
  obtain ⟨di, cs0_8, rfl, hs0_9⟩ := shapes_cons hs0_8
  obtain rfl := shapes_nil hs0_9
  have z_ws := hz0 _ (List.mem_of_getElem? (i := 0) rfl)
  have z_fu := hz0 _ (List.mem_of_getElem? (i := 1) rfl)
  have z_up := hz0 _ (List.mem_of_getElem? (i := 2) rfl)
  have z_tv := hz0 _ (List.mem_of_getElem? (i := 3) rfl)
  have z_tk := hz0 _ (List.mem_of_getElem? (i := 4) rfl)
  have z_tt := hz0 _ (List.mem_of_getElem? (i := 5) rfl)
  have z_tn := hz0 _ (List.mem_of_getElem? (i := 6) rfl)
  have z_vo := hz0 _ (List.mem_of_getElem? (i := 7) rfl)
  have z_di := hz0 _ (List.mem_of_getElem? (i := 8) rfl)
  obtain ⟨u1, us1, rfl, hu1, h2⟩ := args_cons h1
  obtain ⟨cs1, rfl, hs1_0, hz1⟩ := arg_agg hu1
  obtain ⟨cn, cs1_0, rfl, hs1_1⟩ := shapes_cons hs1_0
  obtain ⟨cv, cs1_1, rfl, hs1_2⟩ := shapes_cons hs1_1
  obtain ⟨cu, cs1_2, rfl, hs1_3⟩ := shapes_cons hs1_2
  obtain ⟨ct, cs1_3, rfl, hs1_4⟩ := shapes_cons hs1_3
  obtain ⟨ci, cs1_4, rfl, hs1_5⟩ := shapes_cons hs1_4
  obtain rfl := shapes_nil hs1_5
  have z_cn := hz1 _ (List.mem_of_getElem? (i := 0) rfl)
  have z_cv := hz1 _ (List.mem_of_getElem? (i := 1) rfl)
  have z_cu := hz1 _ (List.mem_of_getElem? (i := 2) rfl)
  have z_ct := hz1 _ (List.mem_of_getElem? (i := 3) rfl)
  have z_ci := hz1 _ (List.mem_of_getElem? (i := 4) rfl)
  obtain ⟨u2, us2, rfl, hu2, h3⟩ := args_cons h2
  obtain ⟨which, rfl, z_which⟩ := arg_one hu2
  obtain ⟨u3, us3, rfl, hu3, h4⟩ := args_cons h3
  obtain ⟨cs3, rfl, hs3_0, hz3⟩ := arg_agg hu3
  obtain ⟨mk, cs3_0, rfl, hs3_1⟩ := shapes_cons hs3_0
  obtain ⟨mu, cs3_1, rfl, hs3_2⟩ := shapes_cons hs3_1
  obtain ⟨mn, cs3_2, rfl, hs3_3⟩ := shapes_cons hs3_2
  obtain ⟨ma, cs3_3, rfl, hs3_4⟩ := shapes_cons hs3_3
  obtain ⟨mi, cs3_4, rfl, hs3_5⟩ := shapes_cons hs3_4
  obtain ⟨mw, cs3_5, rfl, hs3_6⟩ := shapes_cons hs3_5
  obtain ⟨my, cs3_6, rfl, hs3_7⟩ := shapes_cons hs3_6
  obtain rfl := shapes_nil hs3_7
  have z_mk := hz3 _ (List.mem_of_getElem? (i := 0) rfl)
  have z_mu := hz3 _ (List.mem_of_getElem? (i := 1) rfl)
  have z_mn := hz3 _ (List.mem_of_getElem? (i := 2) rfl)
  have z_ma := hz3 _ (List.mem_of_getElem? (i := 3) rfl)
  have z_mi := hz3 _ (List.mem_of_getElem? (i := 4) rfl)
  have z_mw := hz3 _ (List.mem_of_getElem? (i := 5) rfl)
  have z_my := hz3 _ (List.mem_of_getElem? (i := 6) rfl)
  obtain rfl := args_nil h4
  exact sound_q216 _ _ _ _ _ rfl ⟨by
        have q1 : ws.length * 8 ≤ 140737488351232 := (szc_list z_ws).1
        have q2 : tk.length * 8 ≤ 140737488351232 := (szc_list z_tk).1
        have q3 : vo.length * 1 ≤ 140737488351232 := (szc_list z_vo).1
        have q4 : di.length * 1 ≤ 140737488351232 := (szc_list z_di).1
        have q5 : ct.length * 24 ≤ 140737488351232 := (szc_list z_ct).1
        have q6 : ci.length * 24 ≤ 140737488351232 := (szc_list z_ci).1
        exact ⟨by simp only [len]; omega, by simp only [len]; omega, by simp only [len]; omega, by simp only [len]; omega, by omega, by omega⟩
      , trivial⟩
set_option maxRecDepth 100000
def laid3 : List (String × DataW Unit) := Rows.gateHearsRow.laid
theorem pow_of {W : World} (h : laidMetH Tryz.prog laid3 W) : PowIs tab W (fun b => b < W.heap.size) := by
  rw [MakeChecks.laidMetH_plain _ _ _ (by kernel_rfl)] at h
  obtain ⟨ps, ⟨_, _, _, _, _, _, _, _, _, _, ⟨_, _, _, _, _, _, _, _, _, _, ⟨g9, t9, cs9, f9, p9, q9, hg9, ht9, hv9, hd9, _, _⟩, _⟩, _⟩, _⟩ := h
  have hgn : Tryz.prog.globalNamed "internal/strconv.uint64pow10" = some 0 := by kernel_rfl
  obtain rfl := Option.some.inj (hgn.symm.trans hg9)
  obtain rfl := Option.some.inj ((show (Tryz.prog.globals[0]?).map (·.type) = some 295 by kernel_rfl).symm.trans ht9)
  have hcs : cs9.toList = powTen.map fun z => Value.int .u64 z := Go.Lib.cells_of_tab (k := .u64) (n := 20) (e := 252) (by kernel_rfl) (by kernel_rfl) (by kernel_rfl) (by kernel_rfl) hd9
  have T : PowT tab W (fun b => b < W.heap.size) := by
    intro g hg
    have hg' : some 0 = some g := hg
    cases hg'
    unfold World.var? at hv9
    rw [hgn] at hv9
    simp only [Option.bind_some] at hv9
    split at hv9
    · rename_i cs ty m hb
      cases hv9
      refine ⟨(Array.getElem?_eq_some_iff.1 hb).1, ty, m, ?_⟩
      rw [hb, ← hcs]
    · cases hv9
  exact ⟨T, fun g hg => (by have hg : (none : Option Nat) = some g := hg; cases hg), fun g hg => (by have hg : g ∈ ([] : List Nat) := hg; cases hg)⟩
theorem gateHears_lifted (os : Os) (started : os.Started) (H : Type) (enc : TypeId × Value → H) :
    ReturnsInHanded {} Tryz.checked os n_q216 .any (fun w args => (Rows.gateHearsSpec.pre enc Tryz.prog fn_q216 Rows.gateHearsRow.domain false w args ∧ laidMetH Tryz.prog laid3 w) ∧ sizedMet enc Tryz.prog fn_q216 (OpenSpec.ofChange Rows.gateHearsSpec) false w args)
      (Rows.gateHearsSpec.post enc Tryz.prog fn_q216 false true false false) := by
  refine returnsInHanded_of_change_and (C := Tryz.checked) (X := fun w _ => laidMetH Tryz.prog laid3 w) (fun _ _ _ hh h => h.of_heap hh) own started (by kernel_rfl) hg_q216.hf
    (ChangeSpec.witness_shaped (enc := enc) (C := Tryz.checked) (os := os) (X := fun w _ => laidMetH Tryz.prog laid3 w) false (World.laidAll Tryz.prog os laid3) #[.agg #[.slice none 0 0, .int .i64 0, .bool false, .int .i64 0, .slice none 0 0, .int .i64 0, .int .i64 0, .slice none 0 0, .slice none 0 0], .agg #[.int .i64 0, .int .i64 0, .int .i64 0, .slice none 0 0, .slice none 0 0], .int .i64 0, .agg #[.int .i64 0, .int .i64 0, .int .i64 0, .int .i64 0, .int .i64 0, .slice none 0 0, .bool false]] 8 (World.laidAll_os _ _ _)
      (World.shaped_of_ZipB (by kernel_rfl) (by kernel_rfl)) (by kernel_rfl) (by kernel_rfl) (by kernel_rfl)
      (by rw [MakeChecks.laidMetH_plain _ _ _ (by kernel_rfl)]; exact laidMet_laidAll _ (by kernel_rfl) (by kernel_rfl))) ?_
  intro W base args ds gs before hval hW _ hsz hL _
  refine law_calls (P := Tryz.prog) (tab := tab) (m := 12) (ps := [(true, [(.list .int), .int, .bool, .int, (.list .int), .int, .int, (.list .bool), (.list .bool)]), (true, [.int, .int, .int, (.list .target), (.list (.list .int))]), (false, [.int]), (true, [.int, .int, .int, .int, .int, (.list .int), .bool])]) laidOut (by kernel_rfl) (by kernel_rfl) (tb := 4) (by kernel_rfl) rfl ?_ gateHears_calls hval hW hsz (pow_of hL)
  intro ds h
  match ds, h with
  | [d0, d1, d2, d3], _ => exact ⟨rfl, rfl, rfl⟩
theorem gateHears_holds : Rows.GateHearsSaid :=
  OpenClaim.holds_of_wide n_q216 fn_q216 rfl rfl rfl rfl rfl rfl rfl ⟨rfl, rfl, rfl, rfl, rfl⟩ rfl rfl rfl rfl rfl (by kernel_rfl) hg_q216.hf (by kernel_rfl)
    (of_decide_eq_true (by kernel_rfl)) (by unfold Func.isWrapper; first | (rw [if_pos (by decide +kernel)]; kernel_rfl) | (rw [if_neg (by decide +kernel)]; exact ⟨rfl, rfl⟩))
    (fun os started H enc _ => gateHears_lifted os started H enc)
#print axioms gateHears_holds
theorem gateHears_card_holds : Rows.GateHearsCardSaid :=
  Claim7.holds_tied_plain_at .later [] [.data, .data, .data] true (true, "b214724d743cc21012fe7b8a7df275217b01135cb5a0e83f52164b45a5880e1d") false
    gateHears_holds (fun _ h => by cases h) (by kernel_rfl) (fun _ h => by cases h) gateHears_row_tie rfl ⟨rfl, rfl⟩ (by kernel_rfl) rfl
    (fun f fn hf hfn => by
      obtain rfl : f = 4 := Option.some.inj ((show Tryz.prog.funcNamed "wainwright/wainwrightlaw.GateHears" = some 4 by kernel_rfl).symm.trans hf) |>.symm
      obtain rfl : fn = Tryz.f4 := (Option.some.inj (Tryz.func4.symm.trans hfn)).symm
      exact ⟨by kernel_rfl, fun j t ht => by
        rw [Tryz.params4] at ht
        have hm : t ∈ [67, 73, 3, 31] := by simpa using Array.mem_of_getElem? ht
        have hall : ([67, 73, 3, 31].all fun u => !Tryz.prog.wantsStandIn u) = true := by kernel_rfl
        exact (show Tryz.prog.wantsStandIn t = false by simpa using List.all_eq_true.1 hall t hm)⟩)
    (by kernel_rfl)
#print axioms gateHears_card_holds
end Go.Proofs.YtlbppjmekiemiacGreatDoor
