/- GateSays: whatever its arguments are, the law answers true, and they read as before. No condition. -/
import Derived.Test.YtlbppjmekiemiacGreatDoorRows
import Derived.Test.YtlbppjmekiemiacGreatDoorCards
import Derived.Test.YtlbppjmekiemiacGreatDoorTie
import Derived.SevenTiedAt
import Derived.LaidMore
import Derived.MakeChecks
import Derived.Lib.LaidTab
import Derived.Lay
import Derived.Test.YtlbppjmekiemiacGreatDoorFGateSaysc
import Derived.ProofKit
namespace Go.Proofs.YtlbppjmekiemiacGreatDoor
open Vm Go Go.ChangeShapes Go.WideShapes Go.ChangeAt Go.RowKit
theorem own : ownKnob Tryz.prog.godebug = none := by kernel_rfl
theorem laidOut : laidOutB Tryz.prog = true := by kernel_rfl
theorem gateSays_calls (us : List V) (h : ArgsAre [(true, [(.list .str)]), (false, [(.list .signed)]), (true, [(.list .int), .int, .bool, .int, (.list .int), .int, .int, (.list .bool), (.list .bool)]), (true, [(.list .root), (.list (.list .int)), .int, .int, (.list .target), (.list .int), (.list (.list .int))]), (false, [.int]), (true, [.int, (.list .int), .int]), (false, [.int])] us) : AC Tryz.prog tab n_law_GateSays us [] (.one (.dat .bool true)) [] := by
  obtain ⟨u0, us0, rfl, hu0, h1⟩ := args_cons h
  obtain ⟨cs0, rfl, hs0_0, hz0⟩ := arg_agg hu0
  obtain ⟨b, cs0_0, rfl, hs0_1⟩ := shapes_cons hs0_0
  obtain rfl := shapes_nil hs0_1
  have z_b := hz0 _ (List.mem_of_getElem? (i := 0) rfl)
  obtain ⟨u1, us1, rfl, hu1, h2⟩ := args_cons h1
  obtain ⟨l, rfl, z_l⟩ := arg_one hu1
  obtain ⟨u2, us2, rfl, hu2, h3⟩ := args_cons h2
  obtain ⟨cs2, rfl, hs2_0, hz2⟩ := arg_agg hu2
  obtain ⟨ws, cs2_0, rfl, hs2_1⟩ := shapes_cons hs2_0
  obtain ⟨fu, cs2_1, rfl, hs2_2⟩ := shapes_cons hs2_1
  obtain ⟨up, cs2_2, rfl, hs2_3⟩ := shapes_cons hs2_2
  obtain ⟨tv, cs2_3, rfl, hs2_4⟩ := shapes_cons hs2_3
  obtain ⟨tk, cs2_4, rfl, hs2_5⟩ := shapes_cons hs2_4
  obtain ⟨tt, cs2_5, rfl, hs2_6⟩ := shapes_cons hs2_5
  obtain ⟨tn, cs2_6, rfl, hs2_7⟩ := shapes_cons hs2_6
  obtain ⟨vo, cs2_7, rfl, hs2_8⟩ := shapes_cons hs2_7
  obtain ⟨di, cs2_8, rfl, hs2_9⟩ := shapes_cons hs2_8
  obtain rfl := shapes_nil hs2_9
  have z_ws := hz2 _ (List.mem_of_getElem? (i := 0) rfl)
  have z_fu := hz2 _ (List.mem_of_getElem? (i := 1) rfl)
  have z_up := hz2 _ (List.mem_of_getElem? (i := 2) rfl)
  have z_tv := hz2 _ (List.mem_of_getElem? (i := 3) rfl)
  have z_tk := hz2 _ (List.mem_of_getElem? (i := 4) rfl)
  have z_tt := hz2 _ (List.mem_of_getElem? (i := 5) rfl)
  have z_tn := hz2 _ (List.mem_of_getElem? (i := 6) rfl)
  have z_vo := hz2 _ (List.mem_of_getElem? (i := 7) rfl)
  have z_di := hz2 _ (List.mem_of_getElem? (i := 8) rfl)
  obtain ⟨u3, us3, rfl, hu3, h4⟩ := args_cons h3
  obtain ⟨cs3, rfl, hs3_0, hz3⟩ := arg_agg hu3
  obtain ⟨rs, cs3_0, rfl, hs3_1⟩ := shapes_cons hs3_0
  obtain ⟨rg, cs3_1, rfl, hs3_2⟩ := shapes_cons hs3_1
  obtain ⟨ov, cs3_2, rfl, hs3_3⟩ := shapes_cons hs3_2
  obtain ⟨ou, cs3_3, rfl, hs3_4⟩ := shapes_cons hs3_3
  obtain ⟨ts, cs3_4, rfl, hs3_5⟩ := shapes_cons hs3_4
  obtain ⟨sg, cs3_5, rfl, hs3_6⟩ := shapes_cons hs3_5
  obtain ⟨im, cs3_6, rfl, hs3_7⟩ := shapes_cons hs3_6
  obtain rfl := shapes_nil hs3_7
  have z_rs := hz3 _ (List.mem_of_getElem? (i := 0) rfl)
  have z_rg := hz3 _ (List.mem_of_getElem? (i := 1) rfl)
  have z_ov := hz3 _ (List.mem_of_getElem? (i := 2) rfl)
  have z_ou := hz3 _ (List.mem_of_getElem? (i := 3) rfl)
  have z_ts := hz3 _ (List.mem_of_getElem? (i := 4) rfl)
  have z_sg := hz3 _ (List.mem_of_getElem? (i := 5) rfl)
  have z_im := hz3 _ (List.mem_of_getElem? (i := 6) rfl)
  obtain ⟨u4, us4, rfl, hu4, h5⟩ := args_cons h4
  obtain ⟨now, rfl, z_now⟩ := arg_one hu4
  obtain ⟨u5, us5, rfl, hu5, h6⟩ := args_cons h5
  obtain ⟨cs5, rfl, hs5_0, hz5⟩ := arg_agg hu5
  obtain ⟨rv, cs5_0, rfl, hs5_1⟩ := shapes_cons hs5_0
  obtain ⟨rk, cs5_1, rfl, hs5_2⟩ := shapes_cons hs5_1
  obtain ⟨rt, cs5_2, rfl, hs5_3⟩ := shapes_cons hs5_2
  obtain rfl := shapes_nil hs5_3
  have z_rv := hz5 _ (List.mem_of_getElem? (i := 0) rfl)
  have z_rk := hz5 _ (List.mem_of_getElem? (i := 1) rfl)
  have z_rt := hz5 _ (List.mem_of_getElem? (i := 2) rfl)
  obtain ⟨u6, us6, rfl, hu6, h7⟩ := args_cons h6
  obtain ⟨units, rfl, z_units⟩ := arg_one hu6
  obtain rfl := args_nil h7
  exact sound_law_GateSays _ _ _ _ _ rfl ⟨by
        have q : b.length * 16 ≤ 140737488351232 := (szc_list z_b).1
        have q1 : ws.length * 8 ≤ 140737488351232 := (szc_list z_ws).1
        have q2 : tk.length * 8 ≤ 140737488351232 := (szc_list z_tk).1
        have q3 : vo.length * 1 ≤ 140737488351232 := (szc_list z_vo).1
        have q4 : di.length * 1 ≤ 140737488351232 := (szc_list z_di).1
        have q5 : rk.length * 8 ≤ 140737488351232 := (szc_list z_rk).1
        exact ⟨by omega, by simp only [len]; omega, by simp only [len]; omega, by simp only [len]; omega, by simp only [len]; omega, by simp only [len]; omega⟩
      , trivial⟩
set_option maxRecDepth 100000
def laid3 : List (String × DataW Unit) := Rows.gateSaysRow.laid
theorem pow_of {W : World} (h : laidMetH Tryz.prog laid3 W) : PowIs tab W (fun b => b < W.heap.size) := by
  rw [MakeChecks.laidMetH_plain _ _ _ (by kernel_rfl)] at h
  obtain ⟨ps, ⟨_, _, _, _, _, _, _, _, _, _, ⟨_, _, _, _, _, _, _, _, _, _, ⟨g9, t9, cs9, f9, p9, q9, hg9, ht9, hv9, hd9, _, _⟩, _⟩, _⟩, _⟩ := h
  have hgn : Tryz.prog.globalNamed "internal/strconv.uint64pow10" = some 0 := by kernel_rfl
  obtain rfl := Option.some.inj (hgn.symm.trans hg9)
  obtain rfl := Option.some.inj ((show (Tryz.prog.globals[0]?).map (·.type) = some 295 by kernel_rfl).symm.trans ht9)
  have hcs : cs9.toList = powTen.map fun z => Value.int .u64 z := Go.Lib.cells_of_tab (k := .u64) (n := 20) (e := 252) (by kernel_rfl) (by kernel_rfl) (by kernel_rfl) (by kernel_rfl) hd9
  intro g hg
  have hg' : some 0 = some g := hg
  cases hg'
  unfold World.var? at hv9
  rw [hgn] at hv9
  simp only [Option.bind_some] at hv9
  split at hv9
  · rename_i cs ty m hb
    cases hv9
    refine ⟨(Array.getElem?_eq_some_iff.1 hb).1, ty, m, ?_⟩
    rw [hb, ← hcs]
  · cases hv9
theorem gateSays_lifted (os : Os) (started : os.Started) (H : Type) (enc : TypeId × Value → H) :
    ReturnsInHanded {} Tryz.checked os n_law_GateSays .any (fun w args => (Rows.gateSaysSpec.pre enc Tryz.prog fn_law_GateSays Rows.gateSaysRow.domain false w args ∧ laidMetH Tryz.prog laid3 w) ∧ sizedMet enc Tryz.prog fn_law_GateSays (OpenSpec.ofChange Rows.gateSaysSpec) false w args)
      (Rows.gateSaysSpec.post enc Tryz.prog fn_law_GateSays false true false false) := by
  refine returnsInHanded_of_change_and (C := Tryz.checked) (X := fun w _ => laidMetH Tryz.prog laid3 w) (fun _ _ _ hh h => h.of_heap hh) own started (by kernel_rfl) hf_law_GateSays
    (ChangeSpec.witness_shaped (enc := enc) (C := Tryz.checked) (os := os) (X := fun w _ => laidMetH Tryz.prog laid3 w) false (World.laidAll Tryz.prog os laid3) #[.agg #[.slice none 0 0], .slice none 0 0, .agg #[.slice none 0 0, .int .i64 0, .bool false, .int .i64 0, .slice none 0 0, .int .i64 0, .int .i64 0, .slice none 0 0, .slice none 0 0], .agg #[.slice none 0 0, .slice none 0 0, .int .i64 0, .int .i64 0, .slice none 0 0, .slice none 0 0, .slice none 0 0], .int .i64 0, .agg #[.int .i64 0, .slice none 0 0, .int .i64 0], .int .i64 0] 8 (World.laidAll_os _ _ _)
      (World.shaped_of_ZipB (by kernel_rfl) (by kernel_rfl)) (by kernel_rfl) (by kernel_rfl) (by kernel_rfl)
      (by rw [MakeChecks.laidMetH_plain _ _ _ (by kernel_rfl)]; exact laidMet_laidAll _ (by kernel_rfl) (by kernel_rfl))) ?_
  intro W base args ds gs before hval hW _ hsz hL _
  refine law_calls (P := Tryz.prog) (tab := tab) (m := 12) (ps := [(true, [(.list .str)]), (false, [(.list .signed)]), (true, [(.list .int), .int, .bool, .int, (.list .int), .int, .int, (.list .bool), (.list .bool)]), (true, [(.list .root), (.list (.list .int)), .int, .int, (.list .target), (.list .int), (.list (.list .int))]), (false, [.int]), (true, [.int, (.list .int), .int]), (false, [.int])]) laidOut (by kernel_rfl) (by kernel_rfl) (tb := 4) (by kernel_rfl) rfl ?_ gateSays_calls hval hW hsz (pow_of hL)
  intro ds h
  match ds, h with
  | [d0, d1, d2, d3, d4, d5, d6], _ => exact ⟨rfl, rfl, rfl⟩
theorem gateSays_holds : Rows.GateSaysSaid :=
  OpenClaim.holds_of_wide n_law_GateSays fn_law_GateSays rfl rfl rfl rfl rfl rfl rfl ⟨rfl, rfl, rfl, rfl, rfl⟩ rfl rfl rfl rfl rfl (by kernel_rfl) hf_law_GateSays (by kernel_rfl)
    (of_decide_eq_true (by kernel_rfl)) (by unfold Func.isWrapper; first | (rw [if_pos (by decide +kernel)]; kernel_rfl) | (rw [if_neg (by decide +kernel)]; exact ⟨rfl, rfl⟩))
    (fun os started H enc _ => gateSays_lifted os started H enc)
#print axioms gateSays_holds
theorem gateSays_card_holds : Rows.GateSaysCardSaid :=
  Claim7.holds_tied_plain_at .later [] [.data, .data, .data] true (true, "b214724d743cc21012fe7b8a7df275217b01135cb5a0e83f52164b45a5880e1d") false
    gateSays_holds (fun _ h => by cases h) (by kernel_rfl) (fun _ h => by cases h) gateSays_row_tie rfl ⟨rfl, rfl⟩ (by kernel_rfl) rfl
    (fun f fn hf hfn => by
      obtain rfl : f = 5 := Option.some.inj ((show Tryz.prog.funcNamed "wainwright/wainwrightlaw.GateSays" = some 5 by kernel_rfl).symm.trans hf) |>.symm
      obtain rfl : fn = Tryz.f5 := (Option.some.inj (Tryz.func5.symm.trans hfn)).symm
      exact ⟨by kernel_rfl, fun j t ht => by
        rw [Tryz.params5] at ht
        have hm : t ∈ [24, 84, 67, 87, 3, 62, 3] := by simpa using Array.mem_of_getElem? ht
        have hall : ([24, 84, 67, 87, 3, 62, 3].all fun u => !Tryz.prog.wantsStandIn u) = true := by kernel_rfl
        exact (show Tryz.prog.wantsStandIn t = false by simpa using List.all_eq_true.1 hall t hm)⟩)
    (by kernel_rfl)
#print axioms gateSays_card_holds
end Go.Proofs.YtlbppjmekiemiacGreatDoor
