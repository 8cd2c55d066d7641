/- UnitSays: whatever its arguments are, the law answers true, and they read as before. No condition. -/
import Derived.Test.YtlbppjmekiemiacGreatDoorRows
import Derived.Test.YtlbppjmekiemiacGreatDoorCards
import Derived.Test.YtlbppjmekiemiacGreatDoorTie
import Derived.SevenTiedAt
import Derived.LaidMore
import Derived.MakeChecks
import Derived.Lib.LaidTab
import Derived.Lay
import Derived.Test.YtlbppjmekiemiacGreatDoorFUnitSaysc
import Derived.ProofKit
namespace Go.Proofs.YtlbppjmekiemiacGreatDoor
open Vm Go Go.ChangeShapes Go.WideShapes Go.ChangeAt Go.RowKit
theorem own : ownKnob Tryz.prog.godebug = none := by kernel_rfl
theorem laidOut : laidOutB Tryz.prog = true := by kernel_rfl
theorem unitSays_calls (us : List V) (h : ArgsAre [(true, [(.list .str)]), (true, [(.list .int), .int, .bool, .int, .int]), (true, [.int, .int, .int, .int, .int, (.list .int), .bool]), (false, [(.list .int)]), (false, [.int])] us) : AC Tryz.prog tab n_law_UnitSays us [] (.one (.dat .bool true)) [] := by
  obtain ⟨u0, us0, rfl, hu0, h1⟩ := args_cons h
  obtain ⟨cs0, rfl, hs0_0, hz0⟩ := arg_agg hu0
  obtain ⟨b, cs0_0, rfl, hs0_1⟩ := shapes_cons hs0_0
  obtain rfl := shapes_nil hs0_1
  have z_b := hz0 _ (List.mem_of_getElem? (i := 0) rfl)
  obtain ⟨u1, us1, rfl, hu1, h2⟩ := args_cons h1
  obtain ⟨cs1, rfl, hs1_0, hz1⟩ := arg_agg hu1
  obtain ⟨ws, cs1_0, rfl, hs1_1⟩ := shapes_cons hs1_0
  obtain ⟨fu, cs1_1, rfl, hs1_2⟩ := shapes_cons hs1_1
  obtain ⟨up, cs1_2, rfl, hs1_3⟩ := shapes_cons hs1_2
  obtain ⟨un, cs1_3, rfl, hs1_4⟩ := shapes_cons hs1_3
  obtain ⟨ug, cs1_4, rfl, hs1_5⟩ := shapes_cons hs1_4
  obtain rfl := shapes_nil hs1_5
  have z_ws := hz1 _ (List.mem_of_getElem? (i := 0) rfl)
  have z_fu := hz1 _ (List.mem_of_getElem? (i := 1) rfl)
  have z_up := hz1 _ (List.mem_of_getElem? (i := 2) rfl)
  have z_un := hz1 _ (List.mem_of_getElem? (i := 3) rfl)
  have z_ug := hz1 _ (List.mem_of_getElem? (i := 4) rfl)
  obtain ⟨u2, us2, rfl, hu2, h3⟩ := args_cons h2
  obtain ⟨cs2, rfl, hs2_0, hz2⟩ := arg_agg hu2
  obtain ⟨mk, cs2_0, rfl, hs2_1⟩ := shapes_cons hs2_0
  obtain ⟨mu, cs2_1, rfl, hs2_2⟩ := shapes_cons hs2_1
  obtain ⟨mn, cs2_2, rfl, hs2_3⟩ := shapes_cons hs2_2
  obtain ⟨ma, cs2_3, rfl, hs2_4⟩ := shapes_cons hs2_3
  obtain ⟨mi, cs2_4, rfl, hs2_5⟩ := shapes_cons hs2_4
  obtain ⟨mw, cs2_5, rfl, hs2_6⟩ := shapes_cons hs2_5
  obtain ⟨my, cs2_6, rfl, hs2_7⟩ := shapes_cons hs2_6
  obtain rfl := shapes_nil hs2_7
  have z_mk := hz2 _ (List.mem_of_getElem? (i := 0) rfl)
  have z_mu := hz2 _ (List.mem_of_getElem? (i := 1) rfl)
  have z_mn := hz2 _ (List.mem_of_getElem? (i := 2) rfl)
  have z_ma := hz2 _ (List.mem_of_getElem? (i := 3) rfl)
  have z_mi := hz2 _ (List.mem_of_getElem? (i := 4) rfl)
  have z_mw := hz2 _ (List.mem_of_getElem? (i := 5) rfl)
  have z_my := hz2 _ (List.mem_of_getElem? (i := 6) rfl)
  obtain ⟨u3, us3, rfl, hu3, h4⟩ := args_cons h3
  obtain ⟨l, rfl, z_l⟩ := arg_one hu3
  obtain ⟨u4, us4, rfl, hu4, h5⟩ := args_cons h4
  obtain ⟨name, rfl, z_name⟩ := arg_one hu4
  obtain rfl := args_nil h5
  exact sound_law_UnitSays _ _ _ _ _ rfl ⟨by
        have q : b.length * 16 ≤ 140737488351232 := (szc_list z_b).1
        have r : ws.length * 8 ≤ 140737488351232 := (szc_list z_ws).1
        exact ⟨by omega, by simp only [len]; omega, sm_of z_mw, szc_int z_name⟩
      , trivial⟩
set_option maxRecDepth 100000
def laid3 : List (String × DataW Unit) := Rows.unitSaysRow.laid
theorem pow_of {W : World} (h : laidMetH Tryz.prog laid3 W) : PowIs tab W (fun b => b < W.heap.size) := by
  rw [MakeChecks.laidMetH_plain _ _ _ (by kernel_rfl)] at h
  obtain ⟨ps, ⟨_, _, _, _, _, _, _, _, _, _, ⟨_, _, _, _, _, _, _, _, _, _, ⟨g9, t9, cs9, f9, p9, q9, hg9, ht9, hv9, hd9, _, _⟩, _⟩, _⟩, _⟩ := h
  have hgn : Tryz.prog.globalNamed "internal/strconv.uint64pow10" = some 0 := by kernel_rfl
  obtain rfl := Option.some.inj (hgn.symm.trans hg9)
  obtain rfl := Option.some.inj ((show (Tryz.prog.globals[0]?).map (·.type) = some 295 by kernel_rfl).symm.trans ht9)
  have hcs : cs9.toList = powTen.map fun z => Value.int .u64 z := Go.Lib.cells_of_tab (k := .u64) (n := 20) (e := 252) (by kernel_rfl) (by kernel_rfl) (by kernel_rfl) (by kernel_rfl) hd9
  intro g hg
  have hg' : some 0 = some g := hg
  cases hg'
  unfold World.var? at hv9
  rw [hgn] at hv9
  simp only [Option.bind_some] at hv9
  split at hv9
  · rename_i cs ty m hb
    cases hv9
    refine ⟨(Array.getElem?_eq_some_iff.1 hb).1, ty, m, ?_⟩
    rw [hb, ← hcs]
  · cases hv9
theorem unitSays_lifted (os : Os) (started : os.Started) (H : Type) (enc : TypeId × Value → H) :
    ReturnsInHanded {} Tryz.checked os n_law_UnitSays .any (fun w args => (Rows.unitSaysSpec.pre enc Tryz.prog fn_law_UnitSays Rows.unitSaysRow.domain false w args ∧ laidMetH Tryz.prog laid3 w) ∧ sizedMet enc Tryz.prog fn_law_UnitSays (OpenSpec.ofChange Rows.unitSaysSpec) false w args)
      (Rows.unitSaysSpec.post enc Tryz.prog fn_law_UnitSays false true false false) := by
  refine returnsInHanded_of_change_and (C := Tryz.checked) (X := fun w _ => laidMetH Tryz.prog laid3 w) (fun _ _ _ hh h => h.of_heap hh) own started (by kernel_rfl) hf_law_UnitSays
    (ChangeSpec.witness_shaped (enc := enc) (C := Tryz.checked) (os := os) (X := fun w _ => laidMetH Tryz.prog laid3 w) false (World.laidAll Tryz.prog os laid3) #[.agg #[.slice none 0 0], .agg #[.slice none 0 0, .int .i64 0, .bool false, .int .i64 0, .int .i64 0], .agg #[.int .i64 0, .int .i64 0, .int .i64 0, .int .i64 0, .int .i64 0, .slice none 0 0, .bool false], .slice none 0 0, .int .i64 0] 8 (World.laidAll_os _ _ _)
      (World.shaped_of_ZipB (by kernel_rfl) (by kernel_rfl)) (by kernel_rfl) (by kernel_rfl) (by kernel_rfl)
      (by rw [MakeChecks.laidMetH_plain _ _ _ (by kernel_rfl)]; exact laidMet_laidAll _ (by kernel_rfl) (by kernel_rfl))) ?_
  intro W base args ds gs before hval hW _ hsz hL _
  refine law_calls (P := Tryz.prog) (tab := tab) (m := 12) (ps := [(true, [(.list .str)]), (true, [(.list .int), .int, .bool, .int, .int]), (true, [.int, .int, .int, .int, .int, (.list .int), .bool]), (false, [(.list .int)]), (false, [.int])]) laidOut (by kernel_rfl) (by kernel_rfl) (tb := 4) (by kernel_rfl) rfl ?_ unitSays_calls hval hW hsz (pow_of hL)
  intro ds h
  match ds, h with
  | [d0, d1, d2, d3, d4], _ => exact ⟨rfl, rfl, rfl⟩
theorem unitSays_holds : Rows.UnitSaysSaid :=
  OpenClaim.holds_of_wide n_law_UnitSays fn_law_UnitSays rfl rfl rfl rfl rfl rfl rfl ⟨rfl, rfl, rfl, rfl, rfl⟩ rfl rfl rfl rfl rfl (by kernel_rfl) hf_law_UnitSays (by kernel_rfl)
    (of_decide_eq_true (by kernel_rfl)) (by unfold Func.isWrapper; first | (rw [if_pos (by decide +kernel)]; kernel_rfl) | (rw [if_neg (by decide +kernel)]; exact ⟨rfl, rfl⟩))
    (fun os started H enc _ => unitSays_lifted os started H enc)
#print axioms unitSays_holds
theorem unitSays_card_holds : Rows.UnitSaysCardSaid :=
  Claim7.holds_tied_plain_at .later [] [.data, .data, .data] true (true, "b214724d743cc21012fe7b8a7df275217b01135cb5a0e83f52164b45a5880e1d") false
    unitSays_holds (fun _ h => by cases h) (by kernel_rfl) (fun _ h => by cases h) unitSays_row_tie rfl ⟨rfl, rfl⟩ (by kernel_rfl) rfl
    (fun f fn hf hfn => by
      obtain rfl : f = 3 := Option.some.inj ((show Tryz.prog.funcNamed "wainwright/wainwrightlaw.UnitSays" = some 3 by kernel_rfl).symm.trans hf) |>.symm
      obtain rfl : fn = Tryz.f3 := (Option.some.inj (Tryz.func3.symm.trans hfn)).symm
      exact ⟨by kernel_rfl, fun j t ht => by
        rw [Tryz.params3] at ht
        have hm : t ∈ [24, 29, 31, 25, 3] := by simpa using Array.mem_of_getElem? ht
        have hall : ([24, 29, 31, 25, 3].all fun u => !Tryz.prog.wantsStandIn u) = true := by kernel_rfl
        exact (show Tryz.prog.wantsStandIn t = false by simpa using List.all_eq_true.1 hall t hm)⟩)
    (by kernel_rfl)
#print axioms unitSays_card_holds
end Go.Proofs.YtlbppjmekiemiacGreatDoor
