/- VehicleNet: whatever its arguments are, the law answers true, and they read as before. No condition. -/
import Derived.Test.YtlbppjmekiemiadGreatDoorRows
import Derived.Test.YtlbppjmekiemiadGreatDoorCards
import Derived.Test.YtlbppjmekiemiadGreatDoorTie
import Derived.SevenTiedAt
import Derived.LaidMore
import Derived.MakeChecks
import Derived.Lib.LaidTab
import Derived.Lay
import Derived.Test.YtlbppjmekiemiadGreatDoorFVehicleNetd
import Derived.ProofKit
namespace Go.Proofs.YtlbppjmekiemiadGreatDoor
open Vm Go Go.ChangeShapes Go.WideShapes Go.ChangeAt Go.RowKit
theorem own : ownKnob Tryz.prog.godebug = none := by kernel_rfl
theorem laidOut : laidOutB Tryz.prog = true := by kernel_rfl
theorem vehicleNet_calls (us : List V) (h : ArgsAre [(true, [(.list .str), (.list .signed), (.list .int), .int, .bool, .int, (.list .int), .int, .int, (.list .bool), (.list .bool), (.list .unitd), (.list .campaign), (.list .message), .int]), (false, [.int])] us) : AC Tryz.prog tab n_q261 us [] (.one (.dat .bool true)) [] := by
  obtain ⟨u0, us0, rfl, hu0, h1⟩ := args_cons h
  obtain ⟨cs0, rfl, hs0_0, hz0⟩ := arg_agg hu0
  obtain ⟨vb, cs0_0, rfl, hs0_1⟩ := shapes_cons hs0_0
  obtain ⟨vs, cs0_1, rfl, hs0_2⟩ := shapes_cons hs0_1
  obtain ⟨ws, cs0_2, rfl, hs0_3⟩ := shapes_cons hs0_2
  obtain ⟨fu, cs0_3, rfl, hs0_4⟩ := shapes_cons hs0_3
  obtain ⟨up, cs0_4, rfl, hs0_5⟩ := shapes_cons hs0_4
  obtain ⟨tv, cs0_5, rfl, hs0_6⟩ := shapes_cons hs0_5
  obtain ⟨tk, cs0_6, rfl, hs0_7⟩ := shapes_cons hs0_6
  obtain ⟨tt, cs0_7, rfl, hs0_8⟩ := shapes_cons hs0_7
  obtain ⟨tn, cs0_8, rfl, hs0_9⟩ := shapes_cons hs0_8
  obtain ⟨vo, cs0_9, rfl, hs0_10⟩ := shapes_cons hs0_9
  obtain ⟨di, cs0_10, rfl, hs0_11⟩ := shapes_cons hs0_10
  obtain ⟨us, cs0_11, rfl, hs0_12⟩ := shapes_cons hs0_11
  obtain ⟨cs, cs0_12, rfl, hs0_13⟩ := shapes_cons hs0_12
  obtain ⟨net, cs0_13, rfl, hs0_14⟩ := shapes_cons hs0_13
  obtain ⟨now, cs0_14, rfl, hs0_15⟩ := shapes_cons hs0_14
  obtain rfl := shapes_nil hs0_15
  have z_vb := hz0 _ (List.mem_of_getElem? (i := 0) rfl)
  have z_vs := hz0 _ (List.mem_of_getElem? (i := 1) rfl)
  have z_ws := hz0 _ (List.mem_of_getElem? (i := 2) rfl)
  have z_fu := hz0 _ (List.mem_of_getElem? (i := 3) rfl)
  have z_up := hz0 _ (List.mem_of_getElem? (i := 4) rfl)
  have z_tv := hz0 _ (List.mem_of_getElem? (i := 5) rfl)
  have z_tk := hz0 _ (List.mem_of_getElem? (i := 6) rfl)
  have z_tt := hz0 _ (List.mem_of_getElem? (i := 7) rfl)
  have z_tn := hz0 _ (List.mem_of_getElem? (i := 8) rfl)
  have z_vo := hz0 _ (List.mem_of_getElem? (i := 9) rfl)
  have z_di := hz0 _ (List.mem_of_getElem? (i := 10) rfl)
  have z_us := hz0 _ (List.mem_of_getElem? (i := 11) rfl)
  have z_cs := hz0 _ (List.mem_of_getElem? (i := 12) rfl)
  have z_net := hz0 _ (List.mem_of_getElem? (i := 13) rfl)
  have z_now := hz0 _ (List.mem_of_getElem? (i := 14) rfl)
  obtain ⟨u1, us1, rfl, hu1, h2⟩ := args_cons h1
  obtain ⟨k, rfl, z_k⟩ := arg_one hu1
  obtain rfl := args_nil h2
  exact sound_q261 _ _ _ _ _ rfl trivial
set_option maxRecDepth 100000
def laid3 : List (String × DataW Unit) := Rows.vehicleNetRow.laid
theorem pow_of {W : World} (h : laidMetH Tryz.prog laid3 W) : PowIs tab W (fun b => b < W.heap.size) := by
  rw [MakeChecks.laidMetH_plain _ _ _ (by kernel_rfl)] at h
  obtain ⟨ps, ⟨_, _, _, _, _, _, _, _, _, _, ⟨_, _, _, _, _, _, _, _, _, _, ⟨g9, t9, cs9, f9, p9, q9, hg9, ht9, hv9, hd9, _, _⟩, _⟩, _⟩, _⟩ := h
  have hgn : Tryz.prog.globalNamed "internal/strconv.uint64pow10" = some 0 := by kernel_rfl
  obtain rfl := Option.some.inj (hgn.symm.trans hg9)
  obtain rfl := Option.some.inj ((show (Tryz.prog.globals[0]?).map (·.type) = some 253 by kernel_rfl).symm.trans ht9)
  have hcs : cs9.toList = powTen.map fun z => Value.int .u64 z := Go.Lib.cells_of_tab (k := .u64) (n := 20) (e := 180) (by kernel_rfl) (by kernel_rfl) (by kernel_rfl) (by kernel_rfl) hd9
  intro g hg
  have hg' : some 0 = some g := hg
  cases hg'
  unfold World.var? at hv9
  rw [hgn] at hv9
  simp only [Option.bind_some] at hv9
  split at hv9
  · rename_i cs ty m hb
    cases hv9
    refine ⟨(Array.getElem?_eq_some_iff.1 hb).1, ty, m, ?_⟩
    rw [hb, ← hcs]
  · cases hv9
theorem vehicleNet_lifted (os : Os) (started : os.Started) (H : Type) (enc : TypeId × Value → H) :
    ReturnsInHanded {} Tryz.checked os n_q261 .any (fun w args => (Rows.vehicleNetSpec.pre enc Tryz.prog fn_q261 Rows.vehicleNetRow.domain false w args ∧ laidMetH Tryz.prog laid3 w) ∧ sizedMet enc Tryz.prog fn_q261 (OpenSpec.ofChange Rows.vehicleNetSpec) false w args)
      (Rows.vehicleNetSpec.post enc Tryz.prog fn_q261 false true false false) := by
  refine returnsInHanded_of_change_and (C := Tryz.checked) (X := fun w _ => laidMetH Tryz.prog laid3 w) (fun _ _ _ hh h => h.of_heap hh) own started (by kernel_rfl) hf_q261
    (ChangeSpec.witness_shaped (enc := enc) (C := Tryz.checked) (os := os) (X := fun w _ => laidMetH Tryz.prog laid3 w) false (World.laidAll Tryz.prog os laid3) #[.agg #[.slice none 0 0, .slice none 0 0, .slice none 0 0, .int .i64 0, .bool false, .int .i64 0, .slice none 0 0, .int .i64 0, .int .i64 0, .slice none 0 0, .slice none 0 0, .slice none 0 0, .slice none 0 0, .slice none 0 0, .int .i64 0], .int .i64 0] 8 (World.laidAll_os _ _ _)
      (World.shaped_of_ZipB (by kernel_rfl) (by kernel_rfl)) (by kernel_rfl) (by kernel_rfl) (by kernel_rfl)
      (by rw [MakeChecks.laidMetH_plain _ _ _ (by kernel_rfl)]; exact laidMet_laidAll _ (by kernel_rfl) (by kernel_rfl))) ?_
  intro W base args ds gs before hval hW _ hsz hL _
  refine law_calls (P := Tryz.prog) (tab := tab) (m := 12) (ps := [(true, [(.list .str), (.list .signed), (.list .int), .int, .bool, .int, (.list .int), .int, .int, (.list .bool), (.list .bool), (.list .unitd), (.list .campaign), (.list .message), .int]), (false, [.int])]) laidOut (by kernel_rfl) (by kernel_rfl) (tb := 4) (by kernel_rfl) rfl ?_ vehicleNet_calls hval hW hsz (pow_of hL)
  intro ds h
  match ds, h with
  | [d0, d1], _ => exact ⟨rfl, rfl, rfl⟩
theorem vehicleNet_holds : Rows.VehicleNetSaid :=
  OpenClaim.holds_of_wide n_q261 fn_q261 rfl rfl rfl rfl rfl rfl rfl ⟨rfl, rfl, rfl, rfl, rfl⟩ rfl rfl rfl rfl rfl (by kernel_rfl) hf_q261 (by kernel_rfl)
    (of_decide_eq_true (by kernel_rfl)) (by unfold Func.isWrapper; first | (rw [if_pos (by decide +kernel)]; kernel_rfl) | (rw [if_neg (by decide +kernel)]; exact ⟨rfl, rfl⟩))
    (fun os started H enc _ => vehicleNet_lifted os started H enc)
#print axioms vehicleNet_holds
theorem vehicleNet_card_holds : Rows.VehicleNetCardSaid :=
  Claim7.holds_tied_plain_at .later [] [.data, .data, .data] true (true, "245010f9257027e2cc5411c94596a03f117d313dd6eec2ace139497cb1d00dfd") false
    vehicleNet_holds (fun _ h => by cases h) (by kernel_rfl) (fun _ h => by cases h) vehicleNet_row_tie rfl ⟨rfl, rfl⟩ (by kernel_rfl) rfl
    (fun f fn hf hfn => by
      obtain rfl : f = 3 := Option.some.inj ((show Tryz.prog.funcNamed "wainwright/wainwrightlaw.VehicleNet" = some 3 by kernel_rfl).symm.trans hf) |>.symm
      obtain rfl : fn = Tryz.f3 := (Option.some.inj (Tryz.func3.symm.trans hfn)).symm
      exact ⟨by kernel_rfl, fun j t ht => by
        rw [Tryz.params3] at ht
        have hm : t ∈ [40, 3] := by simpa using Array.mem_of_getElem? ht
        have hall : ([40, 3].all fun u => !Tryz.prog.wantsStandIn u) = true := by kernel_rfl
        exact (show Tryz.prog.wantsStandIn t = false by simpa using List.all_eq_true.1 hall t hm)⟩)
    (by kernel_rfl)
#print axioms vehicleNet_card_holds
end Go.Proofs.YtlbppjmekiemiadGreatDoor
