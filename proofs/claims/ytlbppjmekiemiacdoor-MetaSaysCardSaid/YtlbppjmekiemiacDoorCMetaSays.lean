/- MetaSays: whatever its arguments are, the law answers true, and they read as before. No condition. -/
import Derived.Test.YtlbppjmekiemiacDoorRows
import Derived.Test.YtlbppjmekiemiacDoorCards
import Derived.Test.YtlbppjmekiemiacDoorTie
import Derived.SevenTiedAt
import Derived.LaidMore
import Derived.MakeChecks
import Derived.Lib.LaidTab
import Derived.Lay
import Derived.Shelf.Vars
import Derived.FnData
import Derived.Test.YtlbppjmekiemiacDoorFMetaSays
import Derived.ProofKit
namespace Go.Proofs.YtlbppjmekiemiacDoor
open Vm Go Go.ChangeShapes Go.WideShapes Go.ChangeAt Go.RowKit
theorem own : ownKnob Tryd.prog.godebug = none := by kernel_rfl
theorem laidOut : laidOutB Tryd.prog = true := by kernel_rfl
theorem metaSays_calls (us : List V) (h : ArgsAre [(true, [.int, (.list .int), .int]), (true, [.int, .int, (.list .target)]), (false, [(.list .int)]), (false, [.str])] us) : AC Tryd.prog tab n_law_MetaSays us [] (.one (.dat .bool true)) [] := by
  obtain ⟨u0, us0, rfl, hu0, h1⟩ := args_cons h
  obtain ⟨cs0, rfl, hs0_0, hz0⟩ := arg_agg hu0
  obtain ⟨v, cs0_0, rfl, hs0_1⟩ := shapes_cons hs0_0
  obtain ⟨ks, cs0_1, rfl, hs0_2⟩ := shapes_cons hs0_1
  obtain ⟨t, cs0_2, rfl, hs0_3⟩ := shapes_cons hs0_2
  obtain rfl := shapes_nil hs0_3
  have z_v := hz0 _ (List.mem_of_getElem? (i := 0) rfl)
  have z_ks := hz0 _ (List.mem_of_getElem? (i := 1) rfl)
  have z_t := hz0 _ (List.mem_of_getElem? (i := 2) rfl)
  obtain ⟨u1, us1, rfl, hu1, h2⟩ := args_cons h1
  obtain ⟨cs1, rfl, hs1_0, hz1⟩ := arg_agg hu1
  obtain ⟨xv, cs1_0, rfl, hs1_1⟩ := shapes_cons hs1_0
  obtain ⟨xu, cs1_1, rfl, hs1_2⟩ := shapes_cons hs1_1
  obtain ⟨xt, cs1_2, rfl, hs1_3⟩ := shapes_cons hs1_2
  obtain rfl := shapes_nil hs1_3
  have z_xv := hz1 _ (List.mem_of_getElem? (i := 0) rfl)
  have z_xu := hz1 _ (List.mem_of_getElem? (i := 1) rfl)
  have z_xt := hz1 _ (List.mem_of_getElem? (i := 2) rfl)
  obtain ⟨u2, us2, rfl, hu2, h3⟩ := args_cons h2
  obtain ⟨w, rfl, z_w⟩ := arg_one hu2
  obtain ⟨u3, us3, rfl, hu3, h4⟩ := args_cons h3
  obtain ⟨s, rfl, z_s⟩ := arg_one hu3
  obtain rfl := args_nil h4
  exact sound_law_MetaSays _ _ _ _ _ rfl trivial
set_option maxRecDepth 100000
def laid3 : List (String × DataW Unit) := Rows.metaSaysRow.laid
theorem iface_cells {H : Type} {enc : TypeId × Value → H} {P : Program} {w : World} {base : Nat} {sp : Nat → Bool} {held : Bool} {f : Nat} {t : TypeId} {cs : List Value} {ms : Array (String × TypeId)} {x : DataW H × List MemPlace}
    (ht : P.underlying t = some (.interface ms)) (h : DataW.trod enc P w base sp held f t cs = some x) : ∃ ev, cs = [ev] ∧ (ev = .nilIface ∨ ∃ t u, ev = .iface t u) := by
  cases f with
  | zero => simp [DataW.trod] at h
  | succ f =>
    simp only [DataW.trod, ht] at h
    split at h
    all_goals first
      | exact ⟨_, rfl, .inl rfl⟩
      | exact ⟨_, rfl, .inr ⟨_, _, rfl⟩⟩
      | (exfalso; simp_all; done)
theorem iface_of {P : Program} {t : TypeId} (h : (match P.underlying t with | some (.interface _) => true | _ => false) = true) : ∃ ms, P.underlying t = some (.interface ms) := by
  split at h
  · rename_i ms e
    exact ⟨ms, e⟩
  · cases h
theorem pow_of {W : World} (h : laidMetH Tryd.prog laid3 W) (hsh : W.ShapedOpen Tryd.prog) : PowIs tab W (fun b => b < W.heap.size) := by
  rw [MakeChecks.laidMetH_plain _ _ _ (by kernel_rfl)] at h
  obtain ⟨ps, ⟨_, _, _, _, _, _, _, _, _, _, ⟨_, _, _, _, _, _, _, _, _, _, ⟨g9, t9, cs9, f9, p9, q9, hg9, ht9, hv9, hd9, ⟨_, _, _, _, _, _, _, _, _, _, ⟨g8, t8, cs8, f8, p8, q8, hg8, ht8, hv8, hd8, ⟨g7, t7, cs7, f7, p7, q7, hg7, ht7, hv7, hd7, _, _⟩, _⟩, _⟩, _⟩, _⟩, _⟩, _⟩ := h
  have hgn : Tryd.prog.globalNamed "internal/strconv.uint64pow10" = some 2 := by kernel_rfl
  obtain rfl := Option.some.inj (hgn.symm.trans hg9)
  obtain rfl := Option.some.inj ((show (Tryd.prog.globals[2]?).map (·.type) = some 218 by kernel_rfl).symm.trans ht9)
  have hcs : cs9.toList = powTen.map fun z => Value.int .u64 z := Go.Lib.cells_of_tab (k := .u64) (n := 20) (e := 180) (by kernel_rfl) (by kernel_rfl) (by kernel_rfl) (by kernel_rfl) hd9
  have T : PowT tab W (fun b => b < W.heap.size) := by
    intro g hg
    have hg' : some 2 = some g := hg
    cases hg'
    unfold World.var? at hv9
    rw [hgn] at hv9
    simp only [Option.bind_some] at hv9
    split at hv9
    · rename_i cs ty m hb
      cases hv9
      refine ⟨(Array.getElem?_eq_some_iff.1 hb).1, ty, m, ?_⟩
      rw [hb, ← hcs]
    · cases hv9
  have M : MaxT tab W (fun b => b < W.heap.size) := by
    intro g hg
    have hg' : some 3 = some g := hg
    cases hg'
    obtain ⟨m, hm⟩ := cell_of_shapedOpen_int (g := 3) (t := 3) (zero := #[.int .i64 0]) (k := .i64) hsh (of_decide_eq_true (by kernel_rfl)) (by kernel_rfl) rfl (by kernel_rfl) (by kernel_rfl) (by kernel_rfl)
    exact ⟨World.block_lt_of_cell? _ _ hm, m, hm⟩
  have errs : ∀ (n : String) (g t : Nat) (cs : Array Value) (f : Nat) (x : DataW Unit) (p : List MemPlace), Tryd.prog.globalNamed n = some g → (∃ ms, Tryd.prog.underlying t = some (.interface ms)) → W.var? Tryd.prog n = some cs → DataW.trod (fun _ => ()) Tryd.prog W 0 (fun _ => true) false f t cs.toList = some (x, p) → g < W.heap.size ∧ ∃ ev, W.cell? (at0 g 0) = some ev ∧ (ev = .nilIface ∨ ∃ t u, ev = .iface t u) := by
    intro n g t cs f x p hg ht hv hd
    obtain ⟨ms, ht⟩ := ht
    obtain ⟨ev, hc, he⟩ := iface_cells ht hd
    have hcell := World.var?_cell hg hv 0
    have h0 : cs[0]? = some ev := by rw [← Array.getElem?_toList, hc]; rfl
    rw [h0] at hcell
    exact ⟨World.block_lt_of_cell? _ _ hcell, ev, hcell, he⟩
  have hn7 : Tryd.prog.globalNamed "strconv.ErrSyntax" = some 0 := by kernel_rfl
  have hn8 : Tryd.prog.globalNamed "strconv.ErrRange" = some 1 := by kernel_rfl
  obtain rfl := Option.some.inj (hn7.symm.trans hg7)
  obtain rfl := Option.some.inj (hn8.symm.trans hg8)
  obtain rfl := Option.some.inj ((show (Tryd.prog.globals[0]?).map (·.type) = some 118 by kernel_rfl).symm.trans ht7)
  obtain rfl := Option.some.inj ((show (Tryd.prog.globals[1]?).map (·.type) = some 118 by kernel_rfl).symm.trans ht8)
  have hie : ∃ ms, Tryd.prog.underlying 118 = some (.interface ms) := iface_of (by kernel_rfl)
  refine ⟨T, M, fun g hg => ?_⟩
  have hg : g ∈ [0, 1] := hg
  rcases List.mem_cons.1 hg with rfl | hg
  · exact errs _ _ _ _ _ _ _ hn7 hie hv7 hd7
  · obtain rfl := List.mem_singleton.1 hg
    exact errs _ _ _ _ _ _ _ hn8 hie hv8 hd8
theorem metaSays_lifted (os : Os) (started : os.Started) (H : Type) (enc : TypeId × Value → H) :
    ReturnsInHanded {} Tryd.checked os n_law_MetaSays .any (fun w args => (Rows.metaSaysSpec.pre enc Tryd.prog fn_law_MetaSays Rows.metaSaysRow.domain false w args ∧ laidMetH Tryd.prog laid3 w) ∧ sizedMet enc Tryd.prog fn_law_MetaSays (OpenSpec.ofChange Rows.metaSaysSpec) false w args)
      (Rows.metaSaysSpec.post enc Tryd.prog fn_law_MetaSays false true false false) := by
  refine returnsInHanded_of_calls own started (by kernel_rfl)
    (ChangeSpec.witness_shaped (enc := enc) (C := Tryd.checked) (os := os) (X := fun w _ => laidMetH Tryd.prog laid3 w) false (World.laidAll Tryd.prog os laid3) #[.agg #[.int .i64 0, .slice none 0 0, .int .i64 0], .agg #[.int .i64 0, .int .i64 0, .slice none 0 0], .slice none 0 0, .string ⟨#[]⟩] 8 (World.laidAll_os _ _ _)
      (World.shaped_of_ZipB (by kernel_rfl) (by kernel_rfl)) (by kernel_rfl) (by kernel_rfl) (by kernel_rfl)
      (by rw [MakeChecks.laidMetH_plain _ _ _ (by kernel_rfl)]; exact laidMet_laidAll _ (by kernel_rfl) (by kernel_rfl))) ?_
  intro W0 tape i _ hsh _ hok hpre _
  obtain ⟨_, _, _, fn', hfn', _, _, _, _, hval⟩ := hok
  obtain rfl := Option.some.inj (hfn'.symm.trans hf_law_MetaSays)
  obtain ⟨⟨⟨ds, gs, before, hW0, _⟩, hL⟩, hz⟩ := hpre
  have hW := DataW.Whole.of_heap (w' := W0.forCall tape i) (by rfl) hW0
  have hL := laidMetH.of_heap (w' := W0.forCall tape i) (by rfl) hL
  refine Calls.mono (R := fun e W' => ∃ v, e = .returned v ∧ Rows.metaSaysSpec.post enc Tryd.prog fn_law_MetaSays false true false false (W0.forCall tape i) i.args v W') (law_calls (P := Tryd.prog) (tab := tab) (m := 12) (ps := [(true, [.int, (.list .int), .int]), (true, [.int, .int, (.list .target)]), (false, [(.list .int)]), (false, [.str])]) laidOut (by kernel_rfl) (by kernel_rfl) (tb := 4) (by kernel_rfl) rfl ?_ metaSays_calls hval hW (hz.weights hW0) (pow_of hL hsh)) ?_
  rotate_left
  · rintro e W' ⟨v, rfl, hp⟩
    exact ChangeSpec.post_blind hp
  intro ds h
  match ds, h with
  | [d0, d1, d2, d3], _ => exact ⟨rfl, rfl, rfl⟩
theorem metaSays_holds : Rows.MetaSaysSaid :=
  OpenClaim.holds_of_wide n_law_MetaSays fn_law_MetaSays rfl rfl rfl rfl rfl rfl rfl ⟨rfl, rfl, rfl, rfl, rfl⟩ rfl rfl rfl rfl rfl (by kernel_rfl) hf_law_MetaSays (by kernel_rfl)
    (of_decide_eq_true (by kernel_rfl)) (by unfold Func.isWrapper; first | (rw [if_pos (by decide +kernel)]; kernel_rfl) | (rw [if_neg (by decide +kernel)]; exact ⟨rfl, rfl⟩))
    (fun os started H enc _ => metaSays_lifted os started H enc)
#print axioms metaSays_holds
theorem metaSays_card_holds : Rows.MetaSaysCardSaid :=
  Claim7.holds_tied_plain_at .later [] [.data, .data, .data, .data, .sentinel, .sentinel, .pinned] true (true, "3b756515ec838048608a111c51edebaa4ff445733304c3b25cb95e92503f9c60") true
    metaSays_holds (fun _ h => by cases h) (by kernel_rfl) (fun _ h => by cases h) metaSays_row_tie rfl ⟨rfl, rfl⟩ (by kernel_rfl) rfl
    (fun f fn hf hfn => by
      obtain rfl : f = 7 := Option.some.inj ((show Tryd.prog.funcNamed "wainwright/wainwrightlaw.MetaSays" = some 7 by kernel_rfl).symm.trans hf) |>.symm
      obtain rfl : fn = Tryd.f7 := (Option.some.inj (Tryd.func7.symm.trans hfn)).symm
      exact ⟨by kernel_rfl, fun j t ht => by
        rw [Tryd.params7] at ht
        have hm : t ∈ [39, 24, 25, 9] := by simpa using Array.mem_of_getElem? ht
        have hall : ([39, 24, 25, 9].all fun u => !Tryd.prog.wantsStandIn u) = true := by kernel_rfl
        exact (show Tryd.prog.wantsStandIn t = false by simpa using List.all_eq_true.1 hall t hm)⟩)
    (by kernel_rfl)
#print axioms metaSays_card_holds
end Go.Proofs.YtlbppjmekiemiacDoor
