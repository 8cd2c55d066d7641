/- VehicleRuns: whatever its arguments are, the law answers true, and they read as before. No condition. -/
import Derived.Test.YtlbppjmekiemiaaGreatDoorRows
import Derived.Test.YtlbppjmekiemiaaGreatDoorCards
import Derived.Test.YtlbppjmekiemiaaGreatDoorTie
import Derived.SevenTiedAt
import Derived.LaidMore
import Derived.MakeChecks
import Derived.Lib.LaidTab
import Derived.Lay
import Derived.Test.YtlbppjmekiemiaaGreatDoorFVehicleRunse
import Derived.ProofKit
namespace Go.Proofs.YtlbppjmekiemiaaGreatDoor
noncomputable section
open bE Go Go.ChangeShapes Go.WideShapes Go.ChangeAt Go.RowKit
theorem own : ownKnob Tryz.prog.godebug = none := by kernel_rfl
theorem laidOut : laidOutB Tryz.prog = true := by kernel_rfl
theorem aji(us : List V)(h : tO [(true, [(.list .str), (.list .signed), (.list .int), .int, .bool, .int, (.list .int), .int, .int, (.list .bool), (.list .bool), (.list .aT), (.list .aU), (.list .message), .int]), (false, [(.list .fc)])] us) : AC Tryz.prog tab 3 us [] (.one (.E .bool true)) [] := by
  obtain⟨iL, akB, rfl, abP, I⟩ := NW h;obtain⟨ke, rfl, abn, mC⟩ := X5 abP;obtain⟨aM, ajK, rfl, abo⟩ := mi abn;obtain⟨vs, ajL, rfl, abw⟩ := mi abo;obtain⟨ws, ajR, rfl, abx⟩ := mi abw;obtain⟨fu, ajS, rfl, aby⟩ := mi abx;obtain⟨up, ajT, rfl, abz⟩ := mi aby;obtain⟨ak, ajU, rfl, abA⟩ := mi abz;obtain⟨ah, ajV, rfl, abB⟩ := mi abA;obtain⟨aj, ajW, rfl, abC⟩ := mi abB;obtain⟨ai, ajX, rfl, abD⟩ := mi abC;obtain⟨Y, ajY, rfl, abp⟩ := mi abD;obtain⟨aa, ajM, rfl, abq⟩ := mi abp;obtain⟨us, ajN, rfl, abr⟩ := mi abq;obtain⟨cs, ajO, rfl, abt⟩ := mi abr;obtain⟨U, ajP, rfl, abu⟩ := mi abt;obtain⟨now, ajQ, rfl, abv⟩ := mi abu;obtain rfl := agJ abv;have ajy := mC _ (List.mem_of_getElem? (i := 0) rfl);have ajA := mC _ (List.mem_of_getElem? (i := 1) rfl);have ajB := mC _ (List.mem_of_getElem? (i := 2) rfl);have akE := mC _ (List.mem_of_getElem? (i := 3) rfl);have akK := mC _ (List.mem_of_getElem? (i := 4) rfl);have akJ := mC _ (List.mem_of_getElem? (i := 5) rfl);have ajw := mC _ (List.mem_of_getElem? (i := 6) rfl);have akI := mC _ (List.mem_of_getElem? (i := 7) rfl);have akH := mC _ (List.mem_of_getElem? (i := 8) rfl);have ajz := mC _ (List.mem_of_getElem? (i := 9) rfl);have aju := mC _ (List.mem_of_getElem? (i := 10) rfl);have ajx := mC _ (List.mem_of_getElem? (i := 11) rfl);have ajt := mC _ (List.mem_of_getElem? (i := 12) rfl);have ajv := mC _ (List.mem_of_getElem? (i := 13) rfl);have akG := mC _ (List.mem_of_getElem? (i := 14) rfl);obtain⟨gh, akC, rfl, abQ, G⟩ := NW I;obtain⟨ax, rfl, akF⟩ := X6 abQ;obtain rfl := X8 G;exact air _ _ _ _ _ _ _ _ _ _ _ _ _ _ _ _ _ _ _ _ _ (if_pos ⟨rfl, rfl⟩) ⟨by
        exact aiY ajy ajA ajB ajw ajz aju ajx ajt ajv
      , trivial⟩
set_option maxRecDepth 100000
def z8 : List (String×DataW Unit) := Rows.vehicleRunsRow.laid
theorem aeu{gH : World}(h : laidMetH Tryz.prog z8 gH) : qh tab gH (fun b => b < gH.heap.size) := by
  rw[MakeChecks.laidMetH_plain _ _ _ (by kernel_rfl)]at h;obtain⟨ps, ⟨_, _, _, _, _, _, _, _, _, _, ⟨_, _, _, _, _, _, _, _, _, _, ⟨aj0, t9, YT, f9, akx, Vd, aaH, abN, j3, aaj, _, _⟩, _⟩, _⟩, _⟩ := h;have wL : Tryz.prog.globalNamed "internal/strconv.uint64pow10" = some 0 := by kernel_rfl
  obtain rfl := Option.some.inj (wL.symm.trans aaH);obtain rfl := Option.some.inj ((show(Tryz.prog.globals[0]?).map (·.type) = some 295 by kernel_rfl).symm.trans abN);have el : YT.toList = TK.map fun bg => Value.int .u64 bg := Go.Lib.cells_of_tab (k := .u64) (n := 20) (e := 233) (by kernel_rfl) (by kernel_rfl) (by kernel_rfl) (by kernel_rfl) aaj
  have T : NJ tab gH (fun b => b < gH.heap.size) := by
    intro g bs;have ID : some 0 = some g := bs;cases ID;unfold World.var? at j3;rw[wL]at j3;simp only[Option.bind_some]at j3;split at j3
    · rename_i cs ty m aA
      cases j3;refine⟨(Array.getElem?_eq_some_iff.1 aA).1, ty, m, ?_⟩;rw[aA, <- el]
    · cases j3
  exact⟨T, fun g bs => (by have bs : (none : Option Nat) = some g := bs;cases bs), fun g bs => (by have bs : g ∈ ([] : List Nat) := bs;cases bs)⟩
theorem ajj(os : Os)(started : os.Started)(aP : Type)(enc : TypeId×Value -> aP) :
    ReturnsInHanded {} Tryz.checked os 3 .any (fun w args => (Rows.vehicleRunsSpec.pre enc Tryz.prog Tryz.f3 Rows.vehicleRunsRow.domain false w args /\ laidMetH Tryz.prog z8 w) /\ sizedMet enc Tryz.prog Tryz.f3 (OpenSpec.ofChange Rows.vehicleRunsSpec) false w args)
      (Rows.vehicleRunsSpec.post enc Tryz.prog Tryz.f3 false true false false) := by
  refine returnsInHanded_of_change_and (C := Tryz.checked) (X := fun w _ => laidMetH Tryz.prog z8 w) (fun _ _ _ dn h => h.of_heap dn) own started (by kernel_rfl) Tryz.func3
    (ChangeSpec.witness_shaped (enc := enc) (C := Tryz.checked) (os := os) (X := fun w _ => laidMetH Tryz.prog z8 w) false (World.laidAll Tryz.prog os z8) #[.agg #[.slice none 0 0, .slice none 0 0, .slice none 0 0, .int .i64 0, .bool false, .int .i64 0, .slice none 0 0, .int .i64 0, .int .i64 0, .slice none 0 0, .slice none 0 0, .slice none 0 0, .slice none 0 0, .slice none 0 0, .int .i64 0], .slice none 0 0] 8 (World.laidAll_os _ _ _)
      (World.shaped_of_ZipB (by kernel_rfl) (by kernel_rfl)) (by kernel_rfl) (by kernel_rfl) (by kernel_rfl)
      (by rw[MakeChecks.laidMetH_plain _ _ _ (by kernel_rfl)];exact laidMet_laidAll _ (by kernel_rfl) (by kernel_rfl))) ?_
  intro gH base args ds gs before Jb sQ _ fs sP _;refine acs (P := Tryz.prog) (tab := tab) (m := 12) (ps := [(true, [(.list .str), (.list .signed), (.list .int), .int, .bool, .int, (.list .int), .int, .int, (.list .bool), (.list .bool), (.list .aT), (.list .aU), (.list .message), .int]), (false, [(.list .fc)])]) laidOut (by kernel_rfl) (by kernel_rfl) (tb := 4) (by kernel_rfl) rfl ?_ aji Jb sQ fs (aeu sP);intro ds h
  match ds, h with
  |[d0, d1], _ => exact⟨rfl, rfl, rfl⟩
theorem vehicleRuns_holds : Rows.VehicleRunsSaid :=
  OpenClaim.holds_of_wide 3 Tryz.f3 rfl rfl rfl rfl rfl rfl rfl ⟨rfl, rfl, rfl, rfl, rfl⟩ rfl rfl rfl rfl rfl (by kernel_rfl) Tryz.func3 (by kernel_rfl)
    (of_decide_eq_true (by kernel_rfl)) (by unfold Func.isWrapper;first|(rw[if_pos (by decide +kernel)];kernel_rfl)|(rw[if_neg (by decide +kernel)];exact⟨rfl, rfl⟩))
    (fun os started aP enc _ => ajj os started aP enc)
#print axioms vehicleRuns_holds
theorem vehicleRuns_card_holds : Rows.VehicleRunsCardSaid :=
  Claim7.holds_tied_plain_at .later [] [.data, .data, .data] true (true, "51bafd2d642da03011c726838587ddf08921964f1da6e6d1f321497fe0b1da66") false
    vehicleRuns_holds (fun _ h => by cases h) (by kernel_rfl) (fun _ h => by cases h) vehicleRuns_row_tie rfl ⟨rfl, rfl⟩ (by kernel_rfl) rfl
    (fun f fn b1 eP => by
      obtain rfl : f = 3 := Option.some.inj ((show Tryz.prog.funcNamed "wainwright/wainwrightlaw.VehicleRuns" = some 3 by kernel_rfl).symm.trans b1) |>.symm;obtain rfl : fn = Tryz.f3 := (Option.some.inj (Tryz.func3.symm.trans eP)).symm;exact⟨by kernel_rfl, fun j t bl => by
        rw[Tryz.params3]at bl;have aB : t ∈ [40, 41] := by simpa using Array.mem_of_getElem? bl
        have kF : ([40, 41].all fun u => !Tryz.prog.wantsStandIn u) = true := by kernel_rfl
        exact(show Tryz.prog.wantsStandIn t = false by simpa using List.all_eq_true.1 kF t aB)⟩)
    (by kernel_rfl)
#print axioms vehicleRuns_card_holds
end
end Go.Proofs.YtlbppjmekiemiaaGreatDoor
