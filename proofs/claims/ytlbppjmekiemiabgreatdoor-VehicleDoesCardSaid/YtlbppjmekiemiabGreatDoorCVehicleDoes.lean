/- VehicleDoes: whatever its arguments are, the law answers true, and they read as before. No condition. -/
import Derived.Test.YtlbppjmekiemiabGreatDoorRows
import Derived.Test.YtlbppjmekiemiabGreatDoorCards
import Derived.Test.YtlbppjmekiemiabGreatDoorTie
import Derived.SevenTiedAt
import Derived.LaidMore
import Derived.MakeChecks
import Derived.Lib.LaidTab
import Derived.Lay
import Derived.Test.YtlbppjmekiemiabGreatDoorFVehicleDoese
import Derived.ProofKit
namespace Go.Proofs.YtlbppjmekiemiabGreatDoor
noncomputable section
open bF Go Go.ChangeShapes Go.WideShapes Go.ChangeAt Go.RowKit
theorem own : ownKnob Tryz.prog.godebug = none := by kernel_rfl
theorem laidOut : laidOutB Tryz.prog = true := by kernel_rfl
theorem alP(us : List V)(h : uN [(true, [(.list .str), (.list .signed), (.list .int), .int, .bool, .int, (.list .int), .int, .int, (.list .bool), (.list .bool), (.list .aO), (.list .aP), (.list .message), .int]), (true, [.int, .int, .int, (.list .root), (.list (.list .int)), .int, .int, (.list .target), (.list .int), (.list (.list .int))]), (true, [(.list .str)]), (false, [(.list .signed)]), (true, [.int, (.list .int), .int]), (false, [(.list (.list .int))]), (true, [(.list .str), (.list .signed), (.list .int), .int, .bool, .int, (.list .int), .int, .int, (.list .bool), (.list .bool), (.list .aO), (.list .aP), (.list .message), .int])] us) : AC Tryz.prog tab 3 us [] (.one (.E .bool true)) [] := by
  obtain⟨jb, anJ, rfl, aed, I⟩ := u3 h;obtain⟨kz, rfl, adf, ng⟩ := zP aed;obtain⟨aJ, ami, rfl, adg⟩ := fP adf;obtain⟨vs, amj, rfl, adn⟩ := fP adg;obtain⟨ws, amp, rfl, ado⟩ := fP adn;obtain⟨fu, amq, rfl, adp⟩ := fP ado;obtain⟨up, amr, rfl, adq⟩ := fP adp;obtain⟨al, ams, rfl, adr⟩ := fP adq;obtain⟨ah, amt, rfl, ads⟩ := fP adr;obtain⟨ak, amu, rfl, adt⟩ := fP ads;obtain⟨aj, amv, rfl, adu⟩ := fP adt;obtain⟨aa, amw, rfl, adh⟩ := fP adu;obtain⟨ab, amk, rfl, adi⟩ := fP adh;obtain⟨us, aml, rfl, adj⟩ := fP adi;obtain⟨cs, amm, rfl, adk⟩ := fP adj;obtain⟨W, amn, rfl, adl⟩ := fP adk;obtain⟨now, amo, rfl, adm⟩ := fP adl;obtain rfl := BU adm;have al6 := ng _ (List.mem_of_getElem? (i := 0) rfl);have al8 := ng _ (List.mem_of_getElem? (i := 1) rfl);have al9 := ng _ (List.mem_of_getElem? (i := 2) rfl);have anT := ng _ (List.mem_of_getElem? (i := 3) rfl);have aoj := ng _ (List.mem_of_getElem? (i := 4) rfl);have aoh := ng _ (List.mem_of_getElem? (i := 5) rfl);have al4 := ng _ (List.mem_of_getElem? (i := 6) rfl);have aof := ng _ (List.mem_of_getElem? (i := 7) rfl);have aoc := ng _ (List.mem_of_getElem? (i := 8) rfl);have al7 := ng _ (List.mem_of_getElem? (i := 9) rfl);have al1 := ng _ (List.mem_of_getElem? (i := 10) rfl);have al5 := ng _ (List.mem_of_getElem? (i := 11) rfl);have al0 := ng _ (List.mem_of_getElem? (i := 12) rfl);have al2 := ng _ (List.mem_of_getElem? (i := 13) rfl);have an2 := ng _ (List.mem_of_getElem? (i := 14) rfl);obtain⟨gi, anK, rfl, aee, G⟩ := u3 I;obtain⟨rb, rfl, adv, mJ⟩ := zP aee;obtain⟨ae, amx, rfl, adw⟩ := fP adv;obtain⟨hu, amy, rfl, ady⟩ := fP adw;obtain⟨aq, amz, rfl, adz⟩ := fP ady;obtain⟨rs, amA, rfl, adA⟩ := fP adz;obtain⟨rg, amB, rfl, adB⟩ := fP adA;obtain⟨bE, amC, rfl, adC⟩ := fP adB;obtain⟨bY, amD, rfl, adD⟩ := fP adC;obtain⟨ts, amE, rfl, adE⟩ := fP adD;obtain⟨a5, amF, rfl, adF⟩ := fP adE;obtain⟨a8, amG, rfl, adx⟩ := fP adF;obtain rfl := BU adx;have anV := mJ _ (List.mem_of_getElem? (i := 0) rfl);have anX := mJ _ (List.mem_of_getElem? (i := 1) rfl);have anW := mJ _ (List.mem_of_getElem? (i := 2) rfl);have an7 := mJ _ (List.mem_of_getElem? (i := 3) rfl);have an6 := mJ _ (List.mem_of_getElem? (i := 4) rfl);have an5 := mJ _ (List.mem_of_getElem? (i := 5) rfl);have an4 := mJ _ (List.mem_of_getElem? (i := 6) rfl);have aoe := mJ _ (List.mem_of_getElem? (i := 7) rfl);have aoa := mJ _ (List.mem_of_getElem? (i := 8) rfl);have anY := mJ _ (List.mem_of_getElem? (i := 9) rfl);obtain⟨jc, mX, rfl, aef, Y⟩ := u3 G;obtain⟨mu, rfl, adG, Ko⟩ := zP aef;obtain⟨b, amH, rfl, adH⟩ := fP adG;obtain rfl := BU adH;have anQ := Ko _ (List.mem_of_getElem? (i := 0) rfl);obtain⟨NU, anL, rfl, aeg, aS⟩ := u3 Y;obtain⟨l, rfl, an0⟩ := Pc aeg;obtain⟨iR, anM, rfl, aeh, bj⟩ := u3 aS;obtain⟨amI, rfl, adI, Kp⟩ := zP aeh;obtain⟨fM, amJ, rfl, adJ⟩ := fP adI;obtain⟨fg, amK, rfl, adK⟩ := fP adJ;obtain⟨rt, amL, rfl, adL⟩ := fP adK;obtain rfl := BU adL;have an9 := Kp _ (List.mem_of_getElem? (i := 0) rfl);have al3 := Kp _ (List.mem_of_getElem? (i := 1) rfl);have an8 := Kp _ (List.mem_of_getElem? (i := 2) rfl);obtain⟨anG, anN, rfl, aei, bK⟩ := u3 bj;obtain⟨mL, rfl, anZ⟩ := Pc aei;obtain⟨anH, anO, rfl, aej, c4⟩ := u3 bK;obtain⟨amM, rfl, adM, nh⟩ := zP aej;obtain⟨nx, amN, rfl, adN⟩ := fP adM;obtain⟨ny, amO, rfl, adU⟩ := fP adN;obtain⟨iB, amU, rfl, adV⟩ := fP adU;obtain⟨il, amV, rfl, adW⟩ := fP adV;obtain⟨iA, amW, rfl, adX⟩ := fP adW;obtain⟨ll, amX, rfl, adY⟩ := fP adX;obtain⟨lh, amY, rfl, adZ⟩ := fP adY;obtain⟨lk, amZ, rfl, ad0⟩ := fP adZ;obtain⟨lj, am0, rfl, ad1⟩ := fP ad0;obtain⟨lp, am1, rfl, adO⟩ := fP ad1;obtain⟨kY, amP, rfl, adP⟩ := fP adO;obtain⟨mX, amQ, rfl, adQ⟩ := fP adP;obtain⟨mu, amR, rfl, adR⟩ := fP adQ;obtain⟨nk, amS, rfl, adS⟩ := fP adR;obtain⟨nl, amT, rfl, adT⟩ := fP adS;obtain rfl := BU adT;have aom := nh _ (List.mem_of_getElem? (i := 0) rfl);have aoo := nh _ (List.mem_of_getElem? (i := 1) rfl);have aop := nh _ (List.mem_of_getElem? (i := 2) rfl);have anU := nh _ (List.mem_of_getElem? (i := 3) rfl)
  have aok := nh _ (List.mem_of_getElem? (i := 4) rfl);have aoi := nh _ (List.mem_of_getElem? (i := 5) rfl);have aob := nh _ (List.mem_of_getElem? (i := 6) rfl);have aog := nh _ (List.mem_of_getElem? (i := 7) rfl);have aod := nh _ (List.mem_of_getElem? (i := 8) rfl);have aon := nh _ (List.mem_of_getElem? (i := 9) rfl);have anS := nh _ (List.mem_of_getElem? (i := 10) rfl);have aol := nh _ (List.mem_of_getElem? (i := 11) rfl);have anR := nh _ (List.mem_of_getElem? (i := 12) rfl);have an1 := nh _ (List.mem_of_getElem? (i := 13) rfl);have an3 := nh _ (List.mem_of_getElem? (i := 14) rfl);obtain rfl := ZQ c4;exact akV _ _ _ _ _ _ _ _ _ _ _ _ _ _ _ _ _ _ _ _ _ _ _ _ _ _ _ _ _ _ _ _ _ _ _ _ _ _ _ _ _ _ _ _ _ _ _ _ _ _ _ (if_pos ⟨rfl, rfl⟩) ⟨by
        have q : fg.length * 8 <= 140737488351232 := (NP al3).1;exact⟨alu al6 al8 al9 al4 al7 al1 al5 al0 al2, by simp only[len];omega⟩
      , trivial⟩
set_option maxRecDepth 100000
def A9 : List (String×DataW Unit) := Rows.vehicleDoesRow.laid
theorem agR{gN : World}(h : laidMetH Tryz.prog A9 gN) : qZ tab gN (fun b => b < gN.heap.size) := by
  rw[MakeChecks.laidMetH_plain _ _ _ (by kernel_rfl)]at h;obtain⟨ps, ⟨_, _, _, _, _, _, _, _, _, _, ⟨_, _, _, _, _, _, _, _, _, _, ⟨am3, t9, aaA, f9, anD, WO, acx, aeb, jY, ab6, _, _⟩, _⟩, _⟩, _⟩ := h;have xA : Tryz.prog.globalNamed "internal/strconv.uint64pow10" = some 0 := by kernel_rfl
  obtain rfl := Option.some.inj (xA.symm.trans acx);obtain rfl := Option.some.inj ((show(Tryz.prog.globals[0]?).map (·.type) = some 297 by kernel_rfl).symm.trans aeb);have en : aaA.toList = Vh.map fun bg => Value.int .u64 bg := Go.Lib.cells_of_tab (k := .u64) (n := 20) (e := 248) (by kernel_rfl) (by kernel_rfl) (by kernel_rfl) (by kernel_rfl) ab6
  have T : OY tab gN (fun b => b < gN.heap.size) := by
    intro g bt;have JP : some 0 = some g := bt;cases JP;unfold World.var? at jY;rw[xA]at jY;simp only[Option.bind_some]at jY;split at jY
    · rename_i cs ty m ay
      cases jY;refine⟨(Array.getElem?_eq_some_iff.1 ay).1, ty, m, ?_⟩;rw[ay, <- en]
    · cases jY
  exact⟨T, fun g bt => (by have bt : (none : Option Nat) = some g := bt;cases bt), fun g bt => (by have bt : g ∈ ([] : List Nat) := bt;cases bt)⟩
theorem alQ(os : Os)(started : os.Started)(aQ : Type)(enc : TypeId×Value -> aQ) :
    ReturnsInHanded {} Tryz.checked os 3 .any (fun w args => (Rows.vehicleDoesSpec.pre enc Tryz.prog Tryz.f3 Rows.vehicleDoesRow.domain false w args /\ laidMetH Tryz.prog A9 w) /\ sizedMet enc Tryz.prog Tryz.f3 (OpenSpec.ofChange Rows.vehicleDoesSpec) false w args)
      (Rows.vehicleDoesSpec.post enc Tryz.prog Tryz.f3 false true false false) := by
  refine returnsInHanded_of_change_and (C := Tryz.checked) (X := fun w _ => laidMetH Tryz.prog A9 w) (fun _ _ _ dd h => h.of_heap dd) own started (by kernel_rfl) Tryz.func3
    (ChangeSpec.witness_shaped (enc := enc) (C := Tryz.checked) (os := os) (X := fun w _ => laidMetH Tryz.prog A9 w) false (World.laidAll Tryz.prog os A9) #[.agg #[.slice none 0 0, .slice none 0 0, .slice none 0 0, .int .i64 0, .bool false, .int .i64 0, .slice none 0 0, .int .i64 0, .int .i64 0, .slice none 0 0, .slice none 0 0, .slice none 0 0, .slice none 0 0, .slice none 0 0, .int .i64 0], .agg #[.int .i64 0, .int .i64 0, .int .i64 0, .slice none 0 0, .slice none 0 0, .int .i64 0, .int .i64 0, .slice none 0 0, .slice none 0 0, .slice none 0 0], .agg #[.slice none 0 0], .slice none 0 0, .agg #[.int .i64 0, .slice none 0 0, .int .i64 0], .slice none 0 0, .agg #[.slice none 0 0, .slice none 0 0, .slice none 0 0, .int .i64 0, .bool false, .int .i64 0, .slice none 0 0, .int .i64 0, .int .i64 0, .slice none 0 0, .slice none 0 0, .slice none 0 0, .slice none 0 0, .slice none 0 0, .int .i64 0]] 8 (World.laidAll_os _ _ _)
      (World.shaped_of_ZipB (by kernel_rfl) (by kernel_rfl)) (by kernel_rfl) (by kernel_rfl) (by kernel_rfl)
      (by rw[MakeChecks.laidMetH_plain _ _ _ (by kernel_rfl)];exact laidMet_laidAll _ (by kernel_rfl) (by kernel_rfl))) ?_
  intro gN base args ds gs before Ki tG _ fw tF _;refine aeR (P := Tryz.prog) (tab := tab) (m := 12) (ps := [(true, [(.list .str), (.list .signed), (.list .int), .int, .bool, .int, (.list .int), .int, .int, (.list .bool), (.list .bool), (.list .aO), (.list .aP), (.list .message), .int]), (true, [.int, .int, .int, (.list .root), (.list (.list .int)), .int, .int, (.list .target), (.list .int), (.list (.list .int))]), (true, [(.list .str)]), (false, [(.list .signed)]), (true, [.int, (.list .int), .int]), (false, [(.list (.list .int))]), (true, [(.list .str), (.list .signed), (.list .int), .int, .bool, .int, (.list .int), .int, .int, (.list .bool), (.list .bool), (.list .aO), (.list .aP), (.list .message), .int])]) laidOut (by kernel_rfl) (by kernel_rfl) (tb := 4) (by kernel_rfl) rfl ?_ alP Ki tG fw (agR tF);intro ds h
  match ds, h with
  |[d0, d1, d2, d3, d4, d5, d6], _ => exact⟨rfl, rfl, rfl⟩
theorem vehicleDoes_holds : Rows.VehicleDoesSaid :=
  OpenClaim.holds_of_wide 3 Tryz.f3 rfl rfl rfl rfl rfl rfl rfl ⟨rfl, rfl, rfl, rfl, rfl⟩ rfl rfl rfl rfl rfl (by kernel_rfl) Tryz.func3 (by kernel_rfl)
    (of_decide_eq_true (by kernel_rfl)) (by unfold Func.isWrapper;first|(rw[if_pos (by decide +kernel)];kernel_rfl)|(rw[if_neg (by decide +kernel)];exact⟨rfl, rfl⟩))
    (fun os started aQ enc _ => alQ os started aQ enc)
#print axioms vehicleDoes_holds
theorem vehicleDoes_card_holds : Rows.VehicleDoesCardSaid :=
  Claim7.holds_tied_plain_at .later [] [.data, .data, .data] true (true, "cdd3be983cc1f3932b2dd6b0a8d14f64edf35b8cec21a78b061a3bfc8f2e9fbb") false
    vehicleDoes_holds (fun _ h => by cases h) (by kernel_rfl) (fun _ h => by cases h) vehicleDoes_row_tie rfl ⟨rfl, rfl⟩ (by kernel_rfl) rfl
    (fun f fn b6 dW => by
      obtain rfl : f = 3 := Option.some.inj ((show Tryz.prog.funcNamed "wainwright/wainwrightlaw.VehicleDoes" = some 3 by kernel_rfl).symm.trans b6) |>.symm;obtain rfl : fn = Tryz.f3 := (Option.some.inj (Tryz.func3.symm.trans dW)).symm;exact⟨by kernel_rfl, fun j t bm => by
        rw[Tryz.params3]at bm;have aB : t ∈ [40, 49, 24, 25, 30, 42, 40] := by simpa using Array.mem_of_getElem? bm
        have k7 : ([40, 49, 24, 25, 30, 42, 40].all fun u => !Tryz.prog.wantsStandIn u) = true := by kernel_rfl
        exact(show Tryz.prog.wantsStandIn t = false by simpa using List.all_eq_true.1 k7 t aB)⟩)
    (by kernel_rfl)
#print axioms vehicleDoes_card_holds
end
end Go.Proofs.YtlbppjmekiemiabGreatDoor
