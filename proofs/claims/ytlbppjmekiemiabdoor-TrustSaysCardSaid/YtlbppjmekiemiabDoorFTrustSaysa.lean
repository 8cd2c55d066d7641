/- What the functions of TrustSays compute (part 1 of 2). No condition. -/
import Derived.Test.YtlbppjmekiemiabDoorTab
import Derived.Test.YtlbppjmekiemiabDoorSpec
import Derived.KernelRfl
import Derived.Test.YtlbppjmekiemiabDoorShelf
/- strconv.Itoa: the shelf's contract as one of ours. The number is no less than 0. -/
namespace Go.Proofs.YtlbppjmekiemiabDoor
open Go.RowKit Go.Lib Go.Sort Vm
def c_strconv_Itoa : Contract := fun vs bs => match vs, bs with
  | [.one (.dat .int n)], [] => some (some (0 ≤ n ∧ n ≤ 9223372036854775807), .one (.dat .str (numT n)), [])
  | _, _ => none
theorem sound_strconv_Itoa : SoundC Tryd.prog tab n_strconv_Itoa c_strconv_Itoa := by
  intro vs bs p v bs' h hp w S μ xs I hx
  unfold c_strconv_Itoa at h
  split at h
  · cases h
    rename_i n
    obtain ⟨⟨h1, h2⟩, _⟩ := hp
    have h1 : (0 : Int) ≤ n := h1
    have h2 : (n : Int) ≤ 9223372036854775807 := h2
    match xs, hx with
    | [X], ⟨g1, _⟩ =>
      have e1 := rel_int g1
      subst e1
      obtain ⟨g, hg⟩ : ∃ g, tab.pow = some g := ⟨_, rfl⟩
      obtain ⟨_, ty, m, hb⟩ := I.pow g hg
      have htab : Go.Lib.TabIs Tryd.prog w "internal/strconv.uint64pow10" .u64 Go.Lib.pow10Tab := by
        have hgn : Tryd.prog.globalNamed "internal/strconv.uint64pow10" = tab.pow := by kernel_rfl
        unfold Go.Lib.TabIs World.var?
        rw [hgn, hg]
        simp only [Option.bind_some, hb]
        rfl
      refine (Tryd.strconv_Itoa n (by omega) h2 w htab).mono fun e w' ⟨he, k, os, hw⟩ => ?_
      subst hw he
      have hsz : (grow (w.drewN k) os).heap = w.heap ++ os := rfl
      have E : Ext μ (memL []) w S μ (memL []) (grow (w.drewN k) os) S := ⟨fun _ h => h, (Ext.refl (μ := μ) (mem := memL []) (w := w) (S := S)).kinds, fun _ h => h, by rw [hsz]; simp, fun b hb _ => by rw [hsz, Array.getElem?_append_left hb], fun _ h => .inl h, fun _ h => .inl h, rfl, rfl, rfl⟩
      refine ⟨_, μ, S, rfl, E, ⟨fun r B h => by simp [memL] at h, fun r r' _ ⟨B, h, _⟩ => by simp [memL] at h, fun r ⟨B, h, _⟩ => by simp [memL] at h, fun b hb => Nat.lt_of_lt_of_le (I.lt b hb) E.size, I.powExt E⟩, ?_⟩
      rw [itoa_eq h1 h2]
      exact mk_str _
  · cases h
end Go.Proofs.YtlbppjmekiemiabDoor

/- strings.Join: the shelf's contract as one of ours. What comes of it is no longer than memory holds. -/
namespace Go.Proofs.YtlbppjmekiemiabDoor
open Go.RowKit Go.Lib Vm
theorem below_EI {μ : Mu} {w w' : World} {S : Nat → Prop} (I : Inv tab μ (memL []) w S) (hb : Below w.heap.size w w') : Ext μ (memL []) w S μ (memL []) w' S ∧ Inv tab μ (memL []) w' S := by
  have E : Ext μ (memL []) w S μ (memL []) w' S := ⟨fun _ h => h, (Ext.refl (μ := μ) (mem := memL []) (w := w) (S := S)).kinds, fun _ h => h, hb.size, fun b hlt _ => hb.block b hlt, fun _ h => .inl h, fun _ h => .inl h, hb.os, hb.tape, hb.output⟩
  exact ⟨E, ⟨fun r B h => by simp [memL] at h, fun r r' _ ⟨B, h, _⟩ => by simp [memL] at h, fun r ⟨B, h, _⟩ => by simp [memL] at h, fun b hb => Nat.lt_of_lt_of_le (I.lt b hb) E.size, I.powExt E⟩⟩
def c_strings_Join : Contract := fun vs bs => match vs, bs with
  | [.one (.dat (.list .str) l), .one (.dat .str sep)], [] => some (some (l.length ≤ 140737488355328 ∧ (joinT sep l).length ≤ 140737488355328), .one (.dat .str (joinT sep l)), [])
  | _, _ => none
theorem sound_strings_Join : SoundC Tryd.prog tab n_strings_Join c_strings_Join := by
  intro vs bs p v bs' h hp w S μ xs I hx
  unfold c_strings_Join at h
  split at h
  · cases h
    rename_i l sep
    obtain ⟨⟨h1, h2⟩, _⟩ := hp
    match xs, hx with
    | [X, Y], ⟨g1, g2, _⟩ =>
      have e2 := rel_str g2
      subst e2
      obtain ⟨_, hr⟩ := g1
      cases hr with
      | empty t a cap =>
        refine (Tryd.strings_Join_none a cap ⟨sep.toArray⟩ w).mono fun e w' ⟨he, hw⟩ => ?_
        subst hw he
        exact ⟨_, μ, S, rfl, Ext.refl, I, mk_str []⟩
      | list t l b off cap cs hS hcap hc hr =>
        have hm : (l.map fun s : List UInt8 => (⟨s.toArray⟩ : ByteArray)).map (·.data.toList) = l := by simp [List.map_map, Function.comp_def]
        have hj : (Go.Lib.join ((l.map fun s : List UInt8 => (⟨s.toArray⟩ : ByteArray)).map (·.data.toList)) (⟨sep.toArray⟩ : ByteArray).data.toList) = joinT sep l := by rw [hm]; exact join_eq sep l
        have key := Tryd.strings_Join b off cap (l.map fun s : List UInt8 => (⟨s.toArray⟩ : ByteArray)) ⟨sep.toArray⟩ w (fun j x hx => by
          rw [List.getElem?_map] at hx
          obtain ⟨s, hs, rfl⟩ := Option.map_eq_some_iff.1 hx
          have hjl : j < l.length := (List.getElem?_eq_some_iff.1 hs).1
          have c1 := hc j 0 hjl (by decide)
          have e : nth l j (Ty.dflt .str) = s := by simp [nth, List.getD_eq_getElem?_getD, hs]
          have c2 := hr j 0 (.dat .str s) hjl (by rw [e]; rfl)
          have c3 : cs j 0 = .string ⟨s.toArray⟩ := by
            generalize cs j 0 = y at c2
            cases c2; rfl
          rw [c3] at c1
          simpa [at0, Ty.width] using c1) (I.lt b hS) (by simpa using h1) (by simpa using hcap) (by rw [hj]; exact h2)
        rw [List.length_map, hj] at key
        refine key.mono fun e w' ⟨he, hb⟩ => ?_
        subst he
        obtain ⟨E, I'⟩ := below_EI I hb
        exact ⟨_, μ, S, rfl, E, I', mk_str _⟩
  · cases h
end Go.Proofs.YtlbppjmekiemiabDoor
namespace Go.Proofs.YtlbppjmekiemiabDoor
open Vm
def c_trust_CheckSigned : Contract := fun vs bs => match vs, bs with
  | [.one (.dat (.list .signed) l)], [] => some (none, .one (.dat .int (checkSigned l)), [])
  | _, _ => none
def Γ_trust_CheckSigned : Ctx := []
theorem ok_trust_CheckSigned : Ok Tryd.prog tab Γ_trust_CheckSigned := ok_nil
noncomputable def trust_CheckSigned_L0 : List It := [.inLoop [10, 9, 8, 2] (Code.sub (bodyOf fn_trust_CheckSigned) [1, 1, 0, 1, 0, 0]), .inBlock 0, .code (Code.sub (bodyOf fn_trust_CheckSigned) [1, 1, 1])]
def trust_CheckSigned_S0 (x0 : Int) (x1 : Int) (x2 : (List Vm.Signed)) (x3 : Int) : St := ⟨[(10, .one (.dat Ty.int x0)), (9, .one (.dat Ty.int x1)), (8, .one (.dat (Ty.list Ty.signed) x2)), (2, .one (.dat Ty.int x3))], [], 0⟩
theorem trust_CheckSigned_vc (l : List Signed) (rec : List It → St → Prop) (K : V → List Blk → Prop) : segD Γ_trust_CheckSigned tab fn_trust_CheckSigned 0 K rec [.code (bodyOf fn_trust_CheckSigned)] (initSt [.one (.dat (Ty.list Ty.signed) l)] []) = (
    br (lti (360 : Int) (((len l) : Nat) : Int))
     (K (.one (.dat Ty.int (2 : Int))) [])
     (rec trust_CheckSigned_L0 (trust_CheckSigned_S0 (0 : Int) (((len l) : Nat) : Int) l (0 : Int)))) := by kernel_rfl
theorem trust_CheckSigned_w (l : List Signed) (m : Nat) (K : V → List Blk → Prop) : goD Γ_trust_CheckSigned tab fn_trust_CheckSigned 0 K (m + 1) [.code (bodyOf fn_trust_CheckSigned)] (initSt [.one (.dat (Ty.list Ty.signed) l)] []) = segD Γ_trust_CheckSigned tab fn_trust_CheckSigned 0 K (goD Γ_trust_CheckSigned tab fn_trust_CheckSigned 0 K m) [.code (bodyOf fn_trust_CheckSigned)] (initSt [.one (.dat (Ty.list Ty.signed) l)] []) := rfl
theorem trust_CheckSigned_vc0 (x0 : Int) (x1 : Int) (x2 : (List Vm.Signed)) (x3 : Int) (rec : List It → St → Prop) (K : V → List Blk → Prop) : segD Γ_trust_CheckSigned tab fn_trust_CheckSigned 0 K rec (.code (Code.sub (bodyOf fn_trust_CheckSigned) [1, 1, 0, 1, 0, 0]) :: trust_CheckSigned_L0) (trust_CheckSigned_S0 x0 x1 x2 x3) = (
    br (lti x0 x1)
     ((((0 : Int) ≤ x0) ∧ (x0 < (((len x2) : Nat) : Int))) ∧
      (br (lti ((nth x2 (Int.toNat x0) (Ty.dflt Ty.signed))).key (1 : Int))
       (K (.one (.dat Ty.int (3 : Int))) [])
       (br (lti (50 : Int) ((nth x2 (Int.toNat x0) (Ty.dflt Ty.signed))).key)
         (K (.one (.dat Ty.int (3 : Int))) [])
         (br (lti ((nth x2 (Int.toNat x0) (Ty.dflt Ty.signed))).name (1 : Int))
           (K (.one (.dat Ty.int (3 : Int))) [])
           (br (lti (60 : Int) ((nth x2 (Int.toNat x0) (Ty.dflt Ty.signed))).name)
             (K (.one (.dat Ty.int (3 : Int))) [])
             (rec trust_CheckSigned_L0 (trust_CheckSigned_S0 (w64 (x0 + (1 : Int))) x1 x2 x3)))))))
     (K (.one (.dat Ty.int (0 : Int))) [])) := by kernel_rfl
theorem trust_CheckSigned_w0 (x0 : Int) (x1 : Int) (x2 : (List Vm.Signed)) (x3 : Int) (m : Nat) (K : V → List Blk → Prop) : goD Γ_trust_CheckSigned tab fn_trust_CheckSigned 0 K (m + 1) trust_CheckSigned_L0 (trust_CheckSigned_S0 x0 x1 x2 x3) = segD Γ_trust_CheckSigned tab fn_trust_CheckSigned 0 K (goD Γ_trust_CheckSigned tab fn_trust_CheckSigned 0 K m) (.code (Code.sub (bodyOf fn_trust_CheckSigned) [1, 1, 0, 1, 0, 0]) :: trust_CheckSigned_L0) (trust_CheckSigned_S0 x0 x1 x2 x3) := rfl

theorem loop_trust_CheckSigned (l : List Vm.Signed) (hl : l.length ≤ 360) (K : V → List Blk → Prop) (x3 : Int) : ∀ (d k : Nat), k + d = l.length → K (.one (.dat .int (if (l.drop k).all okSigned then 0 else 3))) [] →
    goD Γ_trust_CheckSigned tab fn_trust_CheckSigned 0 K (d + 1) trust_CheckSigned_L0 (trust_CheckSigned_S0 (k : Int) (((len l) : Nat) : Int) l x3)
  | 0, k, hk, hK => by
    rw [trust_CheckSigned_w0, trust_CheckSigned_vc0 _ _ _ _ _ _]
    rw [List.drop_of_length_le (by omega)] at hK
    exact lt_f (by simp only [len]; omega) hK
  | d + 1, k, hk, hK => by
    rw [trust_CheckSigned_w0, trust_CheckSigned_vc0 _ _ _ _ _ _, toNat_nat]
    rw [drop_step (by omega) (Ty.dflt Ty.signed)] at hK
    obtain ⟨x, hx⟩ : ∃ x, nth l k (Ty.dflt Ty.signed) = x := ⟨_, rfl⟩
    rw [hx] at hK ⊢
    rw [List.all_cons] at hK
    have bad : ¬ (1 ≤ x.key ∧ x.key ≤ 50 ∧ 1 ≤ x.name ∧ x.name ≤ 60) → K (.one (.dat .int 3)) [] := fun h => by
      rw [show okSigned x = false from by
        cases hc : okSigned x
        · rfl
        · simp only [okSigned, Bool.and_eq_true, decide_eq_true_eq] at hc; exact absurd hc (by omega)] at hK
      exact hK
    rw [w64_succ (by omega)]
    refine lt_t (by simp only [len]; omega) ⟨⟨by omega, by simp only [len]; omega⟩, lt_s (fun h => bad (by omega)) (fun h => lt_s (fun h2 => bad (by omega)) (fun h2 => lt_s (fun h3 => bad (by omega)) (fun h3 => lt_s (fun h4 => bad (by omega)) (fun h4 => ?_))))⟩
    rw [show okSigned x = true from by simp only [okSigned, Bool.and_eq_true, decide_eq_true_eq]; omega, Bool.true_and] at hK
    exact loop_trust_CheckSigned l hl K x3 d (k + 1) (by omega) hK
set_option maxHeartbeats 4000000 in
theorem run_trust_CheckSigned (l : List Vm.Signed) (K : V → List Blk → Prop) (hK : K (.one (.dat .int (checkSigned l))) []) : ∃ m, goD Γ_trust_CheckSigned tab fn_trust_CheckSigned 0 K m [.code (bodyOf fn_trust_CheckSigned)] (initSt [.one (.dat (.list .signed) l)] []) := by
  refine ⟨l.length + 2, ?_⟩
  rw [trust_CheckSigned_w, trust_CheckSigned_vc _ _ _]
  unfold checkSigned at hK
  refine lt_s (fun h => ?_) (fun h => ?_)
  · rw [if_pos (by simp only [len] at h; omega)] at hK; exact hK
  · rw [if_neg (by simp only [len] at h; omega)] at hK
    exact loop_trust_CheckSigned l (by simp only [len] at h; omega) K 0 l.length 0 (by omega) hK
theorem sound_trust_CheckSigned : SoundC Tryd.prog tab n_trust_CheckSigned c_trust_CheckSigned := soundC_of ok_trust_CheckSigned hf_trust_CheckSigned hB_trust_CheckSigned (by
  intro vs bs p v bs' h hp
  unfold c_trust_CheckSigned at h
  split at h
  · cases h
    exact ⟨by kernel_rfl, rfl, .inl (run_trust_CheckSigned _ _ ⟨rfl, rfl⟩)⟩
  · cases h)

def c_meta_CheckRoot : Contract := fun vs bs => match vs, bs with
  | [.agg [.dat .int v, .dat (.list .int) ks, .dat .int t]], [] => some (none, .one (.dat .int (checkRoot v ks t)), [])
  | _, _ => none
def Γ_meta_CheckRoot : Ctx := []
theorem ok_meta_CheckRoot : Ok Tryd.prog tab Γ_meta_CheckRoot := ok_nil
noncomputable def meta_CheckRoot_L0 : List It := [.inLoop [26, 25, 24, 2, 1] (Code.sub (bodyOf fn_meta_CheckRoot) [1, 1, 1, 0, 1, 0, 0]), .inBlock 0, .code (Code.sub (bodyOf fn_meta_CheckRoot) [1, 1, 1, 1])]
def meta_CheckRoot_S0 (x0 : Int) (x1 : Int) (x2 : (List Int)) (x3 : Int) (x4 : Int) (x5 : (List Int)) (x6 : Int) : St := ⟨[(26, .one (.dat Ty.int x0)), (25, .one (.dat Ty.int x1)), (24, .one (.dat (Ty.list Ty.int) x2)), (2, .one (.dat Ty.int x3)), (1, .one (.ptr 0 0))], [(0, .box [.dat Ty.int x4, .dat (Ty.list Ty.int) x5, .dat Ty.int x6])], 1⟩
theorem meta_CheckRoot_vc (v : Int) (ks : List Int) (t : Int) (rec : List It → St → Prop) (K : V → List Blk → Prop) : segD Γ_meta_CheckRoot tab fn_meta_CheckRoot 0 K rec [.code (bodyOf fn_meta_CheckRoot)] (initSt [.agg [.dat Ty.int v, .dat (Ty.list Ty.int) ks, .dat Ty.int t]] []) = (
    br (lti v (1 : Int))
     (K (.one (.dat Ty.int (3 : Int))) [])
     (br (lti (1000 : Int) v)
       (K (.one (.dat Ty.int (3 : Int))) [])
       (br (eqi (((len ks) : Nat) : Int) (0 : Int))
         (K (.one (.dat Ty.int (2 : Int))) [])
         (br (lti (6 : Int) (((len ks) : Nat) : Int))
           (K (.one (.dat Ty.int (2 : Int))) [])
           (rec meta_CheckRoot_L0 (meta_CheckRoot_S0 (0 : Int) (((len ks) : Nat) : Int) ks (0 : Int) v ks t)))))) := by kernel_rfl
theorem meta_CheckRoot_w (v : Int) (ks : List Int) (t : Int) (m : Nat) (K : V → List Blk → Prop) : goD Γ_meta_CheckRoot tab fn_meta_CheckRoot 0 K (m + 1) [.code (bodyOf fn_meta_CheckRoot)] (initSt [.agg [.dat Ty.int v, .dat (Ty.list Ty.int) ks, .dat Ty.int t]] []) = segD Γ_meta_CheckRoot tab fn_meta_CheckRoot 0 K (goD Γ_meta_CheckRoot tab fn_meta_CheckRoot 0 K m) [.code (bodyOf fn_meta_CheckRoot)] (initSt [.agg [.dat Ty.int v, .dat (Ty.list Ty.int) ks, .dat Ty.int t]] []) := rfl
theorem meta_CheckRoot_vc0 (x0 : Int) (x1 : Int) (x2 : (List Int)) (x3 : Int) (x4 : Int) (x5 : (List Int)) (x6 : Int) (rec : List It → St → Prop) (K : V → List Blk → Prop) : segD Γ_meta_CheckRoot tab fn_meta_CheckRoot 0 K rec (.code (Code.sub (bodyOf fn_meta_CheckRoot) [1, 1, 1, 0, 1, 0, 0]) :: meta_CheckRoot_L0) (meta_CheckRoot_S0 x0 x1 x2 x3 x4 x5 x6) = (
    br (lti x0 x1)
     ((((0 : Int) ≤ x0) ∧ (x0 < (((len x2) : Nat) : Int))) ∧
      (br (lti (nth x2 (Int.toNat x0) (Ty.dflt Ty.int)) (1 : Int))
       (K (.one (.dat Ty.int (3 : Int))) [])
       (br (lti (50 : Int) (nth x2 (Int.toNat x0) (Ty.dflt Ty.int)))
         (K (.one (.dat Ty.int (3 : Int))) [])
         (br (lti (0 : Int) x0)
           ((((0 : Int) ≤ (w64 (x0 - (1 : Int)))) ∧ ((w64 (x0 - (1 : Int))) < (((len x5) : Nat) : Int))) ∧
            (br (lei (nth x2 (Int.toNat x0) (Ty.dflt Ty.int)) (nth x5 (Int.toNat (w64 (x0 - (1 : Int)))) (Ty.dflt Ty.int)))
             (K (.one (.dat Ty.int (6 : Int))) [])
             (rec meta_CheckRoot_L0 (meta_CheckRoot_S0 (w64 (x0 + (1 : Int))) x1 x2 x3 x4 x5 x6))))
           (rec meta_CheckRoot_L0 (meta_CheckRoot_S0 (w64 (x0 + (1 : Int))) x1 x2 x3 x4 x5 x6))))))
     (br (lti x6 (1 : Int))
       (K (.one (.dat Ty.int (4 : Int))) [])
       (br (lti (((len x5) : Nat) : Int) x6)
         (K (.one (.dat Ty.int (4 : Int))) [])
         (K (.one (.dat Ty.int (0 : Int))) [])))) := by kernel_rfl
theorem meta_CheckRoot_w0 (x0 : Int) (x1 : Int) (x2 : (List Int)) (x3 : Int) (x4 : Int) (x5 : (List Int)) (x6 : Int) (m : Nat) (K : V → List Blk → Prop) : goD Γ_meta_CheckRoot tab fn_meta_CheckRoot 0 K (m + 1) meta_CheckRoot_L0 (meta_CheckRoot_S0 x0 x1 x2 x3 x4 x5 x6) = segD Γ_meta_CheckRoot tab fn_meta_CheckRoot 0 K (goD Γ_meta_CheckRoot tab fn_meta_CheckRoot 0 K m) (.code (Code.sub (bodyOf fn_meta_CheckRoot) [1, 1, 1, 0, 1, 0, 0]) :: meta_CheckRoot_L0) (meta_CheckRoot_S0 x0 x1 x2 x3 x4 x5 x6) := rfl

theorem loop_meta_CheckRoot (ks : List Int) (v t : Int) (hl : ks.length ≤ 6) (K : V → List Blk → Prop) (last : Nat → Option Int) (h0 : last 0 = none) (hs : ∀ k, k < ks.length → last (k + 1) = some (nth ks k 0)) : ∀ (d k : Nat), k + d = ks.length →
    K (.one (.dat .int (rootEnd (keysFrom (last k) (ks.drop k)) t ks.length))) [] →
    goD Γ_meta_CheckRoot tab fn_meta_CheckRoot 0 K (d + 1) meta_CheckRoot_L0 (meta_CheckRoot_S0 (k : Int) (((len ks) : Nat) : Int) ks 0 v ks t)
  | 0, k, hk, hK => by
    rw [meta_CheckRoot_w0, meta_CheckRoot_vc0 _ _ _ _ _ _ _ _ _]
    rw [List.drop_of_length_le (by omega)] at hK
    rw [show rootEnd (keysFrom (last k) []) t ks.length = if t < 1 ∨ (ks.length : Int) < t then 4 else 0 from rfl] at hK
    refine lt_f (by simp only [len]; omega) (lt_s (fun h => ?_) (fun h => lt_s (fun h2 => ?_) (fun h2 => ?_)))
    · rw [if_pos (.inl h)] at hK; exact hK
    · rw [if_pos (.inr h2)] at hK; exact hK
    · rw [if_neg (by simp only [len] at h2; omega)] at hK; exact hK
  | d + 1, k, hk, hK => by
    rw [meta_CheckRoot_w0, meta_CheckRoot_vc0 _ _ _ _ _ _ _ _ _, toNat_nat]
    rw [drop_step (by omega) (Ty.dflt Ty.int)] at hK
    have hsk := hs k (by omega)
    have e : nth ks k (Ty.dflt Ty.int) = nth ks k 0 := rfl
    rw [e] at hK ⊢
    obtain ⟨x, hx⟩ : ∃ x, nth ks k (0 : Int) = x := ⟨_, rfl⟩
    rw [hx] at hK hsk ⊢
    have ek : w64 ((k : Int) + 1) = ((k + 1 : Nat) : Int) := w64_succ (by omega)
    rw [ek]
    refine lt_t (by simp only [len]; omega) ⟨⟨by omega, by simp only [len]; omega⟩, lt_s (fun h => ?_) (fun h => lt_s (fun h2 => ?_) (fun h2 => ?_))⟩
    · rw [show keysFrom (last k) (x :: ks.drop (k + 1)) = 3 from if_pos (.inl h)] at hK; exact hK
    · rw [show keysFrom (last k) (x :: ks.drop (k + 1)) = 3 from if_pos (.inr h2)] at hK; exact hK
    · rw [show keysFrom (last k) (x :: ks.drop (k + 1)) = if notBehind (last k) x then 6 else keysFrom (some x) (ks.drop (k + 1)) from if_neg (by omega)] at hK
      refine lt_s (fun h3 => ?_) (fun h3 => ?_)
      · obtain ⟨j, rfl⟩ : ∃ j, k = j + 1 := ⟨k - 1, by omega⟩
        have hj := hs j (by omega)
        rw [hj] at hK
        rw [w64_id (n := ((j + 1 : Nat) : Int) - 1) (by omega) (by omega), show Int.toNat (((j + 1 : Nat) : Int) - 1) = j by omega]
        have e2 : nth ks j (Ty.dflt Ty.int) = nth ks j 0 := rfl
        rw [e2]
        refine ⟨⟨by omega, by simp only [len]; omega⟩, br_split (fun h4 => ?_) (fun h4 => ?_)⟩
        · rw [lei_true] at h4
          rw [if_pos (show notBehind (some (nth ks j 0)) x = true from decide_eq_true h4)] at hK; exact hK
        · rw [lei_false] at h4
          rw [if_neg (show ¬ notBehind (some (nth ks j 0)) x = true from by simp only [notBehind, decide_eq_true_eq]; omega)] at hK
          refine loop_meta_CheckRoot ks v t hl K last h0 hs d (j + 1 + 1) (by omega) ?_
          rw [hsk]; exact hK
      · have hk0 : k = 0 := by omega
        subst hk0
        rw [h0] at hK
        rw [if_neg (show ¬ notBehind none x = true from by simp [notBehind])] at hK
        refine loop_meta_CheckRoot ks v t hl K last h0 hs d 1 (by omega) ?_
        rw [hsk]; exact hK
set_option maxHeartbeats 4000000 in
theorem run_meta_CheckRoot (v : Int) (ks : List Int) (t : Int) (K : V → List Blk → Prop) (hK : K (.one (.dat .int (checkRoot v ks t))) []) : ∃ m, goD Γ_meta_CheckRoot tab fn_meta_CheckRoot 0 K m [.code (bodyOf fn_meta_CheckRoot)] (initSt [.agg [.dat .int v, .dat (.list .int) ks, .dat .int t]] []) := by
  refine ⟨ks.length + 2, ?_⟩
  rw [meta_CheckRoot_w, meta_CheckRoot_vc _ _ _ _ _]
  unfold checkRoot at hK
  refine lt_s (fun h => ?_) (fun h => lt_s (fun h2 => ?_) (fun h2 => eq_s (fun h3 => ?_) (fun h3 => lt_s (fun h4 => ?_) (fun h4 => ?_))))
  · rw [if_pos (.inl h)] at hK; exact hK
  · rw [if_pos (.inr h2)] at hK; exact hK
  · rw [if_neg (by omega), if_pos (by simp only [len] at h3; omega)] at hK; exact hK
  · rw [if_neg (by omega), if_pos (by simp only [len] at h4; omega)] at hK; exact hK
  · rw [if_neg (by omega), if_neg (by simp only [len] at h3 h4; omega)] at hK
    exact loop_meta_CheckRoot ks v t (by simp only [len] at h4; omega) K (fun k => match k with | 0 => none | k + 1 => some (nth ks k 0)) rfl (fun k _ => rfl) ks.length 0 (by omega) hK
theorem sound_meta_CheckRoot : SoundC Tryd.prog tab n_meta_CheckRoot c_meta_CheckRoot := soundC_of ok_meta_CheckRoot hf_meta_CheckRoot hB_meta_CheckRoot (by
  intro vs bs p v bs' h hp
  unfold c_meta_CheckRoot at h
  split at h
  · cases h
    exact ⟨by kernel_rfl, rfl, .inl (run_meta_CheckRoot _ _ _ _ ⟨rfl, rfl⟩)⟩
  · cases h)

def c_slices_Index_Lint : Contract := fun vs bs => match vs, bs with
  | [.one (.dat (.list .int) l), .one (.dat .int k)], [] => some (some (l.length ≤ 140737488355328), .one (.dat .int (indexI k 0 l)), [])
  | _, _ => none
def Γ_slices_Index_Lint : Ctx := []
theorem ok_slices_Index_Lint : Ok Tryd.prog tab Γ_slices_Index_Lint := ok_nil
noncomputable def slices_Index_Lint_L0 : List It := [.inLoop [8, 7, 4, 0, 1] (Code.sub (bodyOf fn_slices_Index_Lint) [1, 0, 1, 0, 0]), .inBlock 0, .code (Code.sub (bodyOf fn_slices_Index_Lint) [1, 1])]
def slices_Index_Lint_S0 (x0 : Int) (x1 : Int) (x2 : Int) (x3 : (List Int)) (x4 : Int) : St := ⟨[(8, .one (.dat Ty.int x0)), (7, .one (.dat Ty.int x1)), (4, .one (.dat Ty.int x2)), (0, .one (.dat (Ty.list Ty.int) x3)), (1, .one (.dat Ty.int x4))], [], 0⟩
theorem slices_Index_Lint_vc (l : List Int) (k : Int) (rec : List It → St → Prop) (K : V → List Blk → Prop) : segD Γ_slices_Index_Lint tab fn_slices_Index_Lint 0 K rec [.code (bodyOf fn_slices_Index_Lint)] (initSt [.one (.dat (Ty.list Ty.int) l), .one (.dat Ty.int k)] []) = (
    rec slices_Index_Lint_L0 (slices_Index_Lint_S0 (0 : Int) (((len l) : Nat) : Int) (0 : Int) l k)) := by kernel_rfl
theorem slices_Index_Lint_w (l : List Int) (k : Int) (m : Nat) (K : V → List Blk → Prop) : goD Γ_slices_Index_Lint tab fn_slices_Index_Lint 0 K (m + 1) [.code (bodyOf fn_slices_Index_Lint)] (initSt [.one (.dat (Ty.list Ty.int) l), .one (.dat Ty.int k)] []) = segD Γ_slices_Index_Lint tab fn_slices_Index_Lint 0 K (goD Γ_slices_Index_Lint tab fn_slices_Index_Lint 0 K m) [.code (bodyOf fn_slices_Index_Lint)] (initSt [.one (.dat (Ty.list Ty.int) l), .one (.dat Ty.int k)] []) := rfl
theorem slices_Index_Lint_vc0 (x0 : Int) (x1 : Int) (x2 : Int) (x3 : (List Int)) (x4 : Int) (rec : List It → St → Prop) (K : V → List Blk → Prop) : segD Γ_slices_Index_Lint tab fn_slices_Index_Lint 0 K rec (.code (Code.sub (bodyOf fn_slices_Index_Lint) [1, 0, 1, 0, 0]) :: slices_Index_Lint_L0) (slices_Index_Lint_S0 x0 x1 x2 x3 x4) = (
    br (lti x0 x1)
     ((((0 : Int) ≤ x0) ∧ (x0 < (((len x3) : Nat) : Int))) ∧
      (br (eqi x4 (nth x3 (Int.toNat x0) (Ty.dflt Ty.int)))
       (K (.one (.dat Ty.int x0)) [])
       (rec slices_Index_Lint_L0 (slices_Index_Lint_S0 (w64 (x0 + (1 : Int))) x1 x2 x3 x4))))
     (K (.one (.dat Ty.int (-(1 : Int)))) [])) := by kernel_rfl
theorem slices_Index_Lint_w0 (x0 : Int) (x1 : Int) (x2 : Int) (x3 : (List Int)) (x4 : Int) (m : Nat) (K : V → List Blk → Prop) : goD Γ_slices_Index_Lint tab fn_slices_Index_Lint 0 K (m + 1) slices_Index_Lint_L0 (slices_Index_Lint_S0 x0 x1 x2 x3 x4) = segD Γ_slices_Index_Lint tab fn_slices_Index_Lint 0 K (goD Γ_slices_Index_Lint tab fn_slices_Index_Lint 0 K m) (.code (Code.sub (bodyOf fn_slices_Index_Lint) [1, 0, 1, 0, 0]) :: slices_Index_Lint_L0) (slices_Index_Lint_S0 x0 x1 x2 x3 x4) := rfl

theorem loop_slices_Index_Lint (l : List Int) (s : Int) (hl : l.length ≤ 140737488355328) (K : V → List Blk → Prop) : ∀ (d k : Nat), k + d = l.length → K (.one (.dat .int (indexI s k (l.drop k)))) [] →
    goD Γ_slices_Index_Lint tab fn_slices_Index_Lint 0 K (d + 1) slices_Index_Lint_L0 (slices_Index_Lint_S0 (k : Int) (((len l) : Nat) : Int) 0 l s)
  | 0, k, hk, hK => by
    rw [slices_Index_Lint_w0, slices_Index_Lint_vc0 _ _ _ _ _ _ _]
    rw [List.drop_of_length_le (by omega)] at hK
    exact lt_f (by simp only [len]; omega) hK
  | d + 1, k, hk, hK => by
    rw [slices_Index_Lint_w0, slices_Index_Lint_vc0 _ _ _ _ _ _ _, toNat_nat]
    rw [drop_step (by omega) (Ty.dflt Ty.int)] at hK
    simp only [indexI] at hK
    refine lt_t (by simp only [len]; omega) ⟨⟨by omega, by simp only [len]; omega⟩, eq_s (fun h => ?_) (fun h => ?_)⟩
    · rw [if_pos h.symm] at hK; exact hK
    · rw [if_neg (fun e => h e.symm)] at hK
      rw [w64_succ (by omega)]
      exact loop_slices_Index_Lint l s hl K d (k + 1) (by omega) hK
set_option maxHeartbeats 4000000 in
theorem run_slices_Index_Lint (l : List Int) (k : Int) (hp : l.length ≤ 140737488355328) (K : V → List Blk → Prop) (hK : K (.one (.dat .int (indexI k 0 l))) []) : ∃ m, goD Γ_slices_Index_Lint tab fn_slices_Index_Lint 0 K m [.code (bodyOf fn_slices_Index_Lint)] (initSt [.one (.dat (.list .int) l), .one (.dat .int k)] []) := by
  refine ⟨l.length + 2, ?_⟩
  rw [slices_Index_Lint_w, slices_Index_Lint_vc _ _ _ _]
  exact loop_slices_Index_Lint l k hp K l.length 0 (by omega) hK
theorem sound_slices_Index_Lint : SoundC Tryd.prog tab n_slices_Index_Lint c_slices_Index_Lint := soundC_of ok_slices_Index_Lint hf_slices_Index_Lint hB_slices_Index_Lint (by
  intro vs bs p v bs' h hp
  unfold c_slices_Index_Lint at h
  split at h
  · cases h
    exact ⟨by kernel_rfl, rfl, .inl (run_slices_Index_Lint _ _ hp.1 _ ⟨rfl, rfl⟩)⟩
  · cases h)

def c_slices_Contains_Lint : Contract := fun vs bs => match vs, bs with
  | [.one (.dat (.list .int) l), .one (.dat .int k)], [] => some (some (l.length ≤ 140737488355328), .one (.dat .bool (hasI k l)), [])
  | _, _ => none
def Γ_slices_Contains_Lint : Ctx := [(n_slices_Index_Lint, c_slices_Index_Lint)]
theorem ok_slices_Contains_Lint : Ok Tryd.prog tab Γ_slices_Contains_Lint := (ok_nil.consC hf_slices_Index_Lint hB_slices_Index_Lint sound_slices_Index_Lint)
theorem slices_Contains_Lint_vc (l : List Int) (k : Int) (rec : List It → St → Prop) (K : V → List Blk → Prop) v0 (hv0 : v0 = (indexI k (0 : Int) l)) : segD Γ_slices_Contains_Lint tab fn_slices_Contains_Lint 0 K rec [.code (bodyOf fn_slices_Contains_Lint)] (initSt [.one (.dat (Ty.list Ty.int) l), .one (.dat Ty.int k)] []) = (
    ((List.length l) ≤ 140737488355328) ∧
    (K (.one (.dat Ty.bool (lei (0 : Int) v0))) [])) := by subst hv0; kernel_rfl
theorem slices_Contains_Lint_w (l : List Int) (k : Int) (m : Nat) (K : V → List Blk → Prop) : goD Γ_slices_Contains_Lint tab fn_slices_Contains_Lint 0 K (m + 1) [.code (bodyOf fn_slices_Contains_Lint)] (initSt [.one (.dat (Ty.list Ty.int) l), .one (.dat Ty.int k)] []) = segD Γ_slices_Contains_Lint tab fn_slices_Contains_Lint 0 K (goD Γ_slices_Contains_Lint tab fn_slices_Contains_Lint 0 K m) [.code (bodyOf fn_slices_Contains_Lint)] (initSt [.one (.dat (Ty.list Ty.int) l), .one (.dat Ty.int k)] []) := rfl

set_option maxHeartbeats 4000000 in
theorem run_slices_Contains_Lint (l : List Int) (k : Int) (hp : l.length ≤ 140737488355328) (K : V → List Blk → Prop) (hK : K (.one (.dat .bool (hasI k l))) []) : ∃ m, goD Γ_slices_Contains_Lint tab fn_slices_Contains_Lint 0 K m [.code (bodyOf fn_slices_Contains_Lint)] (initSt [.one (.dat (.list .int) l), .one (.dat .int k)] []) := by
  refine ⟨1, ?_⟩
  rw [slices_Contains_Lint_w, slices_Contains_Lint_vc _ _ _ _ _ rfl]
  rw [← indexI_has k l 0 (by omega)] at hK
  exact ⟨hp, hK⟩
theorem sound_slices_Contains_Lint : SoundC Tryd.prog tab n_slices_Contains_Lint c_slices_Contains_Lint := soundC_of ok_slices_Contains_Lint hf_slices_Contains_Lint hB_slices_Contains_Lint (by
  intro vs bs p v bs' h hp
  unfold c_slices_Contains_Lint at h
  split at h
  · cases h
    exact ⟨by kernel_rfl, rfl, .inl (run_slices_Contains_Lint _ _ hp.1 _ ⟨rfl, rfl⟩)⟩
  · cases h)

def c_slices_Index_LSigned : Contract := fun vs bs => match vs, bs with
  | [.one (.dat (.list .signed) l), .agg [.dat .int k, .dat .int n]], [] => some (some (l.length ≤ 140737488355328), .one (.dat .int (indexG k n 0 l)), [])
  | _, _ => none
def Γ_slices_Index_LSigned : Ctx := []
theorem ok_slices_Index_LSigned : Ok Tryd.prog tab Γ_slices_Index_LSigned := ok_nil
noncomputable def slices_Index_LSigned_L0 : List It := [.inLoop [8, 7, 4, 3, 0] (Code.sub (bodyOf fn_slices_Index_LSigned) [1, 0, 1, 0, 0]), .inBlock 0, .code (Code.sub (bodyOf fn_slices_Index_LSigned) [1, 1])]
def slices_Index_LSigned_S0 (x0 : Int) (x1 : Int) (x2 : Int) (x3 : (List Vm.Signed)) (x4 : Int) (x5 : Int) : St := ⟨[(8, .one (.dat Ty.int x0)), (7, .one (.dat Ty.int x1)), (4, .one (.dat Ty.int x2)), (3, .one (.ptr 0 0)), (0, .one (.dat (Ty.list Ty.signed) x3))], [(0, .box [.dat Ty.int x4, .dat Ty.int x5])], 1⟩
theorem slices_Index_LSigned_vc (l : List Signed) (k : Int) (n : Int) (rec : List It → St → Prop) (K : V → List Blk → Prop) : segD Γ_slices_Index_LSigned tab fn_slices_Index_LSigned 0 K rec [.code (bodyOf fn_slices_Index_LSigned)] (initSt [.one (.dat (Ty.list Ty.signed) l), .agg [.dat Ty.int k, .dat Ty.int n]] []) = (
    rec slices_Index_LSigned_L0 (slices_Index_LSigned_S0 (0 : Int) (((len l) : Nat) : Int) (0 : Int) l k n)) := by kernel_rfl
theorem slices_Index_LSigned_w (l : List Signed) (k : Int) (n : Int) (m : Nat) (K : V → List Blk → Prop) : goD Γ_slices_Index_LSigned tab fn_slices_Index_LSigned 0 K (m + 1) [.code (bodyOf fn_slices_Index_LSigned)] (initSt [.one (.dat (Ty.list Ty.signed) l), .agg [.dat Ty.int k, .dat Ty.int n]] []) = segD Γ_slices_Index_LSigned tab fn_slices_Index_LSigned 0 K (goD Γ_slices_Index_LSigned tab fn_slices_Index_LSigned 0 K m) [.code (bodyOf fn_slices_Index_LSigned)] (initSt [.one (.dat (Ty.list Ty.signed) l), .agg [.dat Ty.int k, .dat Ty.int n]] []) := rfl
theorem slices_Index_LSigned_vc0 (x0 : Int) (x1 : Int) (x2 : Int) (x3 : (List Vm.Signed)) (x4 : Int) (x5 : Int) (rec : List It → St → Prop) (K : V → List Blk → Prop) : segD Γ_slices_Index_LSigned tab fn_slices_Index_LSigned 0 K rec (.code (Code.sub (bodyOf fn_slices_Index_LSigned) [1, 0, 1, 0, 0]) :: slices_Index_LSigned_L0) (slices_Index_LSigned_S0 x0 x1 x2 x3 x4 x5) = (
    br (lti x0 x1)
     ((((0 : Int) ≤ x0) ∧ (x0 < (((len x3) : Nat) : Int))) ∧
      (br ((eqi x4 ((nth x3 (Int.toNat x0) (Ty.dflt Ty.signed))).key) && ((eqi x5 ((nth x3 (Int.toNat x0) (Ty.dflt Ty.signed))).name) && true))
       (K (.one (.dat Ty.int x0)) [])
       (rec slices_Index_LSigned_L0 (slices_Index_LSigned_S0 (w64 (x0 + (1 : Int))) x1 x2 x3 x4 x5))))
     (K (.one (.dat Ty.int (-(1 : Int)))) [])) := by kernel_rfl
theorem slices_Index_LSigned_w0 (x0 : Int) (x1 : Int) (x2 : Int) (x3 : (List Vm.Signed)) (x4 : Int) (x5 : Int) (m : Nat) (K : V → List Blk → Prop) : goD Γ_slices_Index_LSigned tab fn_slices_Index_LSigned 0 K (m + 1) slices_Index_LSigned_L0 (slices_Index_LSigned_S0 x0 x1 x2 x3 x4 x5) = segD Γ_slices_Index_LSigned tab fn_slices_Index_LSigned 0 K (goD Γ_slices_Index_LSigned tab fn_slices_Index_LSigned 0 K m) (.code (Code.sub (bodyOf fn_slices_Index_LSigned) [1, 0, 1, 0, 0]) :: slices_Index_LSigned_L0) (slices_Index_LSigned_S0 x0 x1 x2 x3 x4 x5) := rfl

theorem loop_slices_Index_LSigned (l : List Vm.Signed) (s n : Int) (hl : l.length ≤ 140737488355328) (K : V → List Blk → Prop) : ∀ (d k : Nat), k + d = l.length → K (.one (.dat .int (indexG s n k (l.drop k)))) [] →
    goD Γ_slices_Index_LSigned tab fn_slices_Index_LSigned 0 K (d + 1) slices_Index_LSigned_L0 (slices_Index_LSigned_S0 (k : Int) (((len l) : Nat) : Int) 0 l s n)
  | 0, k, hk, hK => by
    rw [slices_Index_LSigned_w0, slices_Index_LSigned_vc0 _ _ _ _ _ _ _ _]
    rw [List.drop_of_length_le (by omega)] at hK
    exact lt_f (by simp only [len]; omega) hK
  | d + 1, k, hk, hK => by
    rw [slices_Index_LSigned_w0, slices_Index_LSigned_vc0 _ _ _ _ _ _ _ _, toNat_nat]
    rw [drop_step (by omega) (Ty.dflt Ty.signed)] at hK
    simp only [indexG] at hK
    refine lt_t (by simp only [len]; omega) ⟨⟨by omega, by simp only [len]; omega⟩, br_split (fun h => ?_) (fun h => ?_)⟩
    · rw [if_pos (show isSig s n _ = true from h)] at hK; exact hK
    · rw [if_neg (show ¬ isSig s n _ = true from by rw [show isSig s n (nth l k (Ty.dflt Ty.signed)) = false from h]; simp)] at hK
      rw [w64_succ (by omega)]
      exact loop_slices_Index_LSigned l s n hl K d (k + 1) (by omega) hK
set_option maxHeartbeats 4000000 in
theorem run_slices_Index_LSigned (l : List Vm.Signed) (k n : Int) (hp : l.length ≤ 140737488355328) (K : V → List Blk → Prop) (hK : K (.one (.dat .int (indexG k n 0 l))) []) : ∃ m, goD Γ_slices_Index_LSigned tab fn_slices_Index_LSigned 0 K m [.code (bodyOf fn_slices_Index_LSigned)] (initSt [.one (.dat (.list .signed) l), .agg [.dat .int k, .dat .int n]] []) := by
  refine ⟨l.length + 2, ?_⟩
  rw [slices_Index_LSigned_w, slices_Index_LSigned_vc _ _ _ _ _]
  exact loop_slices_Index_LSigned l k n hp K l.length 0 (by omega) hK
theorem sound_slices_Index_LSigned : SoundC Tryd.prog tab n_slices_Index_LSigned c_slices_Index_LSigned := soundC_of ok_slices_Index_LSigned hf_slices_Index_LSigned hB_slices_Index_LSigned (by
  intro vs bs p v bs' h hp
  unfold c_slices_Index_LSigned at h
  split at h
  · cases h
    exact ⟨by kernel_rfl, rfl, .inl (run_slices_Index_LSigned _ _ _ hp.1 _ ⟨rfl, rfl⟩)⟩
  · cases h)

def c_slices_Contains_LSigned : Contract := fun vs bs => match vs, bs with
  | [.one (.dat (.list .signed) l), .agg [.dat .int k, .dat .int n]], [] => some (some (l.length ≤ 140737488355328), .one (.dat .bool (hasSig k n l)), [])
  | _, _ => none
def Γ_slices_Contains_LSigned : Ctx := [(n_slices_Index_LSigned, c_slices_Index_LSigned)]
theorem ok_slices_Contains_LSigned : Ok Tryd.prog tab Γ_slices_Contains_LSigned := (ok_nil.consC hf_slices_Index_LSigned hB_slices_Index_LSigned sound_slices_Index_LSigned)
theorem slices_Contains_LSigned_vc (l : List Signed) (k : Int) (n : Int) (rec : List It → St → Prop) (K : V → List Blk → Prop) v0 (hv0 : v0 = (indexG k n (0 : Int) l)) : segD Γ_slices_Contains_LSigned tab fn_slices_Contains_LSigned 0 K rec [.code (bodyOf fn_slices_Contains_LSigned)] (initSt [.one (.dat (Ty.list Ty.signed) l), .agg [.dat Ty.int k, .dat Ty.int n]] []) = (
    ((List.length l) ≤ 140737488355328) ∧
    (K (.one (.dat Ty.bool (lei (0 : Int) v0))) [])) := by subst hv0; kernel_rfl
theorem slices_Contains_LSigned_w (l : List Signed) (k : Int) (n : Int) (m : Nat) (K : V → List Blk → Prop) : goD Γ_slices_Contains_LSigned tab fn_slices_Contains_LSigned 0 K (m + 1) [.code (bodyOf fn_slices_Contains_LSigned)] (initSt [.one (.dat (Ty.list Ty.signed) l), .agg [.dat Ty.int k, .dat Ty.int n]] []) = segD Γ_slices_Contains_LSigned tab fn_slices_Contains_LSigned 0 K (goD Γ_slices_Contains_LSigned tab fn_slices_Contains_LSigned 0 K m) [.code (bodyOf fn_slices_Contains_LSigned)] (initSt [.one (.dat (Ty.list Ty.signed) l), .agg [.dat Ty.int k, .dat Ty.int n]] []) := rfl

set_option maxHeartbeats 4000000 in
theorem run_slices_Contains_LSigned (l : List Vm.Signed) (k n : Int) (hp : l.length ≤ 140737488355328) (K : V → List Blk → Prop) (hK : K (.one (.dat .bool (hasSig k n l))) []) : ∃ m, goD Γ_slices_Contains_LSigned tab fn_slices_Contains_LSigned 0 K m [.code (bodyOf fn_slices_Contains_LSigned)] (initSt [.one (.dat (.list .signed) l), .agg [.dat .int k, .dat .int n]] []) := by
  refine ⟨1, ?_⟩
  rw [slices_Contains_LSigned_w, slices_Contains_LSigned_vc _ _ _ _ _ _ rfl]
  rw [← indexG_has k n l 0 (by omega)] at hK
  exact ⟨hp, hK⟩
theorem sound_slices_Contains_LSigned : SoundC Tryd.prog tab n_slices_Contains_LSigned c_slices_Contains_LSigned := soundC_of ok_slices_Contains_LSigned hf_slices_Contains_LSigned hB_slices_Contains_LSigned (by
  intro vs bs p v bs' h hp
  unfold c_slices_Contains_LSigned at h
  split at h
  · cases h
    exact ⟨by kernel_rfl, rfl, .inl (run_slices_Contains_LSigned _ _ _ hp.1 _ ⟨rfl, rfl⟩)⟩
  · cases h)

def c_trust_Count : Contract := fun vs bs => match vs, bs with
  | [.one (.dat (.list .signed) l), .agg [.dat .int v, .dat (.list .int) ks, .dat .int t], .one (.dat (.list .int) sg), .one (.dat .int n)], [] => some (none, .tup [.one (.dat .int (countT l ⟨v, ks, t⟩ sg n).1), .one (.dat .int (countT l ⟨v, ks, t⟩ sg n).2)], [])
  | _, _ => none
def Γ_trust_Count : Ctx := [(n_trust_CheckSigned, c_trust_CheckSigned), (n_meta_CheckRoot, c_meta_CheckRoot), (n_slices_Contains_Lint, c_slices_Contains_Lint), (n_slices_Contains_LSigned, c_slices_Contains_LSigned)]
theorem ok_trust_Count : Ok Tryd.prog tab Γ_trust_Count := ((((ok_nil.consC hf_slices_Contains_LSigned hB_slices_Contains_LSigned sound_slices_Contains_LSigned).consC hf_slices_Contains_Lint hB_slices_Contains_Lint sound_slices_Contains_Lint).consC hf_meta_CheckRoot hB_meta_CheckRoot sound_meta_CheckRoot).consC hf_trust_CheckSigned hB_trust_CheckSigned sound_trust_CheckSigned)
noncomputable def trust_Count_L0 : List It := [.inLoop [31, 30, 29, 12, 9, 8, 0, 2, 3] (Code.sub (bodyOf fn_trust_Count) [1, 1, 1, 1, 1, 0, 1, 0, 0]), .inBlock 0, .code (Code.sub (bodyOf fn_trust_Count) [1, 1, 1, 1, 1, 1])]
def trust_Count_S0 (x0 : Int) (x1 : Int) (x2 : (List Int)) (x3 : Int) (x4 : Int) (x5 : Int) (x6 : (List Vm.Signed)) (x7 : (List Int)) (x8 : Int) : St := ⟨[(31, .one (.dat Ty.int x0)), (30, .one (.dat Ty.int x1)), (29, .one (.dat (Ty.list Ty.int) x2)), (12, .one (.dat Ty.int x3)), (9, .one (.dat Ty.int x4)), (8, .one (.dat Ty.int x5)), (0, .one (.dat (Ty.list Ty.signed) x6)), (2, .one (.dat (Ty.list Ty.int) x7)), (3, .one (.dat Ty.int x8))], [], 0⟩
theorem trust_Count_vc (l : List Signed) (v : Int) (ks : List Int) (t : Int) (sg : List Int) (n : Int) (rec : List It → St → Prop) (K : V → List Blk → Prop) v0 (hv0 : v0 = (checkSigned l)) v1 (hv1 : v1 = (checkRoot v ks t)) : segD Γ_trust_Count tab fn_trust_Count 0 K rec [.code (bodyOf fn_trust_Count)] (initSt [.one (.dat (Ty.list Ty.signed) l), .agg [.dat Ty.int v, .dat (Ty.list Ty.int) ks, .dat Ty.int t], .one (.dat (Ty.list Ty.int) sg), .one (.dat Ty.int n)] []) = (
    br (!(eqi v0 (0 : Int)))
     (K (.tup [.one (.dat Ty.int (0 : Int)), .one (.dat Ty.int v0)]) [])
     (br (!(eqi v1 (0 : Int)))
       (K (.tup [.one (.dat Ty.int (0 : Int)), .one (.dat Ty.int v1)]) [])
       (br (lti (50 : Int) (((len sg) : Nat) : Int))
         (K (.tup [.one (.dat Ty.int (0 : Int)), .one (.dat Ty.int (2 : Int))]) [])
         (rec trust_Count_L0 (trust_Count_S0 (0 : Int) (((len ks) : Nat) : Int) ks (0 : Int) (0 : Int) (0 : Int) l sg n))))) := by subst hv1; subst hv0; kernel_rfl
theorem trust_Count_w (l : List Signed) (v : Int) (ks : List Int) (t : Int) (sg : List Int) (n : Int) (m : Nat) (K : V → List Blk → Prop) : goD Γ_trust_Count tab fn_trust_Count 0 K (m + 1) [.code (bodyOf fn_trust_Count)] (initSt [.one (.dat (Ty.list Ty.signed) l), .agg [.dat Ty.int v, .dat (Ty.list Ty.int) ks, .dat Ty.int t], .one (.dat (Ty.list Ty.int) sg), .one (.dat Ty.int n)] []) = segD Γ_trust_Count tab fn_trust_Count 0 K (goD Γ_trust_Count tab fn_trust_Count 0 K m) [.code (bodyOf fn_trust_Count)] (initSt [.one (.dat (Ty.list Ty.signed) l), .agg [.dat Ty.int v, .dat (Ty.list Ty.int) ks, .dat Ty.int t], .one (.dat (Ty.list Ty.int) sg), .one (.dat Ty.int n)] []) := rfl
theorem trust_Count_vc0 (x0 : Int) (x1 : Int) (x2 : (List Int)) (x3 : Int) (x4 : Int) (x5 : Int) (x6 : (List Vm.Signed)) (x7 : (List Int)) (x8 : Int) (rec : List It → St → Prop) (K : V → List Blk → Prop) v0 (hv0 : v0 = (hasI (nth x2 (Int.toNat x0) (Ty.dflt Ty.int)) x7)) v1 (hv1 : v1 = (hasSig (nth x2 (Int.toNat x0) (Ty.dflt Ty.int)) x8 x6)) : segD Γ_trust_Count tab fn_trust_Count 0 K rec (.code (Code.sub (bodyOf fn_trust_Count) [1, 1, 1, 1, 1, 0, 1, 0, 0]) :: trust_Count_L0) (trust_Count_S0 x0 x1 x2 x3 x4 x5 x6 x7 x8) = (
    br (lti x0 x1)
     ((((0 : Int) ≤ x0) ∧ (x0 < (((len x2) : Nat) : Int))) ∧
      (((List.length x7) ≤ 140737488355328) ∧
      (br v0
       (((List.length x6) ≤ 140737488355328) ∧
        (br v1
         (rec trust_Count_L0 (trust_Count_S0 (w64 (x0 + (1 : Int))) x1 x2 (w64 (x3 + (1 : Int))) x4 x5 x6 x7 x8))
         (rec trust_Count_L0 (trust_Count_S0 (w64 (x0 + (1 : Int))) x1 x2 x3 x4 x5 x6 x7 x8))))
       (rec trust_Count_L0 (trust_Count_S0 (w64 (x0 + (1 : Int))) x1 x2 x3 x4 x5 x6 x7 x8)))))
     (K (.tup [.one (.dat Ty.int x3), .one (.dat Ty.int (0 : Int))]) [])) := by subst hv1; subst hv0; kernel_rfl
theorem trust_Count_w0 (x0 : Int) (x1 : Int) (x2 : (List Int)) (x3 : Int) (x4 : Int) (x5 : Int) (x6 : (List Vm.Signed)) (x7 : (List Int)) (x8 : Int) (m : Nat) (K : V → List Blk → Prop) : goD Γ_trust_Count tab fn_trust_Count 0 K (m + 1) trust_Count_L0 (trust_Count_S0 x0 x1 x2 x3 x4 x5 x6 x7 x8) = segD Γ_trust_Count tab fn_trust_Count 0 K (goD Γ_trust_Count tab fn_trust_Count 0 K m) (.code (Code.sub (bodyOf fn_trust_Count) [1, 1, 1, 1, 1, 0, 1, 0, 0]) :: trust_Count_L0) (trust_Count_S0 x0 x1 x2 x3 x4 x5 x6 x7 x8) := rfl

theorem loop_trust_Count (l : List Vm.Signed) (ks sg : List Int) (n : Int) (hk6 : ks.length ≤ 6) (hl : l.length ≤ 360) (hs : sg.length ≤ 50) (K : V → List Blk → Prop) (x4 x5 : Int) : ∀ (d k c : Nat), k + d = ks.length → c ≤ k → K (.tup [.one (.dat .int ((c + countN l sg n (ks.drop k) : Nat) : Int)), .one (.dat .int 0)]) [] →
    goD Γ_trust_Count tab fn_trust_Count 0 K (d + 1) trust_Count_L0 (trust_Count_S0 (k : Int) (((len ks) : Nat) : Int) ks (c : Int) x4 x5 l sg n)
  | 0, k, c, hk, hc, hK => by
    rw [trust_Count_w0, trust_Count_vc0 _ _ _ _ _ _ _ _ _ _ _ _ rfl _ rfl]
    rw [List.drop_of_length_le (by omega)] at hK
    exact lt_f (by simp only [len]; omega) hK
  | d + 1, k, c, hk, hc, hK => by
    rw [trust_Count_w0, trust_Count_vc0 _ _ _ _ _ _ _ _ _ _ _ _ rfl _ rfl, toNat_nat]
    rw [drop_step (by omega) (Ty.dflt Ty.int), countN_cons] at hK
    obtain ⟨x, hx⟩ : ∃ x, nth ks k (Ty.dflt Ty.int) = x := ⟨_, rfl⟩
    rw [hx] at hK ⊢
    rw [w64_succ (k := k) (by omega), w64_succ (k := c) (by omega)]
    have no : signs l sg n x = false → K (.tup [.one (.dat .int ((c + countN l sg n (ks.drop (k + 1)) : Nat) : Int)), .one (.dat .int 0)]) [] := fun h => by
      rw [if_neg (by rw [h]; simp), Nat.zero_add] at hK; exact hK
    refine lt_t (by simp only [len]; omega) ⟨⟨by omega, by simp only [len]; omega⟩, by omega, br_split (fun h => ⟨by omega, br_split (fun h2 => ?_) (fun h2 => ?_)⟩) (fun h => ?_)⟩
    · rw [if_pos (show signs l sg n x = true from by simp [signs, h, h2])] at hK
      exact loop_trust_Count l ks sg n hk6 hl hs K x4 x5 d (k + 1) (c + 1) (by omega) (by omega) (by rw [show c + 1 + countN l sg n (ks.drop (k + 1)) = c + (1 + countN l sg n (ks.drop (k + 1))) by omega]; exact hK)
    · exact loop_trust_Count l ks sg n hk6 hl hs K x4 x5 d (k + 1) c (by omega) (by omega) (no (by simp [signs, h2]))
    · exact loop_trust_Count l ks sg n hk6 hl hs K x4 x5 d (k + 1) c (by omega) (by omega) (no (by simp [signs, h]))
set_option maxHeartbeats 4000000 in
theorem run_trust_Count (l : List Vm.Signed) (v : Int) (ks : List Int) (t : Int) (sg : List Int) (n : Int) (K : V → List Blk → Prop) (hK : K (.tup [.one (.dat .int (countT l ⟨v, ks, t⟩ sg n).1), .one (.dat .int (countT l ⟨v, ks, t⟩ sg n).2)]) []) : ∃ m, goD Γ_trust_Count tab fn_trust_Count 0 K m [.code (bodyOf fn_trust_Count)] (initSt [.one (.dat (.list .signed) l), .agg [.dat .int v, .dat (.list .int) ks, .dat .int t], .one (.dat (.list .int) sg), .one (.dat .int n)] []) := by
  refine ⟨ks.length + 2, ?_⟩
  rw [trust_Count_w, trust_Count_vc _ _ _ _ _ _ _ _ _ rfl _ rfl]
  unfold countT at hK
  simp only at hK
  refine ne_s (fun h => ?_) (fun h => ne_s (fun h2 => ?_) (fun h2 => lt_s (fun h3 => ?_) (fun h3 => ?_)))
  · rw [if_neg h] at hK; exact hK
  · rw [if_pos h, if_neg h2] at hK; exact hK
  · rw [if_pos h, if_pos h2, if_pos (by simp only [len] at h3; omega)] at hK; exact hK
  · rw [if_pos h, if_pos h2, if_neg (by simp only [len] at h3; omega)] at hK
    have hl : l.length ≤ 360 := by
      unfold checkSigned at h
      by_cases c : 360 < l.length
      · rw [if_pos c] at h; cases h
      · omega
    exact loop_trust_Count l ks sg n (checkRoot_ok h2).2.2.2.2.1 hl (by simp only [len] at h3; omega) K 0 0 ks.length 0 0 (by omega) (by omega) (by rw [Nat.zero_add]; exact hK)
theorem sound_trust_Count : SoundC Tryd.prog tab n_trust_Count c_trust_Count := soundC_of ok_trust_Count hf_trust_Count hB_trust_Count (by
  intro vs bs p v bs' h hp
  unfold c_trust_Count at h
  split at h
  · cases h
    exact ⟨by kernel_rfl, rfl, .inl (run_trust_Count _ _ _ _ _ _ _ ⟨rfl, rfl⟩)⟩
  · cases h)

def c_trust_CheckTrust : Contract := fun vs bs => match vs, bs with
  | [.agg [.dat .int v, .dat (.list .int) ks, .dat .int t, .dat .int n]], [] => some (none, .one (.dat .int (checkTrust ⟨⟨v, ks, t⟩, n⟩)), [])
  | _, _ => none
def Γ_trust_CheckTrust : Ctx := [(n_meta_CheckRoot, c_meta_CheckRoot)]
theorem ok_trust_CheckTrust : Ok Tryd.prog tab Γ_trust_CheckTrust := (ok_nil.consC hf_meta_CheckRoot hB_meta_CheckRoot sound_meta_CheckRoot)
theorem trust_CheckTrust_vc (v : Int) (ks : List Int) (t : Int) (n : Int) (rec : List It → St → Prop) (K : V → List Blk → Prop) v0 (hv0 : v0 = (checkRoot v ks t)) : segD Γ_trust_CheckTrust tab fn_trust_CheckTrust 0 K rec [.code (bodyOf fn_trust_CheckTrust)] (initSt [.agg [.dat Ty.int v, .dat (Ty.list Ty.int) ks, .dat Ty.int t, .dat Ty.int n]] []) = (
    br (lti n (0 : Int))
     (K (.one (.dat Ty.int (3 : Int))) [])
     (br (lti (1000 : Int) n)
       (K (.one (.dat Ty.int (3 : Int))) [])
       (K (.one (.dat Ty.int v0)) []))) := by subst hv0; kernel_rfl
theorem trust_CheckTrust_w (v : Int) (ks : List Int) (t : Int) (n : Int) (m : Nat) (K : V → List Blk → Prop) : goD Γ_trust_CheckTrust tab fn_trust_CheckTrust 0 K (m + 1) [.code (bodyOf fn_trust_CheckTrust)] (initSt [.agg [.dat Ty.int v, .dat (Ty.list Ty.int) ks, .dat Ty.int t, .dat Ty.int n]] []) = segD Γ_trust_CheckTrust tab fn_trust_CheckTrust 0 K (goD Γ_trust_CheckTrust tab fn_trust_CheckTrust 0 K m) [.code (bodyOf fn_trust_CheckTrust)] (initSt [.agg [.dat Ty.int v, .dat (Ty.list Ty.int) ks, .dat Ty.int t, .dat Ty.int n]] []) := rfl

set_option maxHeartbeats 4000000 in
theorem run_trust_CheckTrust (v : Int) (ks : List Int) (t n : Int) (K : V → List Blk → Prop) (hK : K (.one (.dat .int (checkTrust ⟨⟨v, ks, t⟩, n⟩))) []) : ∃ m, goD Γ_trust_CheckTrust tab fn_trust_CheckTrust 0 K m [.code (bodyOf fn_trust_CheckTrust)] (initSt [.agg [.dat .int v, .dat (.list .int) ks, .dat .int t, .dat .int n]] []) := by
  refine ⟨1, ?_⟩
  rw [trust_CheckTrust_w, trust_CheckTrust_vc _ _ _ _ _ _ _ rfl]
  unfold checkTrust at hK
  simp only at hK
  refine lt_s (fun h => ?_) (fun h => lt_s (fun h2 => ?_) (fun h2 => ?_))
  · rw [if_pos (.inl h)] at hK; exact hK
  · rw [if_pos (.inr h2)] at hK; exact hK
  · rw [if_neg (by omega)] at hK; exact hK
theorem sound_trust_CheckTrust : SoundC Tryd.prog tab n_trust_CheckTrust c_trust_CheckTrust := soundC_of ok_trust_CheckTrust hf_trust_CheckTrust hB_trust_CheckTrust (by
  intro vs bs p v bs' h hp
  unfold c_trust_CheckTrust at h
  split at h
  · cases h
    exact ⟨by kernel_rfl, rfl, .inl (run_trust_CheckTrust _ _ _ _ _ ⟨rfl, rfl⟩)⟩
  · cases h)

def c_meta_list : Contract := fun vs bs => match vs, bs with
  | [.one (.dat (.list .int) l)], [] => some (some (len l ≤ 1000 ∧ nums l = true), .one (.dat .str (listT l)), [])
  | _, _ => none
def Γ_meta_list : Ctx := [(n_strconv_Itoa, c_strconv_Itoa), (n_strings_Join, c_strings_Join)]
theorem ok_meta_list : Ok Tryd.prog tab Γ_meta_list := ((ok_nil.consC hf_strings_Join hB_strings_Join sound_strings_Join).consC hf_strconv_Itoa hB_strconv_Itoa sound_strconv_Itoa)
noncomputable def meta_list_L0 : List It := [.inLoop [8, 7, 6, 3, 2] (Code.sub (bodyOf fn_meta_list) [1, 1, 0, 1, 0, 0]), .inBlock 0, .code (Code.sub (bodyOf fn_meta_list) [1, 1, 1])]
def meta_list_S0 (x0 : Int) (x1 : Int) (x2 : (List Int)) (x3 : (List UInt8)) (x4 : (List (List UInt8))) : St := ⟨[(8, .one (.dat Ty.int x0)), (7, .one (.dat Ty.int x1)), (6, .one (.dat (Ty.list Ty.int) x2)), (3, .one (.own 0)), (2, .one (.dat Ty.str x3))], [(0, .arr Ty.str x4)], 1⟩
theorem meta_list_vc (l : List Int) (rec : List It → St → Prop) (K : V → List Blk → Prop) : segD Γ_meta_list tab fn_meta_list 0 K rec [.code (bodyOf fn_meta_list)] (initSt [.one (.dat (Ty.list Ty.int) l)] []) = (
    rec meta_list_L0 (meta_list_S0 (0 : Int) (((len l) : Nat) : Int) l [] [])) := by kernel_rfl
theorem meta_list_w (l : List Int) (m : Nat) (K : V → List Blk → Prop) : goD Γ_meta_list tab fn_meta_list 0 K (m + 1) [.code (bodyOf fn_meta_list)] (initSt [.one (.dat (Ty.list Ty.int) l)] []) = segD Γ_meta_list tab fn_meta_list 0 K (goD Γ_meta_list tab fn_meta_list 0 K m) [.code (bodyOf fn_meta_list)] (initSt [.one (.dat (Ty.list Ty.int) l)] []) := rfl
theorem meta_list_vc0 (x0 : Int) (x1 : Int) (x2 : (List Int)) (x3 : (List UInt8)) (x4 : (List (List UInt8))) (rec : List It → St → Prop) (K : V → List Blk → Prop) v0 (hv0 : v0 = (numT (nth x2 (Int.toNat x0) (Ty.dflt Ty.int)))) v1 (hv1 : v1 = (joinT ((32 : UInt8) :: []) x4)) : segD Γ_meta_list tab fn_meta_list 0 K rec (.code (Code.sub (bodyOf fn_meta_list) [1, 1, 0, 1, 0, 0]) :: meta_list_L0) (meta_list_S0 x0 x1 x2 x3 x4) = (
    br (lti x0 x1)
     ((((0 : Int) ≤ x0) ∧ (x0 < (((len x2) : Nat) : Int))) ∧
      ((((0 : Int) ≤ (nth x2 (Int.toNat x0) (Ty.dflt Ty.int))) ∧ ((nth x2 (Int.toNat x0) (Ty.dflt Ty.int)) ≤ (9223372036854775807 : Int))) ∧
      (((((len x4) + (len (v0 :: []))) * 16) ≤ 140737488355328) ∧
      (rec meta_list_L0 (meta_list_S0 (w64 (x0 + (1 : Int))) x1 x2 x3 (cat x4 (v0 :: [])))))))
     ((((List.length x4) ≤ 140737488355328) ∧ ((List.length v1) ≤ 140737488355328)) ∧
      (K (.one (.dat Ty.str v1)) []))) := by subst hv1; subst hv0; kernel_rfl
theorem meta_list_w0 (x0 : Int) (x1 : Int) (x2 : (List Int)) (x3 : (List UInt8)) (x4 : (List (List UInt8))) (m : Nat) (K : V → List Blk → Prop) : goD Γ_meta_list tab fn_meta_list 0 K (m + 1) meta_list_L0 (meta_list_S0 x0 x1 x2 x3 x4) = segD Γ_meta_list tab fn_meta_list 0 K (goD Γ_meta_list tab fn_meta_list 0 K m) (.code (Code.sub (bodyOf fn_meta_list) [1, 1, 0, 1, 0, 0]) :: meta_list_L0) (meta_list_S0 x0 x1 x2 x3 x4) := rfl

theorem loop_meta_list (l : List Int) (hl : l.length ≤ 1000) (hn : nums l = true) (K : V → List Blk → Prop) (hK : K (.one (.dat .str (listT l))) []) (y : List UInt8) : ∀ (d k : Nat), k + d = l.length →
    goD Γ_meta_list tab fn_meta_list 0 K (d + 1) meta_list_L0 (meta_list_S0 (k : Int) (((len l) : Nat) : Int) l y ((l.take k).map numT))
  | 0, k, hk => by
    rw [meta_list_w0, meta_list_vc0 _ _ _ _ _ _ _ _ rfl _ rfl, List.take_of_length_le (by omega)]
    have h1 := listT_len l
    unfold listT at h1
    exact lt_f (by simp only [len]; omega) ⟨⟨by rw [List.length_map]; omega, by omega⟩, hK⟩
  | d + 1, k, hk => by
    rw [meta_list_w0, meta_list_vc0 _ _ _ _ _ _ _ _ rfl _ rfl, toNat_nat]
    have hm : nth l k (Ty.dflt Ty.int) ∈ l := by
      have : k < l.length := by omega
      simp [nth, List.getD_eq_getElem?_getD, this]
    have h1 := List.all_eq_true.1 hn _ hm
    simp only [Bool.and_eq_true, decide_eq_true_eq] at h1
    refine lt_t (by simp only [len]; omega) ⟨⟨by omega, by simp only [len]; omega⟩, h1, by simp only [len, List.length_map, List.length_take, List.length_cons, List.length_nil]; omega, ?_⟩
    rw [w64_succ (by omega), show cat ((l.take k).map numT) [numT (nth l k (Ty.dflt Ty.int))] = (l.take (k + 1)).map numT from by rw [take_step (by omega) (Ty.dflt Ty.int)]; simp [cat]]
    exact loop_meta_list l hl hn K hK y d (k + 1) (by omega)
set_option maxHeartbeats 4000000 in
theorem run_meta_list (l : List Int) (hp : len l ≤ 1000 ∧ nums l = true) (K : V → List Blk → Prop) (hK : K (.one (.dat .str (listT l))) []) : ∃ m, goD Γ_meta_list tab fn_meta_list 0 K m [.code (bodyOf fn_meta_list)] (initSt [.one (.dat (.list .int) l)] []) := by
  refine ⟨l.length + 2, ?_⟩
  rw [meta_list_w, meta_list_vc _ _ _]
  exact loop_meta_list l hp.1 hp.2 K hK [] l.length 0 (by omega)
theorem sound_meta_list : SoundC Tryd.prog tab n_meta_list c_meta_list := soundC_of ok_meta_list hf_meta_list hB_meta_list (by
  intro vs bs p v bs' h hp
  unfold c_meta_list at h
  split at h
  · cases h
    exact ⟨by kernel_rfl, rfl, .inl (run_meta_list _ hp.1 _ ⟨rfl, rfl⟩)⟩
  · cases h)

def c_meta_RootText : Contract := fun vs bs => match vs, bs with
  | [.agg [.dat .int v, .dat (.list .int) ks, .dat .int t]], [] => some (none, .tup [.one (.dat .str (rootTextE v ks t).1), .one (.dat .int (rootTextE v ks t).2)], [])
  | _, _ => none
def Γ_meta_RootText : Ctx := [(n_meta_CheckRoot, c_meta_CheckRoot), (n_strconv_Itoa, c_strconv_Itoa), (n_meta_list, c_meta_list)]
theorem ok_meta_RootText : Ok Tryd.prog tab Γ_meta_RootText := (((ok_nil.consC hf_meta_list hB_meta_list sound_meta_list).consC hf_strconv_Itoa hB_strconv_Itoa sound_strconv_Itoa).consC hf_meta_CheckRoot hB_meta_CheckRoot sound_meta_CheckRoot)
theorem meta_RootText_vc (v : Int) (ks : List Int) (t : Int) (rec : List It → St → Prop) (K : V → List Blk → Prop) v0 (hv0 : v0 = (checkRoot v ks t)) v1 (hv1 : v1 = (numT v)) v2 (hv2 : v2 = (numT t)) v3 (hv3 : v3 = (nums ks)) v4 (hv4 : v4 = (listT ks)) : segD Γ_meta_RootText tab fn_meta_RootText 0 K rec [.code (bodyOf fn_meta_RootText)] (initSt [.agg [.dat Ty.int v, .dat (Ty.list Ty.int) ks, .dat Ty.int t]] []) = (
    br (!(eqi v0 (0 : Int)))
     (K (.tup [.one (.dat Ty.str []), .one (.dat Ty.int v0)]) [])
     ((((0 : Int) ≤ v) ∧ (v ≤ (9223372036854775807 : Int))) ∧
      ((((len ((114 : UInt8) :: ((111 : UInt8) :: ((111 : UInt8) :: ((116 : UInt8) :: ((32 : UInt8) :: [])))))) + (len v1)) ≤ 140737488355328) ∧
      ((((len (cat ((114 : UInt8) :: ((111 : UInt8) :: ((111 : UInt8) :: ((116 : UInt8) :: ((32 : UInt8) :: []))))) v1)) + (len ((32 : UInt8) :: []))) ≤ 140737488355328) ∧
      ((((0 : Int) ≤ t) ∧ (t ≤ (9223372036854775807 : Int))) ∧
      ((((len (cat (cat ((114 : UInt8) :: ((111 : UInt8) :: ((111 : UInt8) :: ((116 : UInt8) :: ((32 : UInt8) :: []))))) v1) ((32 : UInt8) :: []))) + (len v2)) ≤ 140737488355328) ∧
      ((((len (cat (cat (cat ((114 : UInt8) :: ((111 : UInt8) :: ((111 : UInt8) :: ((116 : UInt8) :: ((32 : UInt8) :: []))))) v1) ((32 : UInt8) :: [])) v2)) + (len ((32 : UInt8) :: ((111 : UInt8) :: ((102 : UInt8) :: ((32 : UInt8) :: [])))))) ≤ 140737488355328) ∧
      ((((len ks) ≤ 1000) ∧ (v3 = true)) ∧
      ((((len (cat (cat (cat (cat ((114 : UInt8) :: ((111 : UInt8) :: ((111 : UInt8) :: ((116 : UInt8) :: ((32 : UInt8) :: []))))) v1) ((32 : UInt8) :: [])) v2) ((32 : UInt8) :: ((111 : UInt8) :: ((102 : UInt8) :: ((32 : UInt8) :: [])))))) + (len v4)) ≤ 140737488355328) ∧
      (K (.tup [.one (.dat Ty.str (cat (cat (cat (cat (cat ((114 : UInt8) :: ((111 : UInt8) :: ((111 : UInt8) :: ((116 : UInt8) :: ((32 : UInt8) :: []))))) v1) ((32 : UInt8) :: [])) v2) ((32 : UInt8) :: ((111 : UInt8) :: ((102 : UInt8) :: ((32 : UInt8) :: []))))) v4)), .one (.dat Ty.int (0 : Int))]) [])))))))))) := by subst hv4; subst hv3; subst hv2; subst hv1; subst hv0; kernel_rfl
theorem meta_RootText_w (v : Int) (ks : List Int) (t : Int) (m : Nat) (K : V → List Blk → Prop) : goD Γ_meta_RootText tab fn_meta_RootText 0 K (m + 1) [.code (bodyOf fn_meta_RootText)] (initSt [.agg [.dat Ty.int v, .dat (Ty.list Ty.int) ks, .dat Ty.int t]] []) = segD Γ_meta_RootText tab fn_meta_RootText 0 K (goD Γ_meta_RootText tab fn_meta_RootText 0 K m) [.code (bodyOf fn_meta_RootText)] (initSt [.agg [.dat Ty.int v, .dat (Ty.list Ty.int) ks, .dat Ty.int t]] []) := rfl

set_option maxHeartbeats 4000000 in
theorem run_meta_RootText (v : Int) (ks : List Int) (t : Int) (K : V → List Blk → Prop) (hK : K (.tup [.one (.dat .str (rootTextE v ks t).1), .one (.dat .int (rootTextE v ks t).2)]) []) : ∃ m, goD Γ_meta_RootText tab fn_meta_RootText 0 K m [.code (bodyOf fn_meta_RootText)] (initSt [.agg [.dat .int v, .dat (.list .int) ks, .dat .int t]] []) := by
  refine ⟨1, ?_⟩
  rw [meta_RootText_w, meta_RootText_vc _ _ _ _ _ _ rfl _ rfl _ rfl _ rfl _ rfl]
  unfold rootTextE at hK
  refine ne_s (fun h => ?_) (fun h => ?_)
  · rw [if_neg h] at hK; exact hK
  rw [if_pos h] at hK
  obtain ⟨h1, h2, h3, h4, h5, h6⟩ := checkRoot_ok h
  have n1 := numT_len v
  have n2 := numT_len t
  have n3 := listT_len ks
  refine ⟨by omega, by simp only [len, List.length_cons, List.length_nil]; omega, by simp only [len, cat, List.length_append, List.length_cons, List.length_nil]; omega, by omega, by simp only [len, cat, List.length_append, List.length_cons, List.length_nil]; omega, by simp only [len, cat, List.length_append, List.length_cons, List.length_nil]; omega, ⟨by simp only [len]; omega, h6⟩, by simp only [len, cat, List.length_append, List.length_cons, List.length_nil]; omega, hK⟩
theorem sound_meta_RootText : SoundC Tryd.prog tab n_meta_RootText c_meta_RootText := soundC_of ok_meta_RootText hf_meta_RootText hB_meta_RootText (by
  intro vs bs p v bs' h hp
  unfold c_meta_RootText at h
  split at h
  · cases h
    exact ⟨by kernel_rfl, rfl, .inl (run_meta_RootText _ _ _ _ ⟨rfl, rfl⟩)⟩
  · cases h)

def c_slices_Index_Lstring : Contract := fun vs bs => match vs, bs with
  | [.one (.dat (.list .str) l), .one (.dat .str s)], [] => some (some (l.length ≤ 140737488355328), .one (.dat .int (indexS s l)), [])
  | _, _ => none
def Γ_slices_Index_Lstring : Ctx := []
theorem ok_slices_Index_Lstring : Ok Tryd.prog tab Γ_slices_Index_Lstring := ok_nil
noncomputable def slices_Index_Lstring_L0 : List It := [.inLoop [8, 7, 4, 0, 1] (Code.sub (bodyOf fn_slices_Index_Lstring) [1, 0, 1, 0, 0]), .inBlock 0, .code (Code.sub (bodyOf fn_slices_Index_Lstring) [1, 1])]
def slices_Index_Lstring_S0 (x0 : Int) (x1 : Int) (x2 : Int) (x3 : (List (List UInt8))) (x4 : (List UInt8)) : St := ⟨[(8, .one (.dat Ty.int x0)), (7, .one (.dat Ty.int x1)), (4, .one (.dat Ty.int x2)), (0, .one (.dat (Ty.list Ty.str) x3)), (1, .one (.dat Ty.str x4))], [], 0⟩
theorem slices_Index_Lstring_vc (l : List (List UInt8)) (s : List UInt8) (rec : List It → St → Prop) (K : V → List Blk → Prop) : segD Γ_slices_Index_Lstring tab fn_slices_Index_Lstring 0 K rec [.code (bodyOf fn_slices_Index_Lstring)] (initSt [.one (.dat (Ty.list Ty.str) l), .one (.dat Ty.str s)] []) = (
    rec slices_Index_Lstring_L0 (slices_Index_Lstring_S0 (0 : Int) (((len l) : Nat) : Int) (0 : Int) l s)) := by kernel_rfl
theorem slices_Index_Lstring_w (l : List (List UInt8)) (s : List UInt8) (m : Nat) (K : V → List Blk → Prop) : goD Γ_slices_Index_Lstring tab fn_slices_Index_Lstring 0 K (m + 1) [.code (bodyOf fn_slices_Index_Lstring)] (initSt [.one (.dat (Ty.list Ty.str) l), .one (.dat Ty.str s)] []) = segD Γ_slices_Index_Lstring tab fn_slices_Index_Lstring 0 K (goD Γ_slices_Index_Lstring tab fn_slices_Index_Lstring 0 K m) [.code (bodyOf fn_slices_Index_Lstring)] (initSt [.one (.dat (Ty.list Ty.str) l), .one (.dat Ty.str s)] []) := rfl
theorem slices_Index_Lstring_vc0 (x0 : Int) (x1 : Int) (x2 : Int) (x3 : (List (List UInt8))) (x4 : (List UInt8)) (rec : List It → St → Prop) (K : V → List Blk → Prop) : segD Γ_slices_Index_Lstring tab fn_slices_Index_Lstring 0 K rec (.code (Code.sub (bodyOf fn_slices_Index_Lstring) [1, 0, 1, 0, 0]) :: slices_Index_Lstring_L0) (slices_Index_Lstring_S0 x0 x1 x2 x3 x4) = (
    br (lti x0 x1)
     ((((0 : Int) ≤ x0) ∧ (x0 < (((len x3) : Nat) : Int))) ∧
      (br (eqs x4 (nth x3 (Int.toNat x0) (Ty.dflt Ty.str)))
       (K (.one (.dat Ty.int x0)) [])
       (rec slices_Index_Lstring_L0 (slices_Index_Lstring_S0 (w64 (x0 + (1 : Int))) x1 x2 x3 x4))))
     (K (.one (.dat Ty.int (-(1 : Int)))) [])) := by kernel_rfl
theorem slices_Index_Lstring_w0 (x0 : Int) (x1 : Int) (x2 : Int) (x3 : (List (List UInt8))) (x4 : (List UInt8)) (m : Nat) (K : V → List Blk → Prop) : goD Γ_slices_Index_Lstring tab fn_slices_Index_Lstring 0 K (m + 1) slices_Index_Lstring_L0 (slices_Index_Lstring_S0 x0 x1 x2 x3 x4) = segD Γ_slices_Index_Lstring tab fn_slices_Index_Lstring 0 K (goD Γ_slices_Index_Lstring tab fn_slices_Index_Lstring 0 K m) (.code (Code.sub (bodyOf fn_slices_Index_Lstring) [1, 0, 1, 0, 0]) :: slices_Index_Lstring_L0) (slices_Index_Lstring_S0 x0 x1 x2 x3 x4) := rfl

theorem loop_slices_Index_Lstring (l : List (List UInt8)) (s : List UInt8) (hl : l.length ≤ 140737488355328) (K : V → List Blk → Prop) : ∀ (d k : Nat), k + d = l.length → K (.one (.dat .int (indexFrom k s (l.drop k)))) [] →
    goD Γ_slices_Index_Lstring tab fn_slices_Index_Lstring 0 K (d + 1) slices_Index_Lstring_L0 (slices_Index_Lstring_S0 (k : Int) (((len l) : Nat) : Int) 0 l s)
  | 0, k, hk, hK => by
    rw [slices_Index_Lstring_w0, slices_Index_Lstring_vc0 _ _ _ _ _ _ _]
    rw [List.drop_of_length_le (by omega)] at hK
    exact lt_f (by simp only [len]; omega) hK
  | d + 1, k, hk, hK => by
    rw [slices_Index_Lstring_w0, slices_Index_Lstring_vc0 _ _ _ _ _ _ _, toNat_nat]
    rw [drop_step (by omega) (Ty.dflt Ty.str)] at hK
    simp only [indexFrom] at hK
    refine lt_t (by simp only [len]; omega) ⟨⟨by omega, by simp only [len]; omega⟩, br_split (fun h => ?_) (fun h => ?_)⟩
    · rw [eqs_true] at h
      rw [if_pos h.symm] at hK; exact hK
    · rw [eqs_false] at h
      rw [if_neg (fun e => h e.symm)] at hK
      rw [w64_succ (by omega)]
      exact loop_slices_Index_Lstring l s hl K d (k + 1) (by omega) hK
set_option maxHeartbeats 4000000 in
theorem run_slices_Index_Lstring (l : List (List UInt8)) (s : List UInt8) (hp : l.length ≤ 140737488355328) (K : V → List Blk → Prop) (hK : K (.one (.dat .int (indexS s l))) []) : ∃ m, goD Γ_slices_Index_Lstring tab fn_slices_Index_Lstring 0 K m [.code (bodyOf fn_slices_Index_Lstring)] (initSt [.one (.dat (.list .str) l), .one (.dat .str s)] []) := by
  refine ⟨l.length + 2, ?_⟩
  rw [slices_Index_Lstring_w, slices_Index_Lstring_vc _ _ _ _]
  exact loop_slices_Index_Lstring l s hp K l.length 0 (by omega) hK
theorem sound_slices_Index_Lstring : SoundC Tryd.prog tab n_slices_Index_Lstring c_slices_Index_Lstring := soundC_of ok_slices_Index_Lstring hf_slices_Index_Lstring hB_slices_Index_Lstring (by
  intro vs bs p v bs' h hp
  unfold c_slices_Index_Lstring at h
  split at h
  · cases h
    exact ⟨by kernel_rfl, rfl, .inl (run_slices_Index_Lstring _ _ hp.1 _ ⟨rfl, rfl⟩)⟩
  · cases h)

def c_slices_Contains_Lstring : Contract := fun vs bs => match vs, bs with
  | [.one (.dat (.list .str) l), .one (.dat .str s)], [] => some (some (l.length ≤ 140737488355328), .one (.dat .bool (hasS s l)), [])
  | _, _ => none
def Γ_slices_Contains_Lstring : Ctx := [(n_slices_Index_Lstring, c_slices_Index_Lstring)]
theorem ok_slices_Contains_Lstring : Ok Tryd.prog tab Γ_slices_Contains_Lstring := (ok_nil.consC hf_slices_Index_Lstring hB_slices_Index_Lstring sound_slices_Index_Lstring)
theorem slices_Contains_Lstring_vc (l : List (List UInt8)) (s : List UInt8) (rec : List It → St → Prop) (K : V → List Blk → Prop) v0 (hv0 : v0 = (indexS s l)) : segD Γ_slices_Contains_Lstring tab fn_slices_Contains_Lstring 0 K rec [.code (bodyOf fn_slices_Contains_Lstring)] (initSt [.one (.dat (Ty.list Ty.str) l), .one (.dat Ty.str s)] []) = (
    ((List.length l) ≤ 140737488355328) ∧
    (K (.one (.dat Ty.bool (lei (0 : Int) v0))) [])) := by subst hv0; kernel_rfl
theorem slices_Contains_Lstring_w (l : List (List UInt8)) (s : List UInt8) (m : Nat) (K : V → List Blk → Prop) : goD Γ_slices_Contains_Lstring tab fn_slices_Contains_Lstring 0 K (m + 1) [.code (bodyOf fn_slices_Contains_Lstring)] (initSt [.one (.dat (Ty.list Ty.str) l), .one (.dat Ty.str s)] []) = segD Γ_slices_Contains_Lstring tab fn_slices_Contains_Lstring 0 K (goD Γ_slices_Contains_Lstring tab fn_slices_Contains_Lstring 0 K m) [.code (bodyOf fn_slices_Contains_Lstring)] (initSt [.one (.dat (Ty.list Ty.str) l), .one (.dat Ty.str s)] []) := rfl

set_option maxHeartbeats 4000000 in
theorem run_slices_Contains_Lstring (l : List (List UInt8)) (s : List UInt8) (hp : l.length ≤ 140737488355328) (K : V → List Blk → Prop) (hK : K (.one (.dat .bool (hasS s l))) []) : ∃ m, goD Γ_slices_Contains_Lstring tab fn_slices_Contains_Lstring 0 K m [.code (bodyOf fn_slices_Contains_Lstring)] (initSt [.one (.dat (.list .str) l), .one (.dat .str s)] []) := by
  refine ⟨1, ?_⟩
  rw [slices_Contains_Lstring_w, slices_Contains_Lstring_vc _ _ _ _ _ rfl]
  rw [show lei 0 (indexS s l) = hasS s l from indexS_has s l]
  exact ⟨hp, hK⟩
theorem sound_slices_Contains_Lstring : SoundC Tryd.prog tab n_slices_Contains_Lstring c_slices_Contains_Lstring := soundC_of ok_slices_Contains_Lstring hf_slices_Contains_Lstring hB_slices_Contains_Lstring (by
  intro vs bs p v bs' h hp
  unfold c_slices_Contains_Lstring at h
  split at h
  · cases h
    exact ⟨by kernel_rfl, rfl, .inl (run_slices_Contains_Lstring _ _ hp.1 _ ⟨rfl, rfl⟩)⟩
  · cases h)

def c_meta_CheckBook : Contract := fun vs bs => match vs, bs with
  | [.agg [.dat (.list .str) l]], [] => some (none, .one (.dat .int (checkBook l)), [])
  | _, _ => none
def Γ_meta_CheckBook : Ctx := [(n_slices_Contains_Lstring, c_slices_Contains_Lstring)]
theorem ok_meta_CheckBook : Ok Tryd.prog tab Γ_meta_CheckBook := (ok_nil.consC hf_slices_Contains_Lstring hB_slices_Contains_Lstring sound_slices_Contains_Lstring)
noncomputable def meta_CheckBook_L0 : List It := [.inLoop [12, 11, 10, 2, 1] (Code.sub (bodyOf fn_meta_CheckBook) [1, 1, 0, 1, 0, 0]), .inBlock 0, .code (Code.sub (bodyOf fn_meta_CheckBook) [1, 1, 1])]
def meta_CheckBook_S0 (x0 : Int) (x1 : Int) (x2 : (List (List UInt8))) (x3 : Int) (x4 : (List (List UInt8))) : St := ⟨[(12, .one (.dat Ty.int x0)), (11, .one (.dat Ty.int x1)), (10, .one (.dat (Ty.list Ty.str) x2)), (2, .one (.dat Ty.int x3)), (1, .one (.ptr 0 0))], [(0, .box [.dat (Ty.list Ty.str) x4])], 1⟩
theorem meta_CheckBook_vc (l : List (List UInt8)) (rec : List It → St → Prop) (K : V → List Blk → Prop) : segD Γ_meta_CheckBook tab fn_meta_CheckBook 0 K rec [.code (bodyOf fn_meta_CheckBook)] (initSt [.agg [.dat (Ty.list Ty.str) l]] []) = (
    br (lti (60 : Int) (((len l) : Nat) : Int))
     (K (.one (.dat Ty.int (2 : Int))) [])
     (rec meta_CheckBook_L0 (meta_CheckBook_S0 (0 : Int) (((len l) : Nat) : Int) l (0 : Int) l))) := by kernel_rfl
theorem meta_CheckBook_w (l : List (List UInt8)) (m : Nat) (K : V → List Blk → Prop) : goD Γ_meta_CheckBook tab fn_meta_CheckBook 0 K (m + 1) [.code (bodyOf fn_meta_CheckBook)] (initSt [.agg [.dat (Ty.list Ty.str) l]] []) = segD Γ_meta_CheckBook tab fn_meta_CheckBook 0 K (goD Γ_meta_CheckBook tab fn_meta_CheckBook 0 K m) [.code (bodyOf fn_meta_CheckBook)] (initSt [.agg [.dat (Ty.list Ty.str) l]] []) := rfl
theorem meta_CheckBook_vc0 (x0 : Int) (x1 : Int) (x2 : (List (List UInt8))) (x3 : Int) (x4 : (List (List UInt8))) (rec : List It → St → Prop) (K : V → List Blk → Prop) v0 (hv0 : v0 = (hasS (nth x2 (Int.toNat x0) (Ty.dflt Ty.str)) (slc x4 (Int.toNat (0 : Int)) (Int.toNat x0)))) : segD Γ_meta_CheckBook tab fn_meta_CheckBook 0 K rec (.code (Code.sub (bodyOf fn_meta_CheckBook) [1, 1, 0, 1, 0, 0]) :: meta_CheckBook_L0) (meta_CheckBook_S0 x0 x1 x2 x3 x4) = (
    br (lti x0 x1)
     ((((0 : Int) ≤ x0) ∧ (x0 < (((len x2) : Nat) : Int))) ∧
      (br (lti (2000 : Int) (((len (nth x2 (Int.toNat x0) (Ty.dflt Ty.str))) : Nat) : Int))
       (K (.one (.dat Ty.int (2 : Int))) [])
       ((((0 : Int) ≤ (0 : Int)) ∧ (((0 : Int) ≤ x0) ∧ (x0 ≤ (((len x4) : Nat) : Int)))) ∧
        (((List.length (slc x4 (Int.toNat (0 : Int)) (Int.toNat x0))) ≤ 140737488355328) ∧
        (br v0
         (K (.one (.dat Ty.int (6 : Int))) [])
         (rec meta_CheckBook_L0 (meta_CheckBook_S0 (w64 (x0 + (1 : Int))) x1 x2 x3 x4)))))))
     (K (.one (.dat Ty.int (0 : Int))) [])) := by subst hv0; kernel_rfl
theorem meta_CheckBook_w0 (x0 : Int) (x1 : Int) (x2 : (List (List UInt8))) (x3 : Int) (x4 : (List (List UInt8))) (m : Nat) (K : V → List Blk → Prop) : goD Γ_meta_CheckBook tab fn_meta_CheckBook 0 K (m + 1) meta_CheckBook_L0 (meta_CheckBook_S0 x0 x1 x2 x3 x4) = segD Γ_meta_CheckBook tab fn_meta_CheckBook 0 K (goD Γ_meta_CheckBook tab fn_meta_CheckBook 0 K m) (.code (Code.sub (bodyOf fn_meta_CheckBook) [1, 1, 0, 1, 0, 0]) :: meta_CheckBook_L0) (meta_CheckBook_S0 x0 x1 x2 x3 x4) := rfl

theorem loop_meta_CheckBook (l : List (List UInt8)) (hl : l.length ≤ 60) (K : V → List Blk → Prop) : ∀ (d k : Nat), k + d = l.length → K (.one (.dat .int (bookFrom (l.take k) (l.drop k)))) [] →
    goD Γ_meta_CheckBook tab fn_meta_CheckBook 0 K (d + 1) meta_CheckBook_L0 (meta_CheckBook_S0 (k : Int) (((len l) : Nat) : Int) l 0 l)
  | 0, k, hk, hK => by
    rw [meta_CheckBook_w0, meta_CheckBook_vc0 _ _ _ _ _ _ _ _ rfl]
    rw [List.drop_of_length_le (by omega)] at hK
    exact lt_f (by simp only [len]; omega) hK
  | d + 1, k, hk, hK => by
    rw [meta_CheckBook_w0, meta_CheckBook_vc0 _ _ _ _ _ _ _ _ rfl, toNat_nat, show Int.toNat (0 : Int) = 0 from rfl, slc_take]
    rw [drop_step (by omega) (Ty.dflt Ty.str)] at hK
    simp only [bookFrom] at hK
    refine lt_t (by simp only [len]; omega) ⟨⟨by omega, by simp only [len]; omega⟩, lt_s (fun h => ?_) (fun h => ⟨⟨by omega, by omega, by simp only [len]; omega⟩, by rw [List.length_take]; omega, br_split (fun h2 => ?_) (fun h2 => ?_)⟩)⟩
    · rw [if_pos (by simp only [len] at h; omega)] at hK; exact hK
    · rw [if_neg (by simp only [len] at h; omega), if_pos h2] at hK; exact hK
    · rw [if_neg (by simp only [len] at h; omega), if_neg (by rw [h2]; simp)] at hK
      rw [w64_succ (by omega)]
      rw [← take_step (by omega) (Ty.dflt Ty.str)] at hK
      exact loop_meta_CheckBook l hl K d (k + 1) (by omega) hK
set_option maxHeartbeats 4000000 in
theorem run_meta_CheckBook (l : List (List UInt8)) (K : V → List Blk → Prop) (hK : K (.one (.dat .int (checkBook l))) []) : ∃ m, goD Γ_meta_CheckBook tab fn_meta_CheckBook 0 K m [.code (bodyOf fn_meta_CheckBook)] (initSt [.agg [.dat (.list .str) l]] []) := by
  refine ⟨l.length + 2, ?_⟩
  rw [meta_CheckBook_w, meta_CheckBook_vc _ _ _]
  unfold checkBook at hK
  refine lt_s (fun h => ?_) (fun h => ?_)
  · rw [if_pos (by simp only [len] at h; omega)] at hK; exact hK
  · rw [if_neg (by simp only [len] at h; omega)] at hK
    exact loop_meta_CheckBook l (by simp only [len] at h; omega) K l.length 0 (by omega) hK
theorem sound_meta_CheckBook : SoundC Tryd.prog tab n_meta_CheckBook c_meta_CheckBook := soundC_of ok_meta_CheckBook hf_meta_CheckBook hB_meta_CheckBook (by
  intro vs bs p v bs' h hp
  unfold c_meta_CheckBook at h
  split at h
  · cases h
    exact ⟨by kernel_rfl, rfl, .inl (run_meta_CheckBook _ _ ⟨rfl, rfl⟩)⟩
  · cases h)

def c_meta_Name : Contract := fun vs bs => match vs, bs with
  | [.agg [.dat (.list .str) l], .one (.dat .str s)], [] => some (some (l.length ≤ 140737488355328), .tup [.one (.dat .int (nameB l s).1), .one (.dat .int (nameB l s).2)], [])
  | _, _ => none
def Γ_meta_Name : Ctx := [(n_meta_CheckBook, c_meta_CheckBook), (n_slices_Index_Lstring, c_slices_Index_Lstring)]
theorem ok_meta_Name : Ok Tryd.prog tab Γ_meta_Name := ((ok_nil.consC hf_slices_Index_Lstring hB_slices_Index_Lstring sound_slices_Index_Lstring).consC hf_meta_CheckBook hB_meta_CheckBook sound_meta_CheckBook)
theorem meta_Name_vc (l : List (List UInt8)) (s : List UInt8) (rec : List It → St → Prop) (K : V → List Blk → Prop) v0 (hv0 : v0 = (checkBook l)) v1 (hv1 : v1 = (indexS s l)) : segD Γ_meta_Name tab fn_meta_Name 0 K rec [.code (bodyOf fn_meta_Name)] (initSt [.agg [.dat (Ty.list Ty.str) l], .one (.dat Ty.str s)] []) = (
    br (!(eqi v0 (0 : Int)))
     (K (.tup [.one (.dat Ty.int (0 : Int)), .one (.dat Ty.int v0)]) [])
     (((List.length l) ≤ 140737488355328) ∧
      (K (.tup [.one (.dat Ty.int (w64 (v1 + (1 : Int)))), .one (.dat Ty.int (0 : Int))]) []))) := by subst hv1; subst hv0; kernel_rfl
theorem meta_Name_w (l : List (List UInt8)) (s : List UInt8) (m : Nat) (K : V → List Blk → Prop) : goD Γ_meta_Name tab fn_meta_Name 0 K (m + 1) [.code (bodyOf fn_meta_Name)] (initSt [.agg [.dat (Ty.list Ty.str) l], .one (.dat Ty.str s)] []) = segD Γ_meta_Name tab fn_meta_Name 0 K (goD Γ_meta_Name tab fn_meta_Name 0 K m) [.code (bodyOf fn_meta_Name)] (initSt [.agg [.dat (Ty.list Ty.str) l], .one (.dat Ty.str s)] []) := rfl

set_option maxHeartbeats 4000000 in
theorem run_meta_Name (l : List (List UInt8)) (s : List UInt8) (hp : l.length ≤ 140737488355328) (K : V → List Blk → Prop) (hK : K (.tup [.one (.dat .int (nameB l s).1), .one (.dat .int (nameB l s).2)]) []) : ∃ m, goD Γ_meta_Name tab fn_meta_Name 0 K m [.code (bodyOf fn_meta_Name)] (initSt [.agg [.dat (.list .str) l], .one (.dat .str s)] []) := by
  refine ⟨1, ?_⟩
  rw [meta_Name_w, meta_Name_vc _ _ _ _ _ rfl _ rfl]
  unfold nameB at hK
  refine ne_s (fun h => ?_) (fun h => ⟨hp, ?_⟩)
  · rw [if_neg h] at hK; exact hK
  · rw [if_pos h] at hK
    have := indexFrom_range s l 0 (by omega)
    rw [w64_id (by unfold indexS; omega) (by unfold indexS; omega)]
    exact hK
theorem sound_meta_Name : SoundC Tryd.prog tab n_meta_Name c_meta_Name := soundC_of ok_meta_Name hf_meta_Name hB_meta_Name (by
  intro vs bs p v bs' h hp
  unfold c_meta_Name at h
  split at h
  · cases h
    exact ⟨by kernel_rfl, rfl, .inl (run_meta_Name _ _ hp.1 _ ⟨rfl, rfl⟩)⟩
  · cases h)

def c_slices_Clone_Lint : Contract := fun vs bs => match vs, bs with
  | [.one (.dat (.list .int) l)], [] => some (some (len l * 8 ≤ 140737488355328), .one (.own 0), [.arr .int l])
  | _, _ => none
def Γ_slices_Clone_Lint : Ctx := []
theorem ok_slices_Clone_Lint : Ok Tryd.prog tab Γ_slices_Clone_Lint := ok_nil
theorem slices_Clone_Lint_vc (l : List Int) (rec : List It → St → Prop) (K : V → List Blk → Prop) : segO Γ_slices_Clone_Lint tab fn_slices_Clone_Lint 0 K rec [.code (bodyOf fn_slices_Clone_Lint)] (initSt [.one (.dat (Ty.list Ty.int) l)] []) = (
    (∀ bn : Bool, (((bn = true) → ((len l) = 0)) → br bn
       (K (.one (.own 0)) [.arr Ty.int []])
       ((((0 + (len l)) * 8) ≤ 140737488355328) ∧
        (K (.one (.own 0)) [.arr Ty.int (cat [] l)]))))) := by kernel_rfl
theorem slices_Clone_Lint_w (l : List Int) (m : Nat) (K : V → List Blk → Prop) : goO Γ_slices_Clone_Lint tab fn_slices_Clone_Lint 0 K (m + 1) [.code (bodyOf fn_slices_Clone_Lint)] (initSt [.one (.dat (Ty.list Ty.int) l)] []) = segO Γ_slices_Clone_Lint tab fn_slices_Clone_Lint 0 K (goO Γ_slices_Clone_Lint tab fn_slices_Clone_Lint 0 K m) [.code (bodyOf fn_slices_Clone_Lint)] (initSt [.one (.dat (Ty.list Ty.int) l)] []) := rfl

set_option maxHeartbeats 4000000 in
theorem run_slices_Clone_Lint (l : List Int) (hp : len l * 8 ≤ 140737488355328) (K : V → List Blk → Prop) (hK : K (.one (.own 0)) [.arr .int l]) : ∃ m, goO Γ_slices_Clone_Lint tab fn_slices_Clone_Lint 0 K m [.code (bodyOf fn_slices_Clone_Lint)] (initSt [.one (.dat (.list .int) l)] []) := by
  refine ⟨1, ?_⟩
  rw [slices_Clone_Lint_w, slices_Clone_Lint_vc _ _ _]
  intro bn hb
  refine br_split (fun h => ?_) (fun h => ⟨by simp only [len] at hp ⊢; omega, hK⟩)
  have : l = [] := List.length_eq_zero_iff.1 (hb h)
  subst this
  exact hK
theorem sound_slices_Clone_Lint : SoundC Tryd.prog tab n_slices_Clone_Lint c_slices_Clone_Lint := soundC_of ok_slices_Clone_Lint hf_slices_Clone_Lint hB_slices_Clone_Lint (by
  intro vs bs p v bs' h hp
  unfold c_slices_Clone_Lint at h
  split at h
  · cases h
    exact ⟨by kernel_rfl, rfl, .inr (run_slices_Clone_Lint _ hp.1 _ ⟨rfl, rfl⟩)⟩
  · cases h)

def c_trust_Turn : Contract := fun vs bs => match vs, bs with
  | [.agg [.dat (.list .str) b], .one (.dat (.list .signed) l), .agg [.dat .int v, .dat (.list .int) ks, .dat .int t, .dat .int n], .agg [.dat .int nv, .dat (.list .int) nk, .dat .int nt], .one (.dat (.list .int) sg)], [] => some (some (b.length ≤ 140737488355328), .tup [.agg [.dat .int (turnT b l ⟨⟨v, ks, t⟩, n⟩ ⟨nv, nk, nt⟩ sg).1.r.version, .dat (.list .int) (turnT b l ⟨⟨v, ks, t⟩, n⟩ ⟨nv, nk, nt⟩ sg).1.r.keys, .dat .int (turnT b l ⟨⟨v, ks, t⟩, n⟩ ⟨nv, nk, nt⟩ sg).1.r.thr, .dat .int (turnT b l ⟨⟨v, ks, t⟩, n⟩ ⟨nv, nk, nt⟩ sg).1.version], .one (.dat .int (turnT b l ⟨⟨v, ks, t⟩, n⟩ ⟨nv, nk, nt⟩ sg).2)], [])
  | _, _ => none
def Γ_trust_Turn : Ctx := [(n_trust_CheckTrust, c_trust_CheckTrust), (n_meta_RootText, c_meta_RootText), (n_meta_Name, c_meta_Name), (n_trust_Count, c_trust_Count), (n_slices_Clone_Lint, c_slices_Clone_Lint)]
theorem ok_trust_Turn : Ok Tryd.prog tab Γ_trust_Turn := (((((ok_nil.consC hf_slices_Clone_Lint hB_slices_Clone_Lint sound_slices_Clone_Lint).consC hf_trust_Count hB_trust_Count sound_trust_Count).consC hf_meta_Name hB_meta_Name sound_meta_Name).consC hf_meta_RootText hB_meta_RootText sound_meta_RootText).consC hf_trust_CheckTrust hB_trust_CheckTrust sound_trust_CheckTrust)
noncomputable def trust_Turn_L0 : List It := [.inLoop [57, 56, 15, 11, 10, 8, 7, 1, 4] (Code.sub (bodyOf fn_trust_Turn) [1, 1, 1, 1, 1, 1, 1, 0, 1, 0, 0]), .inBlock 0, .code (Code.sub (bodyOf fn_trust_Turn) [1, 1, 1, 1, 1, 1, 1, 1])]
def trust_Turn_S0 (x0 : Int) (x1 : Int) (x2 : (List Int)) (x3 : Int) (x4 : Int) (x5 : (List Int)) (x6 : Int) (x7 : Int) (x8 : Int) (x9 : (List Vm.Signed)) (x10 : (List Int)) (x11 : Int) (x12 : Int) (x13 : Int) (x14 : Int) (x15 : (List Int)) (x16 : Int) (x17 : Int) (x18 : (List Int)) (x19 : Int) (x20 : Int) (x21 : (List Int)) : St := ⟨[(57, .one (.dat Ty.int x0)), (56, .agg [.dat Ty.int x1, .dat (Ty.list Ty.int) x2, .dat Ty.int x3, .dat Ty.int x4, .dat (Ty.list Ty.int) x5, .dat Ty.int x6]), (15, .one (.dat Ty.int x7)), (11, .one (.dat Ty.int x8)), (10, .one (.ptr 0 0)), (8, .one (.ptr 1 0)), (7, .one (.ptr 2 0)), (1, .one (.dat (Ty.list Ty.signed) x9)), (4, .one (.dat (Ty.list Ty.int) x10))], [(0, .box [.dat Ty.int x11, .own 3, .dat Ty.int x12, .dat Ty.int x13]), (1, .box [.dat Ty.int x14, .dat (Ty.list Ty.int) x15, .dat Ty.int x16]), (2, .box [.dat Ty.int x17, .dat (Ty.list Ty.int) x18, .dat Ty.int x19, .dat Ty.int x20]), (3, .arr Ty.int x21)], 4⟩
theorem trust_Turn_vc (b : List (List UInt8)) (l : List Signed) (v : Int) (ks : List Int) (t : Int) (n : Int) (nv : Int) (nk : List Int) (nt : Int) (sg : List Int) (rec : List It → St → Prop) (K : V → List Blk → Prop) v0 (hv0 : v0 = (checkTrust (⟨(⟨v, ks, t⟩ : Vm.Root), n⟩ : Vm.Trust))) v1 (hv1 : v1 = (rootTextE nv nk nt)) v2 (hv2 : v2 = (nameB b (v1).fst)) : segD Γ_trust_Turn tab fn_trust_Turn 0 K rec [.code (bodyOf fn_trust_Turn)] (initSt [.agg [.dat (Ty.list Ty.str) b], .one (.dat (Ty.list Ty.signed) l), .agg [.dat Ty.int v, .dat (Ty.list Ty.int) ks, .dat Ty.int t, .dat Ty.int n], .agg [.dat Ty.int nv, .dat (Ty.list Ty.int) nk, .dat Ty.int nt], .one (.dat (Ty.list Ty.int) sg)] []) = (
    br (!(eqi v0 (0 : Int)))
     (K (.tup [.agg [.dat Ty.int (0 : Int), .dat (Ty.list Ty.int) [], .dat Ty.int (0 : Int), .dat Ty.int (0 : Int)], .one (.dat Ty.int v0)]) [])
     (br (!(eqi (v1).snd (0 : Int)))
       (K (.tup [.agg [.dat Ty.int (0 : Int), .dat (Ty.list Ty.int) [], .dat Ty.int (0 : Int), .dat Ty.int (0 : Int)], .one (.dat Ty.int (v1).snd)]) [])
       (((List.length b) ≤ 140737488355328) ∧
        (br (!(eqi (v2).snd (0 : Int)))
         (K (.tup [.agg [.dat Ty.int (0 : Int), .dat (Ty.list Ty.int) [], .dat Ty.int (0 : Int), .dat Ty.int (0 : Int)], .one (.dat Ty.int (v2).snd)]) [])
         (br (!(eqi nv (w64 (v + (1 : Int)))))
           (K (.tup [.agg [.dat Ty.int (0 : Int), .dat (Ty.list Ty.int) [], .dat Ty.int (0 : Int), .dat Ty.int (0 : Int)], .one (.dat Ty.int (10 : Int))]) [])
           (rec trust_Turn_L0 (trust_Turn_S0 (0 : Int) v ks t nv nk nt (v2).fst (0 : Int) l sg (0 : Int) (0 : Int) (0 : Int) nv nk nt v ks t n []))))))) := by subst hv2; subst hv1; subst hv0; kernel_rfl
theorem trust_Turn_w (b : List (List UInt8)) (l : List Signed) (v : Int) (ks : List Int) (t : Int) (n : Int) (nv : Int) (nk : List Int) (nt : Int) (sg : List Int) (m : Nat) (K : V → List Blk → Prop) : goD Γ_trust_Turn tab fn_trust_Turn 0 K (m + 1) [.code (bodyOf fn_trust_Turn)] (initSt [.agg [.dat (Ty.list Ty.str) b], .one (.dat (Ty.list Ty.signed) l), .agg [.dat Ty.int v, .dat (Ty.list Ty.int) ks, .dat Ty.int t, .dat Ty.int n], .agg [.dat Ty.int nv, .dat (Ty.list Ty.int) nk, .dat Ty.int nt], .one (.dat (Ty.list Ty.int) sg)] []) = segD Γ_trust_Turn tab fn_trust_Turn 0 K (goD Γ_trust_Turn tab fn_trust_Turn 0 K m) [.code (bodyOf fn_trust_Turn)] (initSt [.agg [.dat (Ty.list Ty.str) b], .one (.dat (Ty.list Ty.signed) l), .agg [.dat Ty.int v, .dat (Ty.list Ty.int) ks, .dat Ty.int t, .dat Ty.int n], .agg [.dat Ty.int nv, .dat (Ty.list Ty.int) nk, .dat Ty.int nt], .one (.dat (Ty.list Ty.int) sg)] []) := rfl
theorem trust_Turn_vc0_0 (x1 : Int) (x2 : (List Int)) (x3 : Int) (x4 : Int) (x5 : (List Int)) (x6 : Int) (x7 : Int) (x8 : Int) (x9 : (List Vm.Signed)) (x10 : (List Int)) (x11 : Int) (x12 : Int) (x13 : Int) (x14 : Int) (x15 : (List Int)) (x16 : Int) (x17 : Int) (x18 : (List Int)) (x19 : Int) (x20 : Int) (x21 : (List Int)) (rec : List It → St → Prop) (K : V → List Blk → Prop) v0 (hv0 : v0 = (countT x9 (⟨x1, x2, x3⟩ : Vm.Root) x10 x7)) : segD Γ_trust_Turn tab fn_trust_Turn 0 K rec (.code (Code.sub (bodyOf fn_trust_Turn) [1, 1, 1, 1, 1, 1, 1, 0, 1, 0, 0]) :: trust_Turn_L0) (trust_Turn_S0 (0 : Int) x1 x2 x3 x4 x5 x6 x7 x8 x9 x10 x11 x12 x13 x14 x15 x16 x17 x18 x19 x20 x21) = (
    (((0 : Int) ≤ (0 : Int)) ∧ ((0 : Int) < ((2 : Nat) : Int))) ∧
    (br (!(eqi (v0).snd (0 : Int)))
     (K (.tup [.agg [.dat Ty.int (0 : Int), .dat (Ty.list Ty.int) [], .dat Ty.int (0 : Int), .dat Ty.int (0 : Int)], .one (.dat Ty.int (v0).snd)]) [])
     (br (lti (v0).fst x3)
       (K (.tup [.agg [.dat Ty.int (0 : Int), .dat (Ty.list Ty.int) [], .dat Ty.int (0 : Int), .dat Ty.int (0 : Int)], .one (.dat Ty.int (9 : Int))]) [])
       (rec trust_Turn_L0 (trust_Turn_S0 (w64 ((0 : Int) + (1 : Int))) x1 x2 x3 x4 x5 x6 x7 x8 x9 x10 x11 x12 x13 x14 x15 x16 x17 x18 x19 x20 x21))))) := by subst hv0; kernel_rfl
theorem trust_Turn_vc0_1 (x1 : Int) (x2 : (List Int)) (x3 : Int) (x4 : Int) (x5 : (List Int)) (x6 : Int) (x7 : Int) (x8 : Int) (x9 : (List Vm.Signed)) (x10 : (List Int)) (x11 : Int) (x12 : Int) (x13 : Int) (x14 : Int) (x15 : (List Int)) (x16 : Int) (x17 : Int) (x18 : (List Int)) (x19 : Int) (x20 : Int) (x21 : (List Int)) (rec : List It → St → Prop) (K : V → List Blk → Prop) v0 (hv0 : v0 = (countT x9 (⟨x4, x5, x6⟩ : Vm.Root) x10 x7)) : segD Γ_trust_Turn tab fn_trust_Turn 0 K rec (.code (Code.sub (bodyOf fn_trust_Turn) [1, 1, 1, 1, 1, 1, 1, 0, 1, 0, 0]) :: trust_Turn_L0) (trust_Turn_S0 (1 : Int) x1 x2 x3 x4 x5 x6 x7 x8 x9 x10 x11 x12 x13 x14 x15 x16 x17 x18 x19 x20 x21) = (
    (((0 : Int) ≤ (1 : Int)) ∧ ((1 : Int) < ((2 : Nat) : Int))) ∧
    (br (!(eqi (v0).snd (0 : Int)))
     (K (.tup [.agg [.dat Ty.int (0 : Int), .dat (Ty.list Ty.int) [], .dat Ty.int (0 : Int), .dat Ty.int (0 : Int)], .one (.dat Ty.int (v0).snd)]) [])
     (br (lti (v0).fst x6)
       (K (.tup [.agg [.dat Ty.int (0 : Int), .dat (Ty.list Ty.int) [], .dat Ty.int (0 : Int), .dat Ty.int (0 : Int)], .one (.dat Ty.int (9 : Int))]) [])
       (rec trust_Turn_L0 (trust_Turn_S0 (w64 ((1 : Int) + (1 : Int))) x1 x2 x3 x4 x5 x6 x7 x8 x9 x10 x11 x12 x13 x14 x15 x16 x17 x18 x19 x20 x21))))) := by subst hv0; kernel_rfl
theorem trust_Turn_vc0_2 (x1 : Int) (x2 : (List Int)) (x3 : Int) (x4 : Int) (x5 : (List Int)) (x6 : Int) (x7 : Int) (x8 : Int) (x9 : (List Vm.Signed)) (x10 : (List Int)) (x11 : Int) (x12 : Int) (x13 : Int) (x14 : Int) (x15 : (List Int)) (x16 : Int) (x17 : Int) (x18 : (List Int)) (x19 : Int) (x20 : Int) (x21 : (List Int)) (rec : List It → St → Prop) (K : V → List Blk → Prop) : segD Γ_trust_Turn tab fn_trust_Turn 0 K rec (.code (Code.sub (bodyOf fn_trust_Turn) [1, 1, 1, 1, 1, 1, 1, 0, 1, 0, 0]) :: trust_Turn_L0) (trust_Turn_S0 (2 : Int) x1 x2 x3 x4 x5 x6 x7 x8 x9 x10 x11 x12 x13 x14 x15 x16 x17 x18 x19 x20 x21) = (
    (((len x15) * 8) ≤ 140737488355328) ∧
    (K (.tup [.agg [.dat Ty.int x14, .dat (Ty.list Ty.int) x15, .dat Ty.int x16, .dat Ty.int x20], .one (.dat Ty.int (0 : Int))]) [])) := by kernel_rfl
theorem trust_Turn_vc0_3 (x1 : Int) (x2 : (List Int)) (x3 : Int) (x4 : Int) (x5 : (List Int)) (x6 : Int) (x7 : Int) (x8 : Int) (x9 : (List Vm.Signed)) (x10 : (List Int)) (x11 : Int) (x12 : Int) (x13 : Int) (x14 : Int) (x15 : (List Int)) (x16 : Int) (x17 : Int) (x18 : (List Int)) (x19 : Int) (x20 : Int) (x21 : (List Int)) (rec : List It → St → Prop) (K : V → List Blk → Prop) : segD Γ_trust_Turn tab fn_trust_Turn 0 K rec (.code (Code.sub (bodyOf fn_trust_Turn) [1, 1, 1, 1, 1, 1, 1, 0, 1, 0, 0]) :: trust_Turn_L0) (trust_Turn_S0 (3 : Int) x1 x2 x3 x4 x5 x6 x7 x8 x9 x10 x11 x12 x13 x14 x15 x16 x17 x18 x19 x20 x21) = (
    (((len x15) * 8) ≤ 140737488355328) ∧
    (K (.tup [.agg [.dat Ty.int x14, .dat (Ty.list Ty.int) x15, .dat Ty.int x16, .dat Ty.int x20], .one (.dat Ty.int (0 : Int))]) [])) := by kernel_rfl
theorem trust_Turn_w0 (x0 : Int) (x1 : Int) (x2 : (List Int)) (x3 : Int) (x4 : Int) (x5 : (List Int)) (x6 : Int) (x7 : Int) (x8 : Int) (x9 : (List Vm.Signed)) (x10 : (List Int)) (x11 : Int) (x12 : Int) (x13 : Int) (x14 : Int) (x15 : (List Int)) (x16 : Int) (x17 : Int) (x18 : (List Int)) (x19 : Int) (x20 : Int) (x21 : (List Int)) (m : Nat) (K : V → List Blk → Prop) : goD Γ_trust_Turn tab fn_trust_Turn 0 K (m + 1) trust_Turn_L0 (trust_Turn_S0 x0 x1 x2 x3 x4 x5 x6 x7 x8 x9 x10 x11 x12 x13 x14 x15 x16 x17 x18 x19 x20 x21) = segD Γ_trust_Turn tab fn_trust_Turn 0 K (goD Γ_trust_Turn tab fn_trust_Turn 0 K m) (.code (Code.sub (bodyOf fn_trust_Turn) [1, 1, 1, 1, 1, 1, 1, 0, 1, 0, 0]) :: trust_Turn_L0) (trust_Turn_S0 x0 x1 x2 x3 x4 x5 x6 x7 x8 x9 x10 x11 x12 x13 x14 x15 x16 x17 x18 x19 x20 x21) := rfl

set_option maxHeartbeats 4000000 in
theorem run_trust_Turn (b : List (List UInt8)) (l : List Vm.Signed) (v : Int) (ks : List Int) (t n nv : Int) (nk : List Int) (nt : Int) (sg : List Int) (hp : b.length ≤ 140737488355328) (K : V → List Blk → Prop) (hK : K (.tup [.agg [.dat .int (turnT b l ⟨⟨v, ks, t⟩, n⟩ ⟨nv, nk, nt⟩ sg).1.r.version, .dat (.list .int) (turnT b l ⟨⟨v, ks, t⟩, n⟩ ⟨nv, nk, nt⟩ sg).1.r.keys, .dat .int (turnT b l ⟨⟨v, ks, t⟩, n⟩ ⟨nv, nk, nt⟩ sg).1.r.thr, .dat .int (turnT b l ⟨⟨v, ks, t⟩, n⟩ ⟨nv, nk, nt⟩ sg).1.version], .one (.dat .int (turnT b l ⟨⟨v, ks, t⟩, n⟩ ⟨nv, nk, nt⟩ sg).2)]) []) : ∃ m, goD Γ_trust_Turn tab fn_trust_Turn 0 K m [.code (bodyOf fn_trust_Turn)] (initSt [.agg [.dat (.list .str) b], .one (.dat (.list .signed) l), .agg [.dat .int v, .dat (.list .int) ks, .dat .int t, .dat .int n], .agg [.dat .int nv, .dat (.list .int) nk, .dat .int nt], .one (.dat (.list .int) sg)] []) := by
  refine ⟨5, ?_⟩
  rw [trust_Turn_w, trust_Turn_vc _ _ _ _ _ _ _ _ _ _ _ _ _ rfl _ rfl _ rfl]
  have bad : ∀ e : Int, e ≠ 0 → turnE b l ⟨⟨v, ks, t⟩, n⟩ ⟨nv, nk, nt⟩ sg = e → K (.tup [.agg [.dat .int 0, .dat (.list .int) [], .dat .int 0, .dat .int 0], .one (.dat .int e)]) [] := fun e he h => by
    rw [show turnT b l ⟨⟨v, ks, t⟩, n⟩ ⟨nv, nk, nt⟩ sg = (noTrust, e) from by unfold turnT; rw [if_neg (by rw [h]; exact he), h]] at hK
    exact hK
  refine ne_s (fun h => bad _ h (if_neg h)) (fun h => ?_)
  have E1 : turnE b l ⟨⟨v, ks, t⟩, n⟩ ⟨nv, nk, nt⟩ sg = _ := if_pos h
  refine ne_s (fun h2 => ?_) (fun h2 => ⟨hp, ?_⟩)
  · unfold rootTextE at h2 ⊢
    by_cases c : checkRoot nv nk nt = 0
    · rw [if_pos c] at h2; exact absurd rfl h2
    · rw [if_neg c]
      exact bad _ c (E1.trans (if_neg c))
  have c2 : checkRoot nv nk nt = 0 := by
    by_cases c : checkRoot nv nk nt = 0
    · exact c
    · unfold rootTextE at h2; rw [if_neg c] at h2; exact h2
  rw [show rootTextE nv nk nt = (rootText nv nk nt, 0) from if_pos c2]
  have E2 := E1.trans (if_pos c2)
  refine ne_s (fun h3 => ?_) (fun h3 => ?_)
  · unfold nameB at h3 ⊢
    by_cases c : checkBook b = 0
    · rw [if_pos c] at h3; exact absurd rfl h3
    · rw [if_neg c]
      exact bad _ c (E2.trans (if_neg c))
  have c3 : checkBook b = 0 := by
    by_cases c : checkBook b = 0
    · exact c
    · unfold nameB at h3; rw [if_neg c] at h3; exact h3
  have E3 := E2.trans (if_pos c3)
  simp only [show nameB b (rootText nv nk nt) = (indexS (rootText nv nk nt) b + 1, 0) from if_pos c3]
  obtain ⟨t1, t2, t3⟩ := checkTrust_ok h
  obtain ⟨r1, r2, r3, r4, r5, _⟩ := checkRoot_ok t3
  obtain ⟨q1, q2, q3, q4, q5, _⟩ := checkRoot_ok c2
  simp only at t1 t2 r1 r2 r3 r4 r5
  rw [w64_id (n := v + 1) (by omega) (by omega)]
  refine ne_s (fun h4 => bad _ (by decide) (E3.trans (if_neg h4))) (fun h4 => ?_)
  have E4 := E3.trans (if_pos h4)
  have step : ∀ (r : Vm.Root) (P Q R : Prop), (enough l r sg (indexS (rootText nv nk nt) b + 1) ≠ 0 → (countT l r sg (indexS (rootText nv nk nt) b + 1)).2 ≠ 0 → (countT l r sg (indexS (rootText nv nk nt) b + 1)).2 = enough l r sg (indexS (rootText nv nk nt) b + 1) → P) → (enough l r sg (indexS (rootText nv nk nt) b + 1) = 9 → Q) → (enough l r sg (indexS (rootText nv nk nt) b + 1) = 0 → R) →
      br (!eqi (countT l r sg (indexS (rootText nv nk nt) b + 1)).2 0) P (br (lti (countT l r sg (indexS (rootText nv nk nt) b + 1)).1 r.thr) Q R) := fun r P Q R hP hQ hR => by
    refine ne_s (fun g => ?_) (fun g => lt_s (fun g2 => hQ ?_) (fun g2 => hR ?_))
    · have e : enough l r sg (indexS (rootText nv nk nt) b + 1) = (countT l r sg (indexS (rootText nv nk nt) b + 1)).2 := if_neg g
      exact hP (by rw [e]; exact g) g e.symm
    · unfold enough; rw [if_pos g, if_pos g2]
    · unfold enough; rw [if_pos g, if_neg (by omega)]
  rw [trust_Turn_w0, trust_Turn_vc0_0 _ _ _ _ _ _ _ _ _ _ _ _ _ _ _ _ _ _ _ _ _ _ _ _ rfl]
  refine ⟨by omega, step ⟨v, ks, t⟩ _ _ _ (fun g g1 g2 => bad _ g1 ((E4.trans (if_neg g)).trans g2.symm)) (fun g => bad _ (by decide) ((E4.trans (if_neg (by rw [g]; decide))).trans g)) (fun g => ?_)⟩
  have E5 := E4.trans (if_pos g)
  rw [show w64 ((0 : Int) + 1) = 1 from w64_id (by omega) (by omega), trust_Turn_w0, trust_Turn_vc0_1 _ _ _ _ _ _ _ _ _ _ _ _ _ _ _ _ _ _ _ _ _ _ _ _ rfl]
  refine ⟨by omega, step ⟨nv, nk, nt⟩ _ _ _ (fun g g1 g2 => bad _ g1 (E5.trans g2.symm)) (fun g => bad _ (by decide) (E5.trans g)) (fun g => ?_)⟩
  rw [show w64 ((1 : Int) + 1) = 2 from w64_id (by omega) (by omega), trust_Turn_w0, trust_Turn_vc0_2 _ _ _ _ _ _ _ _ _ _ _ _ _ _ _ _ _ _ _ _ _ _ _]
  refine ⟨by simp only [len]; omega, ?_⟩
  rw [show turnT b l ⟨⟨v, ks, t⟩, n⟩ ⟨nv, nk, nt⟩ sg = (⟨⟨nv, nk, nt⟩, n⟩, 0) from if_pos (E5.trans g)] at hK
  exact hK
theorem sound_trust_Turn : SoundC Tryd.prog tab n_trust_Turn c_trust_Turn := soundC_of ok_trust_Turn hf_trust_Turn hB_trust_Turn (by
  intro vs bs p v bs' h hp
  unfold c_trust_Turn at h
  split at h
  · cases h
    exact ⟨by kernel_rfl, rfl, .inl (run_trust_Turn _ _ _ _ _ _ _ _ _ _ hp.1 _ ⟨rfl, rfl⟩)⟩
  · cases h)

def c_trust_Take_1 : Contract := fun vs bs => match vs, bs with
  | [.one (.dat .int e)], [] => some (none, .tup [.agg [.dat .int 0, .dat (.list .int) [], .dat .int 0, .dat .int 0], .one (.dat .int e)], [])
  | _, _ => none
def Γ_trust_Take_1 : Ctx := []
theorem ok_trust_Take_1 : Ok Tryd.prog tab Γ_trust_Take_1 := ok_nil
theorem trust_Take_1_vc (e : Int) (rec : List It → St → Prop) (K : V → List Blk → Prop) : segD Γ_trust_Take_1 tab fn_trust_Take_1 0 K rec [.code (bodyOf fn_trust_Take_1)] (initSt [.one (.dat Ty.int e)] []) = (
    K (.tup [.agg [.dat Ty.int (0 : Int), .dat (Ty.list Ty.int) [], .dat Ty.int (0 : Int), .dat Ty.int (0 : Int)], .one (.dat Ty.int e)]) []) := by kernel_rfl
theorem trust_Take_1_w (e : Int) (m : Nat) (K : V → List Blk → Prop) : goD Γ_trust_Take_1 tab fn_trust_Take_1 0 K (m + 1) [.code (bodyOf fn_trust_Take_1)] (initSt [.one (.dat Ty.int e)] []) = segD Γ_trust_Take_1 tab fn_trust_Take_1 0 K (goD Γ_trust_Take_1 tab fn_trust_Take_1 0 K m) [.code (bodyOf fn_trust_Take_1)] (initSt [.one (.dat Ty.int e)] []) := rfl

set_option maxHeartbeats 4000000 in
theorem run_trust_Take_1 (e : Int) (K : V → List Blk → Prop) (hK : K (.tup [.agg [.dat .int 0, .dat (.list .int) [], .dat .int 0, .dat .int 0], .one (.dat .int e)]) []) : ∃ m, goD Γ_trust_Take_1 tab fn_trust_Take_1 0 K m [.code (bodyOf fn_trust_Take_1)] (initSt [.one (.dat .int e)] []) := by
  refine ⟨1, ?_⟩
  rw [trust_Take_1_w, trust_Take_1_vc _ _ _]
  exact hK
theorem sound_trust_Take_1 : SoundC Tryd.prog tab n_trust_Take_1 c_trust_Take_1 := soundC_of ok_trust_Take_1 hf_trust_Take_1 hB_trust_Take_1 (by
  intro vs bs p v bs' h hp
  unfold c_trust_Take_1 at h
  split at h
  · cases h
    exact ⟨by kernel_rfl, rfl, .inl (run_trust_Take_1 _ _ ⟨rfl, rfl⟩)⟩
  · cases h)

def c_meta_CheckRelease : Contract := fun vs bs => match vs, bs with
  | [.agg [.dat .int v, .dat .int u, .dat (.list .target) ts]], [] => some (none, .one (.dat .int (checkRelease v u ts)), [])
  | _, _ => none
def Γ_meta_CheckRelease : Ctx := []
theorem ok_meta_CheckRelease : Ok Tryd.prog tab Γ_meta_CheckRelease := ok_nil
noncomputable def meta_CheckRelease_L0 : List It := [.inLoop [38, 37, 36, 2] (Code.sub (bodyOf fn_meta_CheckRelease) [1, 1, 1, 0, 1, 0, 0]), .inBlock 0, .code (Code.sub (bodyOf fn_meta_CheckRelease) [1, 1, 1, 1])]
def meta_CheckRelease_S0 (x0 : Int) (x1 : Int) (x2 : (List Vm.Target)) (x3 : Int) : St := ⟨[(38, .one (.dat Ty.int x0)), (37, .one (.dat Ty.int x1)), (36, .one (.dat (Ty.list Ty.target) x2)), (2, .one (.dat Ty.int x3))], [], 0⟩
noncomputable def meta_CheckRelease_L1 : List It := [.inLoop [55, 54, 53, 52, 51, 50, 49, 48, 47, 46, 45, 44, 43, 3, 4, 42, 41, 40, 39, 38, 37, 36, 2] (Code.sub (bodyOf fn_meta_CheckRelease) [1, 1, 1, 0, 1, 0, 0, 1, 1, 0, 0, 1, 1, 0, 0]), .inBlock 2, .inBlock 1, .code (Code.sub (bodyOf fn_meta_CheckRelease) [1, 1, 1, 0, 1, 0, 0, 1, 1, 1]), .inLoop [38, 37, 36, 2] (Code.sub (bodyOf fn_meta_CheckRelease) [1, 1, 1, 0, 1, 0, 0]), .inBlock 0, .code (Code.sub (bodyOf fn_meta_CheckRelease) [1, 1, 1, 1])]
def meta_CheckRelease_S1 (x0 : Int) (x1 : Int) (x2 : Int) (x3 : Int) (x4 : Int) (x5 : Int) (x6 : Int) (x7 : Int) (x8 : Int) (x9 : Int) (x10 : Int) (x11 : Int) (x12 : Int) (x13 : Int) (x14 : Int) (x15 : Int) (x16 : Int) (x17 : Int) (x18 : Int) (x19 : Int) (x20 : Int) (x21 : Int) (x22 : Int) (x23 : Int) (x24 : Int) (x25 : Int) (x26 : Int) (x27 : Int) (x28 : (List Vm.Target)) (x29 : Nat) (x30 : Int) (x31 : Bool) (x32 : Int) (x33 : Int) (x34 : (List Vm.Target)) (x35 : Int) (x36 : Int) (x37 : Int) (x38 : Int) : St := ⟨[(55, .one (.dat Ty.int x0)), (54, .agg [.dat Ty.int x1, .dat Ty.int x2, .dat Ty.int x3, .dat Ty.int x4, .dat Ty.int x5, .dat Ty.int x6, .dat Ty.int x7, .dat Ty.int x8, .dat Ty.int x9]), (53, .agg [.dat Ty.int x10, .dat Ty.int x11, .dat Ty.int x12]), (52, .one (.dat Ty.int x13)), (51, .one (.ptr 0 2)), (50, .agg [.dat Ty.int x14, .dat Ty.int x15, .dat Ty.int x16]), (49, .one (.dat Ty.int x17)), (48, .one (.ptr 0 1)), (47, .agg [.dat Ty.int x18, .dat Ty.int x19, .dat Ty.int x20]), (46, .one (.dat Ty.int x21)), (45, .one (.dat Ty.int x22)), (44, .one (.dat Ty.int x23)), (43, .one (.ptr 0 0)), (3, .one (.dat Ty.int x24)), (4, .one (.ptr 0 0)), (42, .agg [.dat Ty.int x25, .dat Ty.int x26, .dat Ty.int x27]), (41, .one (.eptr Ty.target x28 x29 0)), (40, .one (.dat Ty.int x30)), (39, .one (.dat Ty.bool x31)), (38, .one (.dat Ty.int x32)), (37, .one (.dat Ty.int x33)), (36, .one (.dat (Ty.list Ty.target) x34)), (2, .one (.dat Ty.int x35))], [(0, .box [.dat Ty.int x36, .dat Ty.int x37, .dat Ty.int x38])], 1⟩
theorem meta_CheckRelease_vc (v : Int) (u : Int) (ts : List Vm.Target) (rec : List It → St → Prop) (K : V → List Blk → Prop) : segD Γ_meta_CheckRelease tab fn_meta_CheckRelease 0 K rec [.code (bodyOf fn_meta_CheckRelease)] (initSt [.agg [.dat Ty.int v, .dat Ty.int u, .dat (Ty.list Ty.target) ts]] []) = (
    br (lti v (1 : Int))
     (K (.one (.dat Ty.int (3 : Int))) [])
     (br (lti (1000 : Int) v)
       (K (.one (.dat Ty.int (3 : Int))) [])
       (br (lti u (0 : Int))
         (K (.one (.dat Ty.int (3 : Int))) [])
         (br (lti (100000 : Int) u)
           (K (.one (.dat Ty.int (3 : Int))) [])
           (br (eqi (((len ts) : Nat) : Int) (0 : Int))
             (K (.one (.dat Ty.int (2 : Int))) [])
             (br (lti (4 : Int) (((len ts) : Nat) : Int))
               (K (.one (.dat Ty.int (2 : Int))) [])
               (rec meta_CheckRelease_L0 (meta_CheckRelease_S0 (0 : Int) (((len ts) : Nat) : Int) ts (0 : Int))))))))) := by kernel_rfl
theorem meta_CheckRelease_w (v : Int) (u : Int) (ts : List Vm.Target) (m : Nat) (K : V → List Blk → Prop) : goD Γ_meta_CheckRelease tab fn_meta_CheckRelease 0 K (m + 1) [.code (bodyOf fn_meta_CheckRelease)] (initSt [.agg [.dat Ty.int v, .dat Ty.int u, .dat (Ty.list Ty.target) ts]] []) = segD Γ_meta_CheckRelease tab fn_meta_CheckRelease 0 K (goD Γ_meta_CheckRelease tab fn_meta_CheckRelease 0 K m) [.code (bodyOf fn_meta_CheckRelease)] (initSt [.agg [.dat Ty.int v, .dat Ty.int u, .dat (Ty.list Ty.target) ts]] []) := rfl
theorem meta_CheckRelease_vc0 (x0 : Int) (x1 : Int) (x2 : (List Vm.Target)) (x3 : Int) (rec : List It → St → Prop) (K : V → List Blk → Prop) : segD Γ_meta_CheckRelease tab fn_meta_CheckRelease 0 K rec (.code (Code.sub (bodyOf fn_meta_CheckRelease) [1, 1, 1, 0, 1, 0, 0]) :: meta_CheckRelease_L0) (meta_CheckRelease_S0 x0 x1 x2 x3) = (
    br (lti x0 x1)
     ((((0 : Int) ≤ x0) ∧ (x0 < (((len x2) : Nat) : Int))) ∧
      (rec meta_CheckRelease_L1 (meta_CheckRelease_S1 (0 : Int) ((nth x2 (Int.toNat x0) (Ty.dflt Ty.target))).unit x0 x0 ((nth x2 (Int.toNat x0) (Ty.dflt Ty.target))).image (1 : Int) (60 : Int) ((nth x2 (Int.toNat x0) (Ty.dflt Ty.target))).long (1 : Int) (40 : Int) ((nth x2 (Int.toNat x0) (Ty.dflt Ty.target))).long (1 : Int) (40 : Int) ((nth x2 (Int.toNat x0) (Ty.dflt Ty.target))).long ((nth x2 (Int.toNat x0) (Ty.dflt Ty.target))).image (1 : Int) (60 : Int) ((nth x2 (Int.toNat x0) (Ty.dflt Ty.target))).image ((nth x2 (Int.toNat x0) (Ty.dflt Ty.target))).unit x0 x0 x0 x0 ((nth x2 (Int.toNat x0) (Ty.dflt Ty.target))).unit x0 ((nth x2 (Int.toNat x0) (Ty.dflt Ty.target))).unit ((nth x2 (Int.toNat x0) (Ty.dflt Ty.target))).image ((nth x2 (Int.toNat x0) (Ty.dflt Ty.target))).long x2 (Int.toNat x0) x0 (lti x0 x1) x0 x1 x2 x3 ((nth x2 (Int.toNat x0) (Ty.dflt Ty.target))).unit ((nth x2 (Int.toNat x0) (Ty.dflt Ty.target))).image ((nth x2 (Int.toNat x0) (Ty.dflt Ty.target))).long)))
     (K (.one (.dat Ty.int (0 : Int))) [])) := by kernel_rfl
theorem meta_CheckRelease_w0 (x0 : Int) (x1 : Int) (x2 : (List Vm.Target)) (x3 : Int) (m : Nat) (K : V → List Blk → Prop) : goD Γ_meta_CheckRelease tab fn_meta_CheckRelease 0 K (m + 1) meta_CheckRelease_L0 (meta_CheckRelease_S0 x0 x1 x2 x3) = segD Γ_meta_CheckRelease tab fn_meta_CheckRelease 0 K (goD Γ_meta_CheckRelease tab fn_meta_CheckRelease 0 K m) (.code (Code.sub (bodyOf fn_meta_CheckRelease) [1, 1, 1, 0, 1, 0, 0]) :: meta_CheckRelease_L0) (meta_CheckRelease_S0 x0 x1 x2 x3) := rfl
theorem meta_CheckRelease_vc1_0 (x1 : Int) (x2 : Int) (x3 : Int) (x4 : Int) (x5 : Int) (x6 : Int) (x7 : Int) (x8 : Int) (x9 : Int) (x10 : Int) (x11 : Int) (x12 : Int) (x13 : Int) (x14 : Int) (x15 : Int) (x16 : Int) (x17 : Int) (x18 : Int) (x19 : Int) (x20 : Int) (x21 : Int) (x22 : Int) (x23 : Int) (x24 : Int) (x25 : Int) (x26 : Int) (x27 : Int) (x28 : (List Vm.Target)) (x29 : Nat) (x30 : Int) (x31 : Bool) (x32 : Int) (x33 : Int) (x34 : (List Vm.Target)) (x35 : Int) (x36 : Int) (x37 : Int) (x38 : Int) (rec : List It → St → Prop) (K : V → List Blk → Prop) : segD Γ_meta_CheckRelease tab fn_meta_CheckRelease 0 K rec (.code (Code.sub (bodyOf fn_meta_CheckRelease) [1, 1, 1, 0, 1, 0, 0, 1, 1, 0, 0, 1, 1, 0, 0]) :: meta_CheckRelease_L1) (meta_CheckRelease_S1 (0 : Int) x1 x2 x3 x4 x5 x6 x7 x8 x9 x10 x11 x12 x13 x14 x15 x16 x17 x18 x19 x20 x21 x22 x23 x24 x25 x26 x27 x28 x29 x30 x31 x32 x33 x34 x35 x36 x37 x38) = (
    (((0 : Int) ≤ (0 : Int)) ∧ ((0 : Int) < ((3 : Nat) : Int))) ∧
    ((((0 : Int) ≤ (0 : Int)) ∧ ((0 : Int) < ((3 : Nat) : Int))) ∧
    ((((0 : Int) ≤ (1 : Int)) ∧ ((1 : Int) < ((3 : Nat) : Int))) ∧
    (br (lti x1 x2)
     (K (.one (.dat Ty.int (3 : Int))) [])
     ((((0 : Int) ≤ (0 : Int)) ∧ ((0 : Int) < ((3 : Nat) : Int))) ∧
      ((((0 : Int) ≤ (2 : Int)) ∧ ((2 : Int) < ((3 : Nat) : Int))) ∧
      (br (lti x3 x1)
       (K (.one (.dat Ty.int (3 : Int))) [])
       (rec meta_CheckRelease_L1 (meta_CheckRelease_S1 (w64 ((0 : Int) + (1 : Int))) x1 x2 x3 x4 x5 x6 x7 x8 x9 x10 x11 x12 x13 x14 x15 x16 x17 x18 x19 x20 x21 x22 x23 x24 x25 x26 x27 x28 x29 x30 x31 x32 x33 x34 x35 x36 x37 x38))))))))) := by kernel_rfl
theorem meta_CheckRelease_vc1_1 (x1 : Int) (x2 : Int) (x3 : Int) (x4 : Int) (x5 : Int) (x6 : Int) (x7 : Int) (x8 : Int) (x9 : Int) (x10 : Int) (x11 : Int) (x12 : Int) (x13 : Int) (x14 : Int) (x15 : Int) (x16 : Int) (x17 : Int) (x18 : Int) (x19 : Int) (x20 : Int) (x21 : Int) (x22 : Int) (x23 : Int) (x24 : Int) (x25 : Int) (x26 : Int) (x27 : Int) (x28 : (List Vm.Target)) (x29 : Nat) (x30 : Int) (x31 : Bool) (x32 : Int) (x33 : Int) (x34 : (List Vm.Target)) (x35 : Int) (x36 : Int) (x37 : Int) (x38 : Int) (rec : List It → St → Prop) (K : V → List Blk → Prop) : segD Γ_meta_CheckRelease tab fn_meta_CheckRelease 0 K rec (.code (Code.sub (bodyOf fn_meta_CheckRelease) [1, 1, 1, 0, 1, 0, 0, 1, 1, 0, 0, 1, 1, 0, 0]) :: meta_CheckRelease_L1) (meta_CheckRelease_S1 (1 : Int) x1 x2 x3 x4 x5 x6 x7 x8 x9 x10 x11 x12 x13 x14 x15 x16 x17 x18 x19 x20 x21 x22 x23 x24 x25 x26 x27 x28 x29 x30 x31 x32 x33 x34 x35 x36 x37 x38) = (
    (((0 : Int) ≤ (1 : Int)) ∧ ((1 : Int) < ((3 : Nat) : Int))) ∧
    ((((0 : Int) ≤ (0 : Int)) ∧ ((0 : Int) < ((3 : Nat) : Int))) ∧
    ((((0 : Int) ≤ (1 : Int)) ∧ ((1 : Int) < ((3 : Nat) : Int))) ∧
    (br (lti x4 x5)
     (K (.one (.dat Ty.int (3 : Int))) [])
     ((((0 : Int) ≤ (0 : Int)) ∧ ((0 : Int) < ((3 : Nat) : Int))) ∧
      ((((0 : Int) ≤ (2 : Int)) ∧ ((2 : Int) < ((3 : Nat) : Int))) ∧
      (br (lti x6 x4)
       (K (.one (.dat Ty.int (3 : Int))) [])
       (rec meta_CheckRelease_L1 (meta_CheckRelease_S1 (w64 ((1 : Int) + (1 : Int))) x1 x2 x3 x4 x5 x6 x7 x8 x9 x10 x11 x12 x13 x14 x15 x16 x17 x18 x19 x20 x21 x22 x23 x24 x25 x26 x27 x28 x29 x30 x31 x32 x33 x34 x35 x36 x37 x38))))))))) := by kernel_rfl
theorem meta_CheckRelease_vc1_2 (x1 : Int) (x2 : Int) (x3 : Int) (x4 : Int) (x5 : Int) (x6 : Int) (x7 : Int) (x8 : Int) (x9 : Int) (x10 : Int) (x11 : Int) (x12 : Int) (x13 : Int) (x14 : Int) (x15 : Int) (x16 : Int) (x17 : Int) (x18 : Int) (x19 : Int) (x20 : Int) (x21 : Int) (x22 : Int) (x23 : Int) (x24 : Int) (x25 : Int) (x26 : Int) (x27 : Int) (x28 : (List Vm.Target)) (x29 : Nat) (x30 : Int) (x31 : Bool) (x32 : Int) (x33 : Int) (x34 : (List Vm.Target)) (x35 : Int) (x36 : Int) (x37 : Int) (x38 : Int) (rec : List It → St → Prop) (K : V → List Blk → Prop) : segD Γ_meta_CheckRelease tab fn_meta_CheckRelease 0 K rec (.code (Code.sub (bodyOf fn_meta_CheckRelease) [1, 1, 1, 0, 1, 0, 0, 1, 1, 0, 0, 1, 1, 0, 0]) :: meta_CheckRelease_L1) (meta_CheckRelease_S1 (2 : Int) x1 x2 x3 x4 x5 x6 x7 x8 x9 x10 x11 x12 x13 x14 x15 x16 x17 x18 x19 x20 x21 x22 x23 x24 x25 x26 x27 x28 x29 x30 x31 x32 x33 x34 x35 x36 x37 x38) = (
    (((0 : Int) ≤ (2 : Int)) ∧ ((2 : Int) < ((3 : Nat) : Int))) ∧
    ((((0 : Int) ≤ (0 : Int)) ∧ ((0 : Int) < ((3 : Nat) : Int))) ∧
    ((((0 : Int) ≤ (1 : Int)) ∧ ((1 : Int) < ((3 : Nat) : Int))) ∧
    (br (lti x7 x8)
     (K (.one (.dat Ty.int (3 : Int))) [])
     ((((0 : Int) ≤ (0 : Int)) ∧ ((0 : Int) < ((3 : Nat) : Int))) ∧
      ((((0 : Int) ≤ (2 : Int)) ∧ ((2 : Int) < ((3 : Nat) : Int))) ∧
      (br (lti x9 x7)
       (K (.one (.dat Ty.int (3 : Int))) [])
       (rec meta_CheckRelease_L1 (meta_CheckRelease_S1 (w64 ((2 : Int) + (1 : Int))) x1 x2 x3 x4 x5 x6 x7 x8 x9 x10 x11 x12 x13 x14 x15 x16 x17 x18 x19 x20 x21 x22 x23 x24 x25 x26 x27 x28 x29 x30 x31 x32 x33 x34 x35 x36 x37 x38))))))))) := by kernel_rfl
theorem meta_CheckRelease_vc1_3 (x1 : Int) (x2 : Int) (x3 : Int) (x4 : Int) (x5 : Int) (x6 : Int) (x7 : Int) (x8 : Int) (x9 : Int) (x10 : Int) (x11 : Int) (x12 : Int) (x13 : Int) (x14 : Int) (x15 : Int) (x16 : Int) (x17 : Int) (x18 : Int) (x19 : Int) (x20 : Int) (x21 : Int) (x22 : Int) (x23 : Int) (x24 : Int) (x25 : Int) (x26 : Int) (x27 : Int) (x28 : (List Vm.Target)) (x29 : Nat) (x30 : Int) (x31 : Bool) (x32 : Int) (x33 : Int) (x34 : (List Vm.Target)) (x35 : Int) (x36 : Int) (x37 : Int) (x38 : Int) (rec : List It → St → Prop) (K : V → List Blk → Prop) : segD Γ_meta_CheckRelease tab fn_meta_CheckRelease 0 K rec (.code (Code.sub (bodyOf fn_meta_CheckRelease) [1, 1, 1, 0, 1, 0, 0, 1, 1, 0, 0, 1, 1, 0, 0]) :: meta_CheckRelease_L1) (meta_CheckRelease_S1 (3 : Int) x1 x2 x3 x4 x5 x6 x7 x8 x9 x10 x11 x12 x13 x14 x15 x16 x17 x18 x19 x20 x21 x22 x23 x24 x25 x26 x27 x28 x29 x30 x31 x32 x33 x34 x35 x36 x37 x38) = (
    rec meta_CheckRelease_L0 (meta_CheckRelease_S0 (w64 (x32 + (1 : Int))) x33 x34 x35)) := by kernel_rfl
theorem meta_CheckRelease_w1 (x0 : Int) (x1 : Int) (x2 : Int) (x3 : Int) (x4 : Int) (x5 : Int) (x6 : Int) (x7 : Int) (x8 : Int) (x9 : Int) (x10 : Int) (x11 : Int) (x12 : Int) (x13 : Int) (x14 : Int) (x15 : Int) (x16 : Int) (x17 : Int) (x18 : Int) (x19 : Int) (x20 : Int) (x21 : Int) (x22 : Int) (x23 : Int) (x24 : Int) (x25 : Int) (x26 : Int) (x27 : Int) (x28 : (List Vm.Target)) (x29 : Nat) (x30 : Int) (x31 : Bool) (x32 : Int) (x33 : Int) (x34 : (List Vm.Target)) (x35 : Int) (x36 : Int) (x37 : Int) (x38 : Int) (m : Nat) (K : V → List Blk → Prop) : goD Γ_meta_CheckRelease tab fn_meta_CheckRelease 0 K (m + 1) meta_CheckRelease_L1 (meta_CheckRelease_S1 x0 x1 x2 x3 x4 x5 x6 x7 x8 x9 x10 x11 x12 x13 x14 x15 x16 x17 x18 x19 x20 x21 x22 x23 x24 x25 x26 x27 x28 x29 x30 x31 x32 x33 x34 x35 x36 x37 x38) = segD Γ_meta_CheckRelease tab fn_meta_CheckRelease 0 K (goD Γ_meta_CheckRelease tab fn_meta_CheckRelease 0 K m) (.code (Code.sub (bodyOf fn_meta_CheckRelease) [1, 1, 1, 0, 1, 0, 0, 1, 1, 0, 0, 1, 1, 0, 0]) :: meta_CheckRelease_L1) (meta_CheckRelease_S1 x0 x1 x2 x3 x4 x5 x6 x7 x8 x9 x10 x11 x12 x13 x14 x15 x16 x17 x18 x19 x20 x21 x22 x23 x24 x25 x26 x27 x28 x29 x30 x31 x32 x33 x34 x35 x36 x37 x38) := rfl

theorem loop_meta_CheckRelease (ts : List Vm.Target) (hl : ts.length ≤ 4) (K : V → List Blk → Prop) : ∀ (d k : Nat), k + d = ts.length → K (.one (.dat .int (if okTargets (k : Int) (ts.drop k) then 0 else 3))) [] →
    goD Γ_meta_CheckRelease tab fn_meta_CheckRelease 0 K (5 * d + 1) meta_CheckRelease_L0 (meta_CheckRelease_S0 (k : Int) (((len ts) : Nat) : Int) ts 0)
  | 0, k, hk, hK => by
    rw [show 5 * 0 + 1 = 0 + 1 by omega, meta_CheckRelease_w0, meta_CheckRelease_vc0 _ _ _ _ _ _]
    rw [List.drop_of_length_le (by omega)] at hK
    exact lt_f (by simp only [len]; omega) hK
  | d + 1, k, hk, hK => by
    rw [show 5 * (d + 1) + 1 = (5 * d + 1 + 1 + 1 + 1 + 1) + 1 by omega, meta_CheckRelease_w0, meta_CheckRelease_vc0 _ _ _ _ _ _, toNat_nat]
    rw [drop_step (by omega) (Ty.dflt Ty.target)] at hK
    obtain ⟨x, hx⟩ : ∃ x, nth ts k (Ty.dflt Ty.target) = x := ⟨_, rfl⟩
    rw [hx] at hK ⊢
    have three : okTarget (k : Int) x = false → K (.one (.dat .int 3)) [] := fun h => by rw [show okTargets (k : Int) (x :: ts.drop (k + 1)) = false from by simp [okTargets, h]] at hK; exact hK
    have hot : okTarget (k : Int) x = true ↔ (x.unit = k ∧ 1 ≤ x.image ∧ x.image ≤ 60 ∧ 1 ≤ x.long ∧ x.long ≤ 40) := by
      simp only [okTarget, Bool.and_eq_true, decide_eq_true_eq]; omega
    have bad : ¬ (x.unit = k ∧ 1 ≤ x.image ∧ x.image ≤ 60 ∧ 1 ≤ x.long ∧ x.long ≤ 40) → K (.one (.dat .int 3)) [] := fun h => three (by
      cases hc : okTarget (k : Int) x
      · rfl
      · exact absurd (hot.1 hc) h)
    refine lt_t (by simp only [len]; omega) ⟨⟨by omega, by simp only [len]; omega⟩, ?_⟩
    rw [meta_CheckRelease_w1, meta_CheckRelease_vc1_0 _ _ _ _ _ _ _ _ _ _ _ _ _ _ _ _ _ _ _ _ _ _ _ _ _ _ _ _ _ _ _ _ _ _ _ _ _ _ _ _]
    refine ⟨by omega, by omega, by omega, lt_s (fun h => bad (by omega)) (fun h => ⟨by omega, by omega, lt_s (fun h2 => bad (by omega)) (fun h2 => ?_)⟩)⟩
    rw [show w64 ((0 : Int) + 1) = 1 from w64_id (by omega) (by omega), meta_CheckRelease_w1, meta_CheckRelease_vc1_1 _ _ _ _ _ _ _ _ _ _ _ _ _ _ _ _ _ _ _ _ _ _ _ _ _ _ _ _ _ _ _ _ _ _ _ _ _ _ _ _]
    refine ⟨by omega, by omega, by omega, lt_s (fun h3 => bad (by omega)) (fun h3 => ⟨by omega, by omega, lt_s (fun h4 => bad (by omega)) (fun h4 => ?_)⟩)⟩
    rw [show w64 ((1 : Int) + 1) = 2 from w64_id (by omega) (by omega), meta_CheckRelease_w1, meta_CheckRelease_vc1_2 _ _ _ _ _ _ _ _ _ _ _ _ _ _ _ _ _ _ _ _ _ _ _ _ _ _ _ _ _ _ _ _ _ _ _ _ _ _ _ _]
    refine ⟨by omega, by omega, by omega, lt_s (fun h5 => bad (by omega)) (fun h5 => ⟨by omega, by omega, lt_s (fun h6 => bad (by omega)) (fun h6 => ?_)⟩)⟩
    rw [show w64 ((2 : Int) + 1) = 3 from w64_id (by omega) (by omega), meta_CheckRelease_w1, meta_CheckRelease_vc1_3 _ _ _ _ _ _ _ _ _ _ _ _ _ _ _ _ _ _ _ _ _ _ _ _ _ _ _ _ _ _ _ _ _ _ _ _ _ _ _ _, w64_succ (by omega)]
    rw [show okTargets (k : Int) (x :: ts.drop (k + 1)) = okTargets ((k : Int) + 1) (ts.drop (k + 1)) from by simp only [okTargets, hot.2 (show _ by omega), Bool.true_and]] at hK
    exact loop_meta_CheckRelease ts hl K d (k + 1) (by omega) (by rw [show ((k + 1 : Nat) : Int) = (k : Int) + 1 by omega]; exact hK)
set_option maxHeartbeats 4000000 in
theorem run_meta_CheckRelease (v u : Int) (ts : List Vm.Target) (K : V → List Blk → Prop) (hK : K (.one (.dat .int (checkRelease v u ts))) []) : ∃ m, goD Γ_meta_CheckRelease tab fn_meta_CheckRelease 0 K m [.code (bodyOf fn_meta_CheckRelease)] (initSt [.agg [.dat .int v, .dat .int u, .dat (.list .target) ts]] []) := by
  refine ⟨5 * ts.length + 1 + 1, ?_⟩
  rw [meta_CheckRelease_w, meta_CheckRelease_vc _ _ _ _ _]
  unfold checkRelease at hK
  refine lt_s (fun h => ?_) (fun h => lt_s (fun h2 => ?_) (fun h2 => lt_s (fun h3 => ?_) (fun h3 => lt_s (fun h4 => ?_) (fun h4 => eq_s (fun h5 => ?_) (fun h5 => lt_s (fun h6 => ?_) (fun h6 => ?_))))))
  · rw [if_pos (by omega)] at hK; exact hK
  · rw [if_pos (by omega)] at hK; exact hK
  · rw [if_pos (by omega)] at hK; exact hK
  · rw [if_pos (by omega)] at hK; exact hK
  · rw [if_neg (by omega), if_pos (by simp only [len] at h5; omega)] at hK; exact hK
  · rw [if_neg (by omega), if_pos (by simp only [len] at h6; omega)] at hK; exact hK
  · rw [if_neg (by omega), if_neg (by simp only [len] at h5 h6; omega)] at hK
    exact loop_meta_CheckRelease ts (by simp only [len] at h6; omega) K ts.length 0 (by omega) hK
theorem sound_meta_CheckRelease : SoundC Tryd.prog tab n_meta_CheckRelease c_meta_CheckRelease := soundC_of ok_meta_CheckRelease hf_meta_CheckRelease hB_meta_CheckRelease (by
  intro vs bs p v bs' h hp
  unfold c_meta_CheckRelease at h
  split at h
  · cases h
    exact ⟨by kernel_rfl, rfl, .inl (run_meta_CheckRelease _ _ _ _ ⟨rfl, rfl⟩)⟩
  · cases h)

def c_meta_ReleaseText : Contract := fun vs bs => match vs, bs with
  | [.agg [.dat .int v, .dat .int u, .dat (.list .target) ts]], [] => some (none, .tup [.one (.dat .str (releaseTextE v u ts).1), .one (.dat .int (releaseTextE v u ts).2)], [])
  | _, _ => none
def Γ_meta_ReleaseText : Ctx := [(n_meta_CheckRelease, c_meta_CheckRelease), (n_strconv_Itoa, c_strconv_Itoa), (n_meta_list, c_meta_list)]
theorem ok_meta_ReleaseText : Ok Tryd.prog tab Γ_meta_ReleaseText := (((ok_nil.consC hf_meta_list hB_meta_list sound_meta_list).consC hf_strconv_Itoa hB_strconv_Itoa sound_strconv_Itoa).consC hf_meta_CheckRelease hB_meta_CheckRelease sound_meta_CheckRelease)
noncomputable def meta_ReleaseText_L0 : List It := [.inLoop [25, 24, 23, 5, 3, 2] (Code.sub (bodyOf fn_meta_ReleaseText) [1, 1, 1, 0, 1, 0, 0]), .inBlock 0, .code (Code.sub (bodyOf fn_meta_ReleaseText) [1, 1, 1, 1])]
def meta_ReleaseText_S0 (x0 : Int) (x1 : Int) (x2 : (List Vm.Target)) (x3 : (List UInt8)) (x4 : Int) (x5 : (List UInt8)) : St := ⟨[(25, .one (.dat Ty.int x0)), (24, .one (.dat Ty.int x1)), (23, .one (.dat (Ty.list Ty.target) x2)), (5, .one (.dat Ty.str x3)), (3, .one (.dat Ty.int x4)), (2, .one (.dat Ty.str x5))], [], 0⟩
theorem meta_ReleaseText_vc (v : Int) (u : Int) (ts : List Vm.Target) (rec : List It → St → Prop) (K : V → List Blk → Prop) v0 (hv0 : v0 = (checkRelease v u ts)) v1 (hv1 : v1 = (numT v)) v2 (hv2 : v2 = (numT u)) : segD Γ_meta_ReleaseText tab fn_meta_ReleaseText 0 K rec [.code (bodyOf fn_meta_ReleaseText)] (initSt [.agg [.dat Ty.int v, .dat Ty.int u, .dat (Ty.list Ty.target) ts]] []) = (
    br (!(eqi v0 (0 : Int)))
     (K (.tup [.one (.dat Ty.str []), .one (.dat Ty.int v0)]) [])
     ((((0 : Int) ≤ v) ∧ (v ≤ (9223372036854775807 : Int))) ∧
      ((((len ((114 : UInt8) :: ((101 : UInt8) :: ((108 : UInt8) :: ((101 : UInt8) :: ((97 : UInt8) :: ((115 : UInt8) :: ((101 : UInt8) :: ((32 : UInt8) :: []))))))))) + (len v1)) ≤ 140737488355328) ∧
      ((((len (cat ((114 : UInt8) :: ((101 : UInt8) :: ((108 : UInt8) :: ((101 : UInt8) :: ((97 : UInt8) :: ((115 : UInt8) :: ((101 : UInt8) :: ((32 : UInt8) :: [])))))))) v1)) + (len ((32 : UInt8) :: ((117 : UInt8) :: ((110 : UInt8) :: ((116 : UInt8) :: ((105 : UInt8) :: ((108 : UInt8) :: ((32 : UInt8) :: []))))))))) ≤ 140737488355328) ∧
      ((((0 : Int) ≤ u) ∧ (u ≤ (9223372036854775807 : Int))) ∧
      ((((len (cat (cat ((114 : UInt8) :: ((101 : UInt8) :: ((108 : UInt8) :: ((101 : UInt8) :: ((97 : UInt8) :: ((115 : UInt8) :: ((101 : UInt8) :: ((32 : UInt8) :: [])))))))) v1) ((32 : UInt8) :: ((117 : UInt8) :: ((110 : UInt8) :: ((116 : UInt8) :: ((105 : UInt8) :: ((108 : UInt8) :: ((32 : UInt8) :: []))))))))) + (len v2)) ≤ 140737488355328) ∧
      (rec meta_ReleaseText_L0 (meta_ReleaseText_S0 (0 : Int) (((len ts) : Nat) : Int) ts (cat (cat (cat ((114 : UInt8) :: ((101 : UInt8) :: ((108 : UInt8) :: ((101 : UInt8) :: ((97 : UInt8) :: ((115 : UInt8) :: ((101 : UInt8) :: ((32 : UInt8) :: [])))))))) v1) ((32 : UInt8) :: ((117 : UInt8) :: ((110 : UInt8) :: ((116 : UInt8) :: ((105 : UInt8) :: ((108 : UInt8) :: ((32 : UInt8) :: [])))))))) v2) (0 : Int) [])))))))) := by subst hv2; subst hv1; subst hv0; kernel_rfl
theorem meta_ReleaseText_w (v : Int) (u : Int) (ts : List Vm.Target) (m : Nat) (K : V → List Blk → Prop) : goD Γ_meta_ReleaseText tab fn_meta_ReleaseText 0 K (m + 1) [.code (bodyOf fn_meta_ReleaseText)] (initSt [.agg [.dat Ty.int v, .dat Ty.int u, .dat (Ty.list Ty.target) ts]] []) = segD Γ_meta_ReleaseText tab fn_meta_ReleaseText 0 K (goD Γ_meta_ReleaseText tab fn_meta_ReleaseText 0 K m) [.code (bodyOf fn_meta_ReleaseText)] (initSt [.agg [.dat Ty.int v, .dat Ty.int u, .dat (Ty.list Ty.target) ts]] []) := rfl
theorem meta_ReleaseText_vc0 (x0 : Int) (x1 : Int) (x2 : (List Vm.Target)) (x3 : (List UInt8)) (x4 : Int) (x5 : (List UInt8)) (rec : List It → St → Prop) (K : V → List Blk → Prop) v0 (hv0 : v0 = (nums (((nth x2 (Int.toNat x0) (Ty.dflt Ty.target))).unit :: (((nth x2 (Int.toNat x0) (Ty.dflt Ty.target))).image :: (((nth x2 (Int.toNat x0) (Ty.dflt Ty.target))).long :: []))))) v1 (hv1 : v1 = (listT (((nth x2 (Int.toNat x0) (Ty.dflt Ty.target))).unit :: (((nth x2 (Int.toNat x0) (Ty.dflt Ty.target))).image :: (((nth x2 (Int.toNat x0) (Ty.dflt Ty.target))).long :: []))))) : segD Γ_meta_ReleaseText tab fn_meta_ReleaseText 0 K rec (.code (Code.sub (bodyOf fn_meta_ReleaseText) [1, 1, 1, 0, 1, 0, 0]) :: meta_ReleaseText_L0) (meta_ReleaseText_S0 x0 x1 x2 x3 x4 x5) = (
    br (lti x0 x1)
     ((((0 : Int) ≤ x0) ∧ (x0 < (((len x2) : Nat) : Int))) ∧
      ((((len (((nth x2 (Int.toNat x0) (Ty.dflt Ty.target))).unit :: (((nth x2 (Int.toNat x0) (Ty.dflt Ty.target))).image :: (((nth x2 (Int.toNat x0) (Ty.dflt Ty.target))).long :: [])))) ≤ 1000) ∧ (v0 = true)) ∧
      ((((len ((59 : UInt8) :: ((32 : UInt8) :: []))) + (len v1)) ≤ 140737488355328) ∧
      ((((len x3) + (len (cat ((59 : UInt8) :: ((32 : UInt8) :: [])) v1))) ≤ 140737488355328) ∧
      (rec meta_ReleaseText_L0 (meta_ReleaseText_S0 (w64 (x0 + (1 : Int))) x1 x2 (cat x3 (cat ((59 : UInt8) :: ((32 : UInt8) :: [])) v1)) x4 x5))))))
     (K (.tup [.one (.dat Ty.str x3), .one (.dat Ty.int (0 : Int))]) [])) := by subst hv1; subst hv0; kernel_rfl
theorem meta_ReleaseText_w0 (x0 : Int) (x1 : Int) (x2 : (List Vm.Target)) (x3 : (List UInt8)) (x4 : Int) (x5 : (List UInt8)) (m : Nat) (K : V → List Blk → Prop) : goD Γ_meta_ReleaseText tab fn_meta_ReleaseText 0 K (m + 1) meta_ReleaseText_L0 (meta_ReleaseText_S0 x0 x1 x2 x3 x4 x5) = segD Γ_meta_ReleaseText tab fn_meta_ReleaseText 0 K (goD Γ_meta_ReleaseText tab fn_meta_ReleaseText 0 K m) (.code (Code.sub (bodyOf fn_meta_ReleaseText) [1, 1, 1, 0, 1, 0, 0]) :: meta_ReleaseText_L0) (meta_ReleaseText_S0 x0 x1 x2 x3 x4 x5) := rfl

theorem loop_meta_ReleaseText (ts : List Vm.Target) (hl : ts.length ≤ 4) (hn : ∀ t ∈ ts, 0 ≤ t.unit ∧ t.unit ≤ 1000 ∧ 0 ≤ t.image ∧ t.image ≤ 1000 ∧ 0 ≤ t.long ∧ t.long ≤ 1000) (K : V → List Blk → Prop) (pre : List UInt8) (hp : pre.length ≤ 1000) (x4 : Int) (x5 : List UInt8) (hK : K (.tup [.one (.dat .str (pre ++ targetsT ts)), .one (.dat .int 0)]) []) : ∀ (d k : Nat), k + d = ts.length → (targetsT (ts.take k)).length ≤ 65 * k →
    goD Γ_meta_ReleaseText tab fn_meta_ReleaseText 0 K (d + 1) meta_ReleaseText_L0 (meta_ReleaseText_S0 (k : Int) (((len ts) : Nat) : Int) ts (pre ++ targetsT (ts.take k)) x4 x5)
  | 0, k, hk, hq => by
    rw [meta_ReleaseText_w0, meta_ReleaseText_vc0 _ _ _ _ _ _ _ _ _ rfl _ rfl, List.take_of_length_le (by omega)]
    exact lt_f (by simp only [len]; omega) hK
  | d + 1, k, hk, hq => by
    have ht := take_step (l := ts) (k := k) (by omega) (Ty.dflt Ty.target)
    have hm : nth ts k (Ty.dflt Ty.target) ∈ ts := by
      have : k < ts.length := by omega
      simp [nth, List.getD_eq_getElem?_getD, this]
    have hx := hn _ hm
    have step : targetsT (ts.take (k + 1)) = targetsT (ts.take k) ++ targetT (nth ts k (Ty.dflt Ty.target)) := by rw [ht]; simp [targetsT]
    rw [meta_ReleaseText_w0, meta_ReleaseText_vc0 _ _ _ _ _ _ _ _ _ rfl _ rfl, toNat_nat]
    obtain ⟨x, hxe⟩ : ∃ x, nth ts k (Ty.dflt Ty.target) = x := ⟨_, rfl⟩
    rw [hxe] at hx step ⊢
    have l1 := listT_len [x.unit, x.image, x.long]
    simp only [List.length_cons, List.length_nil] at l1
    have el : (targetT x).length = 2 + (listT [x.unit, x.image, x.long]).length := by simp [targetT]; omega
    have ek : w64 ((k : Int) + 1) = ((k + 1 : Nat) : Int) := w64_succ (by omega)
    rw [ek]
    refine lt_t (by simp only [len]; omega) ⟨⟨by omega, by simp only [len]; omega⟩, ⟨by simp [len], ?_⟩, by simp only [len, List.length_cons, List.length_nil]; omega, by simp only [len, cat, List.length_append, List.length_cons, List.length_nil]; omega, ?_⟩
    · simp only [nums, List.all_cons, List.all_nil, Bool.and_true, Bool.and_eq_true, decide_eq_true_eq]; omega
    · have := loop_meta_ReleaseText ts hl hn K pre hp x4 x5 hK d (k + 1) (by omega) (by rw [step, List.length_append, el]; omega)
      rw [step] at this
      have e : cat (pre ++ targetsT (ts.take k)) (cat [59, 32] (listT [x.unit, x.image, x.long])) = pre ++ (targetsT (ts.take k) ++ targetT x) := by simp [cat, targetT]
      rw [← e] at this
      exact this
set_option maxHeartbeats 4000000 in
theorem run_meta_ReleaseText (v u : Int) (ts : List Vm.Target) (K : V → List Blk → Prop) (hK : K (.tup [.one (.dat .str (releaseTextE v u ts).1), .one (.dat .int (releaseTextE v u ts).2)]) []) : ∃ m, goD Γ_meta_ReleaseText tab fn_meta_ReleaseText 0 K m [.code (bodyOf fn_meta_ReleaseText)] (initSt [.agg [.dat .int v, .dat .int u, .dat (.list .target) ts]] []) := by
  refine ⟨ts.length + 2, ?_⟩
  rw [meta_ReleaseText_w, meta_ReleaseText_vc _ _ _ _ _ _ rfl _ rfl _ rfl]
  unfold releaseTextE at hK
  refine ne_s (fun h => ?_) (fun h => ?_)
  · rw [if_neg h] at hK; exact hK
  rw [if_pos h] at hK
  obtain ⟨h1, h2, h3, h4, h5, h6, h7⟩ := checkRelease_ok h
  have n1 := numT_len v
  have n2 := numT_len u
  refine ⟨by omega, by simp only [len, List.length_cons, List.length_nil]; omega, by simp only [len, cat, List.length_append, List.length_cons, List.length_nil]; omega, by omega, by simp only [len, cat, List.length_append, List.length_cons, List.length_nil]; omega, ?_⟩
  have := loop_meta_ReleaseText ts h6 h7 K ([114, 101, 108, 101, 97, 115, 101, 32] ++ numT v ++ [32, 117, 110, 116, 105, 108, 32] ++ numT u) (by simp only [List.length_append, List.length_cons, List.length_nil]; omega) 0 [] hK ts.length 0 (by omega) (by simp [targetsT])
  rw [show targetsT (ts.take 0) = [] from by simp [targetsT], List.append_nil] at this
  exact this
theorem sound_meta_ReleaseText : SoundC Tryd.prog tab n_meta_ReleaseText c_meta_ReleaseText := soundC_of ok_meta_ReleaseText hf_meta_ReleaseText hB_meta_ReleaseText (by
  intro vs bs p v bs' h hp
  unfold c_meta_ReleaseText at h
  split at h
  · cases h
    exact ⟨by kernel_rfl, rfl, .inl (run_meta_ReleaseText _ _ _ _ ⟨rfl, rfl⟩)⟩
  · cases h)

def c_meta_CheckImage : Contract := fun vs bs => match vs, bs with
  | [.one (.dat (.list .int) l)], [] => some (none, .one (.dat .int (checkImage l)), [])
  | _, _ => none
def Γ_meta_CheckImage : Ctx := []
theorem ok_meta_CheckImage : Ok Tryd.prog tab Γ_meta_CheckImage := ok_nil
noncomputable def meta_CheckImage_L0 : List It := [.inLoop [15, 14, 13, 2] (Code.sub (bodyOf fn_meta_CheckImage) [1, 1, 0, 1, 0, 0]), .inBlock 0, .code (Code.sub (bodyOf fn_meta_CheckImage) [1, 1, 1])]
def meta_CheckImage_S0 (x0 : Int) (x1 : Int) (x2 : (List Int)) (x3 : Int) : St := ⟨[(15, .one (.dat Ty.int x0)), (14, .one (.dat Ty.int x1)), (13, .one (.dat (Ty.list Ty.int) x2)), (2, .one (.dat Ty.int x3))], [], 0⟩
theorem meta_CheckImage_vc (l : List Int) (rec : List It → St → Prop) (K : V → List Blk → Prop) : segD Γ_meta_CheckImage tab fn_meta_CheckImage 0 K rec [.code (bodyOf fn_meta_CheckImage)] (initSt [.one (.dat (Ty.list Ty.int) l)] []) = (
    br (eqi (((len l) : Nat) : Int) (0 : Int))
     (K (.one (.dat Ty.int (2 : Int))) [])
     (br (lti (40 : Int) (((len l) : Nat) : Int))
       (K (.one (.dat Ty.int (2 : Int))) [])
       (rec meta_CheckImage_L0 (meta_CheckImage_S0 (0 : Int) (((len l) : Nat) : Int) l (0 : Int))))) := by kernel_rfl
theorem meta_CheckImage_w (l : List Int) (m : Nat) (K : V → List Blk → Prop) : goD Γ_meta_CheckImage tab fn_meta_CheckImage 0 K (m + 1) [.code (bodyOf fn_meta_CheckImage)] (initSt [.one (.dat (Ty.list Ty.int) l)] []) = segD Γ_meta_CheckImage tab fn_meta_CheckImage 0 K (goD Γ_meta_CheckImage tab fn_meta_CheckImage 0 K m) [.code (bodyOf fn_meta_CheckImage)] (initSt [.one (.dat (Ty.list Ty.int) l)] []) := rfl
theorem meta_CheckImage_vc0 (x0 : Int) (x1 : Int) (x2 : (List Int)) (x3 : Int) (rec : List It → St → Prop) (K : V → List Blk → Prop) : segD Γ_meta_CheckImage tab fn_meta_CheckImage 0 K rec (.code (Code.sub (bodyOf fn_meta_CheckImage) [1, 1, 0, 1, 0, 0]) :: meta_CheckImage_L0) (meta_CheckImage_S0 x0 x1 x2 x3) = (
    br (lti x0 x1)
     ((((0 : Int) ≤ x0) ∧ (x0 < (((len x2) : Nat) : Int))) ∧
      (br (lti (nth x2 (Int.toNat x0) (Ty.dflt Ty.int)) (0 : Int))
       (K (.one (.dat Ty.int (3 : Int))) [])
       (br (lti (65535 : Int) (nth x2 (Int.toNat x0) (Ty.dflt Ty.int)))
         (K (.one (.dat Ty.int (3 : Int))) [])
         (rec meta_CheckImage_L0 (meta_CheckImage_S0 (w64 (x0 + (1 : Int))) x1 x2 x3)))))
     (K (.one (.dat Ty.int (0 : Int))) [])) := by kernel_rfl
theorem meta_CheckImage_w0 (x0 : Int) (x1 : Int) (x2 : (List Int)) (x3 : Int) (m : Nat) (K : V → List Blk → Prop) : goD Γ_meta_CheckImage tab fn_meta_CheckImage 0 K (m + 1) meta_CheckImage_L0 (meta_CheckImage_S0 x0 x1 x2 x3) = segD Γ_meta_CheckImage tab fn_meta_CheckImage 0 K (goD Γ_meta_CheckImage tab fn_meta_CheckImage 0 K m) (.code (Code.sub (bodyOf fn_meta_CheckImage) [1, 1, 0, 1, 0, 0]) :: meta_CheckImage_L0) (meta_CheckImage_S0 x0 x1 x2 x3) := rfl

theorem loop_meta_CheckImage (ws : List Int) (hl : ws.length ≤ 40) (K : V → List Blk → Prop) (hK : K (.one (.dat .int (if okWords ws then 0 else 3))) []) : ∀ (d k : Nat), k + d = ws.length → okWords (ws.take k) = true →
    goD Γ_meta_CheckImage tab fn_meta_CheckImage 0 K (d + 1) meta_CheckImage_L0 (meta_CheckImage_S0 (k : Int) (((len ws) : Nat) : Int) ws (0 : Int))
  | 0, k, hk, he => by
    rw [meta_CheckImage_w0, meta_CheckImage_vc0 _ _ _ _ _ _]
    refine lt_f (by simp only [len]; omega) ?_
    rw [List.take_of_length_le (by omega)] at he
    rw [if_pos he] at hK
    exact hK
  | d + 1, k, hk, he => by
    rw [meta_CheckImage_w0, meta_CheckImage_vc0 _ _ _ _ _ _]
    have bad : okWord (nth ws k (Ty.dflt Ty.int)) = false → K (.one (.dat .int 3)) [] := fun h => by
      rw [show okWords ws = false from all_false (k := k) (by omega) _ h] at hK; exact hK
    refine lt_t (by simp only [len]; omega) ⟨⟨by omega, by simp only [len]; omega⟩, lt_s (fun h => ?_) (fun h => lt_s (fun h2 => ?_) (fun h2 => ?_))⟩
    · rw [toNat_nat] at h
      exact bad (by simp only [okWord, Bool.and_eq_false_iff, decide_eq_false_iff_not]; exact .inl (by omega))
    · rw [toNat_nat] at h2
      exact bad (by simp only [okWord, Bool.and_eq_false_iff, decide_eq_false_iff_not]; exact .inr (by omega))
    · rw [w64_succ (by omega)]
      rw [toNat_nat] at h h2
      exact loop_meta_CheckImage ws hl K hK d (k + 1) (by omega) (all_take_step (by omega) (Ty.dflt Ty.int) he (by simp [okWord, h, h2]))
set_option maxHeartbeats 4000000 in
theorem run_meta_CheckImage (l : List Int) (K : V → List Blk → Prop) (hK : K (.one (.dat .int (checkImage l))) []) : ∃ m, goD Γ_meta_CheckImage tab fn_meta_CheckImage 0 K m [.code (bodyOf fn_meta_CheckImage)] (initSt [.one (.dat (.list .int) l)] []) := by
  refine ⟨l.length + 2, ?_⟩
  rw [meta_CheckImage_w, meta_CheckImage_vc _ _ _]
  unfold checkImage at hK
  refine eq_s (fun h => ?_) (fun h => lt_s (fun h2 => ?_) (fun h2 => ?_))
  · rw [if_pos (by simp only [len] at h; omega)] at hK; exact hK
  · rw [if_pos (by simp only [len] at h2; omega)] at hK; exact hK
  · rw [if_neg (by simp only [len] at h h2; omega)] at hK
    exact loop_meta_CheckImage l (by simp only [len] at h2; omega) K hK l.length 0 (by omega) rfl
theorem sound_meta_CheckImage : SoundC Tryd.prog tab n_meta_CheckImage c_meta_CheckImage := soundC_of ok_meta_CheckImage hf_meta_CheckImage hB_meta_CheckImage (by
  intro vs bs p v bs' h hp
  unfold c_meta_CheckImage at h
  split at h
  · cases h
    exact ⟨by kernel_rfl, rfl, .inl (run_meta_CheckImage _ _ ⟨rfl, rfl⟩)⟩
  · cases h)

def c_meta_ImageText : Contract := fun vs bs => match vs, bs with
  | [.one (.dat (.list .int) l)], [] => some (none, .tup [.one (.dat .str (imageTextE l).1), .one (.dat .int (imageTextE l).2)], [])
  | _, _ => none
def Γ_meta_ImageText : Ctx := [(n_meta_CheckImage, c_meta_CheckImage), (n_meta_list, c_meta_list)]
theorem ok_meta_ImageText : Ok Tryd.prog tab Γ_meta_ImageText := ((ok_nil.consC hf_meta_list hB_meta_list sound_meta_list).consC hf_meta_CheckImage hB_meta_CheckImage sound_meta_CheckImage)
theorem meta_ImageText_vc (l : List Int) (rec : List It → St → Prop) (K : V → List Blk → Prop) v0 (hv0 : v0 = (checkImage l)) v1 (hv1 : v1 = (nums l)) v2 (hv2 : v2 = (listT l)) : segD Γ_meta_ImageText tab fn_meta_ImageText 0 K rec [.code (bodyOf fn_meta_ImageText)] (initSt [.one (.dat (Ty.list Ty.int) l)] []) = (
    br (!(eqi v0 (0 : Int)))
     (K (.tup [.one (.dat Ty.str []), .one (.dat Ty.int v0)]) [])
     ((((len l) ≤ 1000) ∧ (v1 = true)) ∧
      ((((len ((105 : UInt8) :: ((109 : UInt8) :: ((97 : UInt8) :: ((103 : UInt8) :: ((101 : UInt8) :: ((32 : UInt8) :: []))))))) + (len v2)) ≤ 140737488355328) ∧
      (K (.tup [.one (.dat Ty.str (cat ((105 : UInt8) :: ((109 : UInt8) :: ((97 : UInt8) :: ((103 : UInt8) :: ((101 : UInt8) :: ((32 : UInt8) :: [])))))) v2)), .one (.dat Ty.int (0 : Int))]) [])))) := by subst hv2; subst hv1; subst hv0; kernel_rfl
theorem meta_ImageText_w (l : List Int) (m : Nat) (K : V → List Blk → Prop) : goD Γ_meta_ImageText tab fn_meta_ImageText 0 K (m + 1) [.code (bodyOf fn_meta_ImageText)] (initSt [.one (.dat (Ty.list Ty.int) l)] []) = segD Γ_meta_ImageText tab fn_meta_ImageText 0 K (goD Γ_meta_ImageText tab fn_meta_ImageText 0 K m) [.code (bodyOf fn_meta_ImageText)] (initSt [.one (.dat (Ty.list Ty.int) l)] []) := rfl

set_option maxHeartbeats 4000000 in
theorem run_meta_ImageText (l : List Int) (K : V → List Blk → Prop) (hK : K (.tup [.one (.dat .str (imageTextE l).1), .one (.dat .int (imageTextE l).2)]) []) : ∃ m, goD Γ_meta_ImageText tab fn_meta_ImageText 0 K m [.code (bodyOf fn_meta_ImageText)] (initSt [.one (.dat (.list .int) l)] []) := by
  refine ⟨1, ?_⟩
  rw [meta_ImageText_w, meta_ImageText_vc _ _ _ _ rfl _ rfl _ rfl]
  unfold imageTextE at hK
  refine ne_s (fun h => ?_) (fun h => ?_)
  · rw [if_neg h] at hK; exact hK
  rw [if_pos h] at hK
  obtain ⟨h1, h2, h3⟩ := checkImage_ok h
  have n3 := listT_len l
  exact ⟨⟨by simp only [len]; omega, nums_of_words h3⟩, by simp only [len, List.length_cons, List.length_nil]; omega, hK⟩
theorem sound_meta_ImageText : SoundC Tryd.prog tab n_meta_ImageText c_meta_ImageText := soundC_of ok_meta_ImageText hf_meta_ImageText hB_meta_ImageText (by
  intro vs bs p v bs' h hp
  unfold c_meta_ImageText at h
  split at h
  · cases h
    exact ⟨by kernel_rfl, rfl, .inl (run_meta_ImageText _ _ ⟨rfl, rfl⟩)⟩
  · cases h)

def c_meta_ImageName : Contract := fun vs bs => match vs, bs with
  | [.agg [.dat (.list .str) l], .one (.dat (.list .int) ws)], [] => some (some (l.length ≤ 140737488355328), .tup [.one (.dat .int (imageName l ws).1), .one (.dat .int (imageName l ws).2)], [])
  | _, _ => none
def Γ_meta_ImageName : Ctx := [(n_meta_ImageText, c_meta_ImageText), (n_meta_Name, c_meta_Name)]
theorem ok_meta_ImageName : Ok Tryd.prog tab Γ_meta_ImageName := ((ok_nil.consC hf_meta_Name hB_meta_Name sound_meta_Name).consC hf_meta_ImageText hB_meta_ImageText sound_meta_ImageText)
theorem meta_ImageName_vc (l : List (List UInt8)) (ws : List Int) (rec : List It → St → Prop) (K : V → List Blk → Prop) v0 (hv0 : v0 = (imageTextE ws)) v1 (hv1 : v1 = (nameB l (v0).fst)) : segD Γ_meta_ImageName tab fn_meta_ImageName 0 K rec [.code (bodyOf fn_meta_ImageName)] (initSt [.agg [.dat (Ty.list Ty.str) l], .one (.dat (Ty.list Ty.int) ws)] []) = (
    br (!(eqi (v0).snd (0 : Int)))
     (K (.tup [.one (.dat Ty.int (0 : Int)), .one (.dat Ty.int (v0).snd)]) [])
     (((List.length l) ≤ 140737488355328) ∧
      (K (.tup [.one (.dat Ty.int (v1).fst), .one (.dat Ty.int (v1).snd)]) []))) := by subst hv1; subst hv0; kernel_rfl
theorem meta_ImageName_w (l : List (List UInt8)) (ws : List Int) (m : Nat) (K : V → List Blk → Prop) : goD Γ_meta_ImageName tab fn_meta_ImageName 0 K (m + 1) [.code (bodyOf fn_meta_ImageName)] (initSt [.agg [.dat (Ty.list Ty.str) l], .one (.dat (Ty.list Ty.int) ws)] []) = segD Γ_meta_ImageName tab fn_meta_ImageName 0 K (goD Γ_meta_ImageName tab fn_meta_ImageName 0 K m) [.code (bodyOf fn_meta_ImageName)] (initSt [.agg [.dat (Ty.list Ty.str) l], .one (.dat (Ty.list Ty.int) ws)] []) := rfl

set_option maxHeartbeats 4000000 in
theorem run_meta_ImageName (l : List (List UInt8)) (ws : List Int) (hp : l.length ≤ 140737488355328) (K : V → List Blk → Prop) (hK : K (.tup [.one (.dat .int (imageName l ws).1), .one (.dat .int (imageName l ws).2)]) []) : ∃ m, goD Γ_meta_ImageName tab fn_meta_ImageName 0 K m [.code (bodyOf fn_meta_ImageName)] (initSt [.agg [.dat (.list .str) l], .one (.dat (.list .int) ws)] []) := by
  refine ⟨1, ?_⟩
  rw [meta_ImageName_w, meta_ImageName_vc _ _ _ _ _ rfl _ rfl]
  unfold imageName at hK
  by_cases h : checkImage ws = 0
  · rw [if_pos h] at hK
    rw [show imageTextE ws = (imageText ws, 0) from if_pos h]
    exact ne_f rfl ⟨hp, hK⟩
  · rw [if_neg h] at hK
    rw [show imageTextE ws = ([], checkImage ws) from if_neg h]
    exact ne_t h hK
theorem sound_meta_ImageName : SoundC Tryd.prog tab n_meta_ImageName c_meta_ImageName := soundC_of ok_meta_ImageName hf_meta_ImageName hB_meta_ImageName (by
  intro vs bs p v bs' h hp
  unfold c_meta_ImageName at h
  split at h
  · cases h
    exact ⟨by kernel_rfl, rfl, .inl (run_meta_ImageName _ _ hp.1 _ ⟨rfl, rfl⟩)⟩
  · cases h)

def c_trust_Take : Contract := fun vs bs => match vs, bs with
  | [.agg [.dat (.list .str) b], .one (.dat (.list .signed) l), .agg [.dat .int v, .dat (.list .int) ks, .dat .int t, .dat .int n], .agg [.dat (.list .root) rs, .dat (.list (.list .int)) rg, .dat .int ov, .dat .int ou, .dat (.list .target) ts, .dat (.list .int) sg, .dat (.list (.list .int)) im], .one (.dat .int now), .one (.dat .int units)], [] => some (some (b.length ≤ 140737488355328), .tup [.agg [.dat .int (takeT b l ⟨⟨v, ks, t⟩, n⟩ ⟨rs, rg, ⟨ov, ou, ts⟩, sg, im⟩ now units).1.r.version, .dat (.list .int) (takeT b l ⟨⟨v, ks, t⟩, n⟩ ⟨rs, rg, ⟨ov, ou, ts⟩, sg, im⟩ now units).1.r.keys, .dat .int (takeT b l ⟨⟨v, ks, t⟩, n⟩ ⟨rs, rg, ⟨ov, ou, ts⟩, sg, im⟩ now units).1.r.thr, .dat .int (takeT b l ⟨⟨v, ks, t⟩, n⟩ ⟨rs, rg, ⟨ov, ou, ts⟩, sg, im⟩ now units).1.version], .one (.dat .int (takeT b l ⟨⟨v, ks, t⟩, n⟩ ⟨rs, rg, ⟨ov, ou, ts⟩, sg, im⟩ now units).2)], [])
  | _, _ => none
def Γ_trust_Take : Ctx := [(n_trust_CheckTrust, c_trust_CheckTrust), (n_trust_Turn, c_trust_Turn), (n_trust_Take_1, c_trust_Take_1), (n_meta_ReleaseText, c_meta_ReleaseText), (n_meta_Name, c_meta_Name), (n_trust_Count, c_trust_Count), (n_meta_ImageName, c_meta_ImageName), (n_slices_Clone_Lint, c_slices_Clone_Lint)]
theorem ok_trust_Take : Ok Tryd.prog tab Γ_trust_Take := ((((((((ok_nil.consC hf_slices_Clone_Lint hB_slices_Clone_Lint sound_slices_Clone_Lint).consC hf_meta_ImageName hB_meta_ImageName sound_meta_ImageName).consC hf_trust_Count hB_trust_Count sound_trust_Count).consC hf_meta_Name hB_meta_Name sound_meta_Name).consC hf_meta_ReleaseText hB_meta_ReleaseText sound_meta_ReleaseText).consC hf_trust_Take_1 hB_trust_Take_1 sound_trust_Take_1).consC hf_trust_Turn hB_trust_Turn sound_trust_Turn).consC hf_trust_CheckTrust hB_trust_CheckTrust sound_trust_CheckTrust)
noncomputable def trust_Take_L0 : List It := [.inLoop [57, 56, 55, 14, 13, 12, 9, 8, 6, 1, 4, 5] (Code.sub (bodyOf fn_trust_Take) [1, 1, 1, 1, 0, 1, 0, 0]), .inBlock 0, .code (Code.sub (bodyOf fn_trust_Take) [1, 1, 1, 1, 1])]
def trust_Take_S0 (x0 : Int) (x1 : Int) (x2 : (List Vm.Root)) (x3 : Int) (x4 : (List Vm.Signed)) (x5 : Int) (x6 : Int) (x7 : Int) (x8 : Int) (x9 : Int) (x10 : (List Vm.Root)) (x11 : (List (List Int))) (x12 : Int) (x13 : Int) (x14 : (List Vm.Target)) (x15 : (List Int)) (x16 : (List (List Int))) (x17 : Int) (x18 : (List Int)) (x19 : Int) (x20 : Int) (x21 : (List (List UInt8))) (x22 : (List Int)) : St := ⟨[(57, .one (.dat Ty.int x0)), (56, .one (.dat Ty.int x1)), (55, .one (.dat (Ty.list Ty.root) x2)), (14, .one (.fn n_trust_Take_1 [])), (13, .one (.dat Ty.int x3)), (12, .one (.ptr 0 0)), (9, .one (.ptr 1 0)), (8, .one (.ptr 2 0)), (6, .one (.ptr 3 0)), (1, .one (.dat (Ty.list Ty.signed) x4)), (4, .one (.dat Ty.int x5)), (5, .one (.dat Ty.int x6))], [(0, .box [.dat Ty.int x7, .own 4, .dat Ty.int x8, .dat Ty.int x9]), (1, .box [.dat (Ty.list Ty.root) x10, .dat (Ty.list (Ty.list Ty.int)) x11, .dat Ty.int x12, .dat Ty.int x13, .dat (Ty.list Ty.target) x14, .dat (Ty.list Ty.int) x15, .dat (Ty.list (Ty.list Ty.int)) x16]), (2, .box [.dat Ty.int x17, .dat (Ty.list Ty.int) x18, .dat Ty.int x19, .dat Ty.int x20]), (3, .box [.dat (Ty.list Ty.str) x21]), (4, .arr Ty.int x22)], 5⟩
noncomputable def trust_Take_L1 : List It := [.inLoop [181, 180, 179, 14, 13, 12, 9, 8, 6] (Code.sub (bodyOf fn_trust_Take) [1, 1, 1, 1, 1, 1, 1, 1, 1, 1, 1, 0, 1, 0, 0]), .inBlock 3, .code (Code.sub (bodyOf fn_trust_Take) [1, 1, 1, 1, 1, 1, 1, 1, 1, 1, 1, 1])]
def trust_Take_S1 (x0 : Int) (x1 : Int) (x2 : (List Vm.Target)) (x3 : Int) (x4 : Int) (x5 : Int) (x6 : Int) (x7 : (List Vm.Root)) (x8 : (List (List Int))) (x9 : Int) (x10 : Int) (x11 : (List Vm.Target)) (x12 : (List Int)) (x13 : (List (List Int))) (x14 : Int) (x15 : (List Int)) (x16 : Int) (x17 : Int) (x18 : (List (List UInt8))) (x19 : (List Int)) : St := ⟨[(181, .one (.dat Ty.int x0)), (180, .one (.dat Ty.int x1)), (179, .one (.dat (Ty.list Ty.target) x2)), (14, .one (.fn n_trust_Take_1 [])), (13, .one (.dat Ty.int x3)), (12, .one (.ptr 0 0)), (9, .one (.ptr 1 0)), (8, .one (.ptr 2 0)), (6, .one (.ptr 3 0))], [(0, .box [.dat Ty.int x4, .own 4, .dat Ty.int x5, .dat Ty.int x6]), (1, .box [.dat (Ty.list Ty.root) x7, .dat (Ty.list (Ty.list Ty.int)) x8, .dat Ty.int x9, .dat Ty.int x10, .dat (Ty.list Ty.target) x11, .dat (Ty.list Ty.int) x12, .dat (Ty.list (Ty.list Ty.int)) x13]), (2, .box [.dat Ty.int x14, .dat (Ty.list Ty.int) x15, .dat Ty.int x16, .dat Ty.int x17]), (3, .box [.dat (Ty.list Ty.str) x18]), (4, .arr Ty.int x19)], 5⟩
theorem trust_Take_vc (b : List (List UInt8)) (l : List Signed) (v : Int) (ks : List Int) (t : Int) (n : Int) (rs : List Root) (rg : List (List Int)) (ov : Int) (ou : Int) (ts : List Vm.Target) (sg : List Int) (im : List (List Int)) (now : Int) (units : Int) (rec : List It → St → Prop) (K : V → List Blk → Prop) v0 (hv0 : v0 = (checkTrust (⟨(⟨v, ks, t⟩ : Vm.Root), n⟩ : Vm.Trust))) : segD Γ_trust_Take tab fn_trust_Take 0 K rec [.code (bodyOf fn_trust_Take)] (initSt [.agg [.dat (Ty.list Ty.str) b], .one (.dat (Ty.list Ty.signed) l), .agg [.dat Ty.int v, .dat (Ty.list Ty.int) ks, .dat Ty.int t, .dat Ty.int n], .agg [.dat (Ty.list Ty.root) rs, .dat (Ty.list (Ty.list Ty.int)) rg, .dat Ty.int ov, .dat Ty.int ou, .dat (Ty.list Ty.target) ts, .dat (Ty.list Ty.int) sg, .dat (Ty.list (Ty.list Ty.int)) im], .one (.dat Ty.int now), .one (.dat Ty.int units)] []) = (
    br (!(eqi v0 (0 : Int)))
     (K (.tup [.agg [.dat Ty.int (0 : Int), .dat (Ty.list Ty.int) [], .dat Ty.int (0 : Int), .dat Ty.int (0 : Int)], .one (.dat Ty.int v0)]) [])
     (br (lti (6 : Int) (((len rs) : Nat) : Int))
       (K (.tup [.agg [.dat Ty.int (0 : Int), .dat (Ty.list Ty.int) [], .dat Ty.int (0 : Int), .dat Ty.int (0 : Int)], .one (.dat Ty.int (2 : Int))]) [])
       (br (!(eqi (((len rg) : Nat) : Int) (((len rs) : Nat) : Int)))
         (K (.tup [.agg [.dat Ty.int (0 : Int), .dat (Ty.list Ty.int) [], .dat Ty.int (0 : Int), .dat Ty.int (0 : Int)], .one (.dat Ty.int (2 : Int))]) [])
         (rec trust_Take_L0 (trust_Take_S0 (0 : Int) (((len rs) : Nat) : Int) rs (0 : Int) l now units (0 : Int) (0 : Int) (0 : Int) rs rg ov ou ts sg im v ks t n b []))))) := by subst hv0; kernel_rfl
theorem trust_Take_w (b : List (List UInt8)) (l : List Signed) (v : Int) (ks : List Int) (t : Int) (n : Int) (rs : List Root) (rg : List (List Int)) (ov : Int) (ou : Int) (ts : List Vm.Target) (sg : List Int) (im : List (List Int)) (now : Int) (units : Int) (m : Nat) (K : V → List Blk → Prop) : goD Γ_trust_Take tab fn_trust_Take 0 K (m + 1) [.code (bodyOf fn_trust_Take)] (initSt [.agg [.dat (Ty.list Ty.str) b], .one (.dat (Ty.list Ty.signed) l), .agg [.dat Ty.int v, .dat (Ty.list Ty.int) ks, .dat Ty.int t, .dat Ty.int n], .agg [.dat (Ty.list Ty.root) rs, .dat (Ty.list (Ty.list Ty.int)) rg, .dat Ty.int ov, .dat Ty.int ou, .dat (Ty.list Ty.target) ts, .dat (Ty.list Ty.int) sg, .dat (Ty.list (Ty.list Ty.int)) im], .one (.dat Ty.int now), .one (.dat Ty.int units)] []) = segD Γ_trust_Take tab fn_trust_Take 0 K (goD Γ_trust_Take tab fn_trust_Take 0 K m) [.code (bodyOf fn_trust_Take)] (initSt [.agg [.dat (Ty.list Ty.str) b], .one (.dat (Ty.list Ty.signed) l), .agg [.dat Ty.int v, .dat (Ty.list Ty.int) ks, .dat Ty.int t, .dat Ty.int n], .agg [.dat (Ty.list Ty.root) rs, .dat (Ty.list (Ty.list Ty.int)) rg, .dat Ty.int ov, .dat Ty.int ou, .dat (Ty.list Ty.target) ts, .dat (Ty.list Ty.int) sg, .dat (Ty.list (Ty.list Ty.int)) im], .one (.dat Ty.int now), .one (.dat Ty.int units)] []) := rfl
theorem trust_Take_vc0 (x0 : Int) (x1 : Int) (x2 : (List Vm.Root)) (x3 : Int) (x4 : (List Vm.Signed)) (x5 : Int) (x6 : Int) (x7 : Int) (x8 : Int) (x9 : Int) (x10 : (List Vm.Root)) (x11 : (List (List Int))) (x12 : Int) (x13 : Int) (x14 : (List Vm.Target)) (x15 : (List Int)) (x16 : (List (List Int))) (x17 : Int) (x18 : (List Int)) (x19 : Int) (x20 : Int) (x21 : (List (List UInt8))) (x22 : (List Int)) (rec : List It → St → Prop) (K : V → List Blk → Prop) v0 (hv0 : v0 = (turnT x21 x4 (⟨(⟨x17, x18, x19⟩ : Vm.Root), x20⟩ : Vm.Trust) (⟨((nth x2 (Int.toNat x0) (Ty.dflt Ty.root))).version, ((nth x2 (Int.toNat x0) (Ty.dflt Ty.root))).keys, ((nth x2 (Int.toNat x0) (Ty.dflt Ty.root))).thr⟩ : Vm.Root) (nth x11 (Int.toNat x0) (Ty.dflt (Ty.list Ty.int))))) v1 (hv1 : v1 = (releaseTextE x12 x13 x14)) v2 (hv2 : v2 = (nameB x21 (v1).fst)) v3 (hv3 : v3 = (countT x4 (⟨x17, x18, x19⟩ : Vm.Root) x15 (v2).fst)) : segD Γ_trust_Take tab fn_trust_Take 0 K rec (.code (Code.sub (bodyOf fn_trust_Take) [1, 1, 1, 1, 0, 1, 0, 0]) :: trust_Take_L0) (trust_Take_S0 x0 x1 x2 x3 x4 x5 x6 x7 x8 x9 x10 x11 x12 x13 x14 x15 x16 x17 x18 x19 x20 x21 x22) = (
    br (lti x0 x1)
     ((((0 : Int) ≤ x0) ∧ (x0 < (((len x2) : Nat) : Int))) ∧
      ((((0 : Int) ≤ x0) ∧ (x0 < (((len x11) : Nat) : Int))) ∧
      (((List.length x21) ≤ 140737488355328) ∧
      (br (!(eqi (v0).snd (0 : Int)))
       (K (.tup [.agg [.dat Ty.int (0 : Int), .dat (Ty.list Ty.int) [], .dat Ty.int (0 : Int), .dat Ty.int (0 : Int)], .one (.dat Ty.int (v0).snd)]) [])
       (rec trust_Take_L0 (trust_Take_S0 (w64 (x0 + (1 : Int))) x1 x2 x3 x4 x5 x6 x7 x8 x9 x10 x11 x12 x13 x14 x15 x16 (((v0).fst).r).version (((v0).fst).r).keys (((v0).fst).r).thr ((v0).fst).version x21 x22))))))
     (br (!(eqi (v1).snd (0 : Int)))
       (K (.tup [.agg [.dat Ty.int (0 : Int), .dat (Ty.list Ty.int) [], .dat Ty.int (0 : Int), .dat Ty.int (0 : Int)], .one (.dat Ty.int (v1).snd)]) [])
       (((List.length x21) ≤ 140737488355328) ∧
        (br (!(eqi (v2).snd (0 : Int)))
         (K (.tup [.agg [.dat Ty.int (0 : Int), .dat (Ty.list Ty.int) [], .dat Ty.int (0 : Int), .dat Ty.int (0 : Int)], .one (.dat Ty.int (v2).snd)]) [])
         (br (!(eqi (v3).snd (0 : Int)))
           (K (.tup [.agg [.dat Ty.int (0 : Int), .dat (Ty.list Ty.int) [], .dat Ty.int (0 : Int), .dat Ty.int (0 : Int)], .one (.dat Ty.int (v3).snd)]) [])
           (br (lti (v3).fst x19)
             (K (.tup [.agg [.dat Ty.int (0 : Int), .dat (Ty.list Ty.int) [], .dat Ty.int (0 : Int), .dat Ty.int (0 : Int)], .one (.dat Ty.int (9 : Int))]) [])
             (br (lei x12 x20)
               (K (.tup [.agg [.dat Ty.int (0 : Int), .dat (Ty.list Ty.int) [], .dat Ty.int (0 : Int), .dat Ty.int (0 : Int)], .one (.dat Ty.int (10 : Int))]) [])
               (br (lti x13 x5)
                 (K (.tup [.agg [.dat Ty.int (0 : Int), .dat (Ty.list Ty.int) [], .dat Ty.int (0 : Int), .dat Ty.int (0 : Int)], .one (.dat Ty.int (11 : Int))]) [])
                 (br (!(eqi (((len x14) : Nat) : Int) x6))
                   (K (.tup [.agg [.dat Ty.int (0 : Int), .dat (Ty.list Ty.int) [], .dat Ty.int (0 : Int), .dat Ty.int (0 : Int)], .one (.dat Ty.int (4 : Int))]) [])
                   (br (!(eqi (((len x16) : Nat) : Int) x6))
                     (K (.tup [.agg [.dat Ty.int (0 : Int), .dat (Ty.list Ty.int) [], .dat Ty.int (0 : Int), .dat Ty.int (0 : Int)], .one (.dat Ty.int (4 : Int))]) [])
                     (rec trust_Take_L1 (trust_Take_S1 (0 : Int) (((len x14) : Nat) : Int) x14 x3 x7 x8 x9 x10 x11 x12 x13 x14 x15 x16 x17 x18 x19 x20 x21 x22)))))))))))) := by subst hv3; subst hv2; subst hv1; subst hv0; kernel_rfl
theorem trust_Take_w0 (x0 : Int) (x1 : Int) (x2 : (List Vm.Root)) (x3 : Int) (x4 : (List Vm.Signed)) (x5 : Int) (x6 : Int) (x7 : Int) (x8 : Int) (x9 : Int) (x10 : (List Vm.Root)) (x11 : (List (List Int))) (x12 : Int) (x13 : Int) (x14 : (List Vm.Target)) (x15 : (List Int)) (x16 : (List (List Int))) (x17 : Int) (x18 : (List Int)) (x19 : Int) (x20 : Int) (x21 : (List (List UInt8))) (x22 : (List Int)) (m : Nat) (K : V → List Blk → Prop) : goD Γ_trust_Take tab fn_trust_Take 0 K (m + 1) trust_Take_L0 (trust_Take_S0 x0 x1 x2 x3 x4 x5 x6 x7 x8 x9 x10 x11 x12 x13 x14 x15 x16 x17 x18 x19 x20 x21 x22) = segD Γ_trust_Take tab fn_trust_Take 0 K (goD Γ_trust_Take tab fn_trust_Take 0 K m) (.code (Code.sub (bodyOf fn_trust_Take) [1, 1, 1, 1, 0, 1, 0, 0]) :: trust_Take_L0) (trust_Take_S0 x0 x1 x2 x3 x4 x5 x6 x7 x8 x9 x10 x11 x12 x13 x14 x15 x16 x17 x18 x19 x20 x21 x22) := rfl
theorem trust_Take_vc1 (x0 : Int) (x1 : Int) (x2 : (List Vm.Target)) (x3 : Int) (x4 : Int) (x5 : Int) (x6 : Int) (x7 : (List Vm.Root)) (x8 : (List (List Int))) (x9 : Int) (x10 : Int) (x11 : (List Vm.Target)) (x12 : (List Int)) (x13 : (List (List Int))) (x14 : Int) (x15 : (List Int)) (x16 : Int) (x17 : Int) (x18 : (List (List UInt8))) (x19 : (List Int)) (rec : List It → St → Prop) (K : V → List Blk → Prop) v0 (hv0 : v0 = (imageName x18 (nth x13 (Int.toNat x0) (Ty.dflt (Ty.list Ty.int))))) : segD Γ_trust_Take tab fn_trust_Take 0 K rec (.code (Code.sub (bodyOf fn_trust_Take) [1, 1, 1, 1, 1, 1, 1, 1, 1, 1, 1, 0, 1, 0, 0]) :: trust_Take_L1) (trust_Take_S1 x0 x1 x2 x3 x4 x5 x6 x7 x8 x9 x10 x11 x12 x13 x14 x15 x16 x17 x18 x19) = (
    br (lti x0 x1)
     ((((0 : Int) ≤ x0) ∧ (x0 < (((len x2) : Nat) : Int))) ∧
      ((((0 : Int) ≤ x0) ∧ (x0 < (((len x13) : Nat) : Int))) ∧
      (((List.length x18) ≤ 140737488355328) ∧
      (br (!(eqi (v0).snd (0 : Int)))
       (K (.tup [.agg [.dat Ty.int (0 : Int), .dat (Ty.list Ty.int) [], .dat Ty.int (0 : Int), .dat Ty.int (0 : Int)], .one (.dat Ty.int (5 : Int))]) [])
       (br (!(eqi (v0).fst ((nth x2 (Int.toNat x0) (Ty.dflt Ty.target))).image))
         (K (.tup [.agg [.dat Ty.int (0 : Int), .dat (Ty.list Ty.int) [], .dat Ty.int (0 : Int), .dat Ty.int (0 : Int)], .one (.dat Ty.int (5 : Int))]) [])
         ((((0 : Int) ≤ x0) ∧ (x0 < (((len x13) : Nat) : Int))) ∧
          (br (!(eqi (((len (nth x13 (Int.toNat x0) (Ty.dflt (Ty.list Ty.int)))) : Nat) : Int) ((nth x2 (Int.toNat x0) (Ty.dflt Ty.target))).long))
           (K (.tup [.agg [.dat Ty.int (0 : Int), .dat (Ty.list Ty.int) [], .dat Ty.int (0 : Int), .dat Ty.int (0 : Int)], .one (.dat Ty.int (5 : Int))]) [])
           (rec trust_Take_L1 (trust_Take_S1 (w64 (x0 + (1 : Int))) x1 x2 x3 x4 x5 x6 x7 x8 x9 x10 x11 x12 x13 x14 x15 x16 x17 x18 x19)))))))))
     ((((len x15) * 8) ≤ 140737488355328) ∧
      (K (.tup [.agg [.dat Ty.int x14, .dat (Ty.list Ty.int) x15, .dat Ty.int x16, .dat Ty.int x9], .one (.dat Ty.int (0 : Int))]) []))) := by subst hv0; kernel_rfl
theorem trust_Take_w1 (x0 : Int) (x1 : Int) (x2 : (List Vm.Target)) (x3 : Int) (x4 : Int) (x5 : Int) (x6 : Int) (x7 : (List Vm.Root)) (x8 : (List (List Int))) (x9 : Int) (x10 : Int) (x11 : (List Vm.Target)) (x12 : (List Int)) (x13 : (List (List Int))) (x14 : Int) (x15 : (List Int)) (x16 : Int) (x17 : Int) (x18 : (List (List UInt8))) (x19 : (List Int)) (m : Nat) (K : V → List Blk → Prop) : goD Γ_trust_Take tab fn_trust_Take 0 K (m + 1) trust_Take_L1 (trust_Take_S1 x0 x1 x2 x3 x4 x5 x6 x7 x8 x9 x10 x11 x12 x13 x14 x15 x16 x17 x18 x19) = segD Γ_trust_Take tab fn_trust_Take 0 K (goD Γ_trust_Take tab fn_trust_Take 0 K m) (.code (Code.sub (bodyOf fn_trust_Take) [1, 1, 1, 1, 1, 1, 1, 1, 1, 1, 1, 0, 1, 0, 0]) :: trust_Take_L1) (trust_Take_S1 x0 x1 x2 x3 x4 x5 x6 x7 x8 x9 x10 x11 x12 x13 x14 x15 x16 x17 x18 x19) := rfl

theorem loop1_trust_Take (b : List (List UInt8)) (hb : b.length ≤ 140737488355328) (ts : List Vm.Target) (im : List (List Int)) (hl : ts.length ≤ 4) (hi : im.length = ts.length) (K : V → List Blk → Prop) (x3 x4 x5 x6 : Int) (rs : List Vm.Root) (rg : List (List Int)) (ov ou : Int) (sg : List Int) (v : Int) (ks : List Int) (t n : Int) (hk : ks.length ≤ 6) (x19 : List Int) : ∀ (d k : Nat), k + d = ts.length →
    (okImages b (ts.drop k) (im.drop k) = true → K (.tup [.agg [.dat .int v, .dat (.list .int) ks, .dat .int t, .dat .int ov], .one (.dat .int 0)]) []) →
    (okImages b (ts.drop k) (im.drop k) = false → K (.tup [.agg [.dat .int 0, .dat (.list .int) [], .dat .int 0, .dat .int 0], .one (.dat .int 5)]) []) →
    goD Γ_trust_Take tab fn_trust_Take 0 K (d + 1) trust_Take_L1 (trust_Take_S1 (k : Int) (((len ts) : Nat) : Int) ts x3 x4 x5 x6 rs rg ov ou ts sg im v ks t n b x19)
  | 0, k, hk', hT, hF => by
    rw [trust_Take_w1, trust_Take_vc1 _ _ _ _ _ _ _ _ _ _ _ _ _ _ _ _ _ _ _ _ _ _ _ rfl]
    rw [List.drop_of_length_le (by omega)] at hT
    exact lt_f (by simp only [len]; omega) ⟨by simp only [len]; omega, hT rfl⟩
  | d + 1, k, hk', hT, hF => by
    rw [trust_Take_w1, trust_Take_vc1 _ _ _ _ _ _ _ _ _ _ _ _ _ _ _ _ _ _ _ _ _ _ _ rfl, toNat_nat]
    rw [drop_step (l := ts) (by omega) (Ty.dflt Ty.target), drop_step (l := im) (by omega) (Ty.dflt (Ty.list Ty.int))] at hT hF
    obtain ⟨x, hx⟩ : ∃ x, nth ts k (Ty.dflt Ty.target) = x := ⟨_, rfl⟩
    obtain ⟨w, hw⟩ : ∃ w, nth im k (Ty.dflt (Ty.list Ty.int)) = w := ⟨_, rfl⟩
    rw [hx, hw] at hT hF ⊢
    simp only [okImages, List.headD_cons, List.tail_cons] at hT hF
    have five : okImage b x w = false → K (.tup [.agg [.dat .int 0, .dat (.list .int) [], .dat .int 0, .dat .int 0], .one (.dat .int 5)]) [] := fun h => hF (by rw [h]; rfl)
    have ek : w64 ((k : Int) + 1) = ((k + 1 : Nat) : Int) := w64_succ (by omega)
    rw [ek]
    refine lt_t (by simp only [len]; omega) ⟨⟨by omega, by simp only [len]; omega⟩, ⟨by omega, by simp only [len]; omega⟩, hb, ne_s (fun h => five ?_) (fun h => ne_s (fun h2 => five ?_) (fun h2 => ⟨⟨by omega, by simp only [len]; omega⟩, ne_s (fun h3 => five ?_) (fun h3 => ?_)⟩))⟩
    · simp [okImage, h]
    · simp [okImage, h2]
    · simp only [okImage, Bool.and_eq_false_iff, decide_eq_false_iff_not]; exact .inr h3
    · have ok : okImage b x w = true := by
        simp only [okImage, Bool.and_eq_true, decide_eq_true_eq]; exact ⟨⟨h, h2⟩, h3⟩
      rw [ok] at hT hF
      exact loop1_trust_Take b hb ts im hl hi K x3 x4 x5 x6 rs rg ov ou sg v ks t n hk x19 d (k + 1) (by omega) (fun g => hT (by rw [g]; rfl)) (fun g => hF (by rw [g]; rfl))
theorem loop_trust_Take (b : List (List UInt8)) (hb : b.length ≤ 140737488355328) (l : List Vm.Signed) (rs : List Vm.Root) (rg : List (List Int)) (ov ou : Int) (ts : List Vm.Target) (sg : List Int) (im : List (List Int)) (now units : Int) (hr : rs.length ≤ 6) (hg : rg.length = rs.length) (K : V → List Blk → Prop) (x3 x7 x8 x9 : Int) (x22 : List Int) : ∀ (d k : Nat) (v : Int) (ks : List Int) (t n : Int), k + d = rs.length → ks.length ≤ 6 →
    K (.tup [.agg [.dat .int (takeEnd b l ⟨rs, rg, ⟨ov, ou, ts⟩, sg, im⟩ now units (rootsT b l ⟨⟨v, ks, t⟩, n⟩ (rs.drop k) (rg.drop k))).1.r.version, .dat (.list .int) (takeEnd b l ⟨rs, rg, ⟨ov, ou, ts⟩, sg, im⟩ now units (rootsT b l ⟨⟨v, ks, t⟩, n⟩ (rs.drop k) (rg.drop k))).1.r.keys, .dat .int (takeEnd b l ⟨rs, rg, ⟨ov, ou, ts⟩, sg, im⟩ now units (rootsT b l ⟨⟨v, ks, t⟩, n⟩ (rs.drop k) (rg.drop k))).1.r.thr, .dat .int (takeEnd b l ⟨rs, rg, ⟨ov, ou, ts⟩, sg, im⟩ now units (rootsT b l ⟨⟨v, ks, t⟩, n⟩ (rs.drop k) (rg.drop k))).1.version], .one (.dat .int (takeEnd b l ⟨rs, rg, ⟨ov, ou, ts⟩, sg, im⟩ now units (rootsT b l ⟨⟨v, ks, t⟩, n⟩ (rs.drop k) (rg.drop k))).2)]) [] →
    goD Γ_trust_Take tab fn_trust_Take 0 K ((ts.length + 1) + d + 1) trust_Take_L0 (trust_Take_S0 (k : Int) (((len rs) : Nat) : Int) rs x3 l now units x7 x8 x9 rs rg ov ou ts sg im v ks t n b x22)
  | 0, k, v, ks, t, n, hk, hks, hK => by
    rw [trust_Take_w0, trust_Take_vc0 _ _ _ _ _ _ _ _ _ _ _ _ _ _ _ _ _ _ _ _ _ _ _ _ _ _ rfl _ rfl _ rfl _ rfl]
    rw [List.drop_of_length_le (by omega)] at hK
    refine lt_f (by simp only [len]; omega) ?_
    have e0 : takeEnd b l ⟨rs, rg, ⟨ov, ou, ts⟩, sg, im⟩ now units (rootsT b l ⟨⟨v, ks, t⟩, n⟩ [] (rg.drop k)) = if relE b l ⟨⟨v, ks, t⟩, n⟩ ⟨rs, rg, ⟨ov, ou, ts⟩, sg, im⟩ now units = 0 then (⟨⟨v, ks, t⟩, ov⟩, 0) else (noTrust, relE b l ⟨⟨v, ks, t⟩, n⟩ ⟨rs, rg, ⟨ov, ou, ts⟩, sg, im⟩ now units) := rfl
    rw [e0] at hK
    have bad : ∀ e : Int, e ≠ 0 → relE b l ⟨⟨v, ks, t⟩, n⟩ ⟨rs, rg, ⟨ov, ou, ts⟩, sg, im⟩ now units = e → K (.tup [.agg [.dat .int 0, .dat (.list .int) [], .dat .int 0, .dat .int 0], .one (.dat .int e)]) [] := fun e he h => by
      rw [if_neg (by rw [h]; exact he), h] at hK; exact hK
    have good : relE b l ⟨⟨v, ks, t⟩, n⟩ ⟨rs, rg, ⟨ov, ou, ts⟩, sg, im⟩ now units = 0 → K (.tup [.agg [.dat .int v, .dat (.list .int) ks, .dat .int t, .dat .int ov], .one (.dat .int 0)]) [] := fun h => by
      rw [if_pos h] at hK; exact hK
    clear hK e0
    refine ne_s (fun h2 => ?_) (fun h2 => ⟨hb, ?_⟩)
    · unfold releaseTextE at h2 ⊢
      by_cases c : checkRelease ov ou ts = 0
      · rw [if_pos c] at h2; exact absurd rfl h2
      · rw [if_neg c]
        exact bad _ c (if_neg c)
    have c2 : checkRelease ov ou ts = 0 := by
      by_cases c : checkRelease ov ou ts = 0
      · exact c
      · unfold releaseTextE at h2; rw [if_neg c] at h2; exact h2
    rw [show releaseTextE ov ou ts = (releaseText ov ou ts, 0) from if_pos c2]
    have E2 : relE b l ⟨⟨v, ks, t⟩, n⟩ ⟨rs, rg, ⟨ov, ou, ts⟩, sg, im⟩ now units = _ := if_pos c2
    refine ne_s (fun h3 => ?_) (fun h3 => ?_)
    · unfold nameB at h3 ⊢
      by_cases c : checkBook b = 0
      · rw [if_pos c] at h3; exact absurd rfl h3
      · rw [if_neg c]
        exact bad _ c (E2.trans (if_neg c))
    have c3 : checkBook b = 0 := by
      by_cases c : checkBook b = 0
      · exact c
      · unfold nameB at h3; rw [if_neg c] at h3; exact h3
    have E3 := E2.trans (if_pos c3)
    simp only [show nameB b (releaseText ov ou ts) = (indexS (releaseText ov ou ts) b + 1, 0) from if_pos c3]
    obtain ⟨q1, q2, q3, q4, q5, q6, _⟩ := checkRelease_ok c2
    refine ne_s (fun g => ?_) (fun g => lt_s (fun g2 => ?_) (fun g2 => ?_))
    · have e : enough l ⟨v, ks, t⟩ sg (indexS (releaseText ov ou ts) b + 1) = (countT l ⟨v, ks, t⟩ sg (indexS (releaseText ov ou ts) b + 1)).2 := if_neg g
      exact bad _ g ((E3.trans (if_neg (by rw [e]; exact g))).trans e)
    · have e : enough l ⟨v, ks, t⟩ sg (indexS (releaseText ov ou ts) b + 1) = 9 := by unfold enough; rw [if_pos g, if_pos g2]
      exact bad _ (by decide) ((E3.trans (if_neg (by rw [e]; decide))).trans e)
    have e : enough l ⟨v, ks, t⟩ sg (indexS (releaseText ov ou ts) b + 1) = 0 := by unfold enough; rw [if_pos g, if_neg (by simp only; omega)]
    have E4 := E3.trans (if_pos e)
    simp only at E4
    refine br_split (fun h5 => ?_) (fun h5 => ?_)
    · rw [lei_true] at h5
      exact bad _ (by decide) (E4.trans (if_pos h5))
    rw [lei_false] at h5
    have E5 := E4.trans (if_neg (by omega))
    refine lt_s (fun h6 => bad _ (by decide) (E5.trans (if_pos h6))) (fun h6 => ?_)
    have E6 := E5.trans (if_neg (by omega))
    refine ne_s (fun h7 => bad _ (by decide) (E6.trans (if_pos (.inl h7)))) (fun h7 => ne_s (fun h8 => bad _ (by decide) (E6.trans (if_pos (.inr h8)))) (fun h8 => ?_))
    have E7 := E6.trans (if_neg (by simp only [len] at h7 h8; omega))
    exact loop1_trust_Take b hb ts im q6 (by simp only [len] at h7 h8; omega) K x3 x7 x8 x9 rs rg ov ou sg v ks t n hks x22 ts.length 0 (by omega) (fun g => good (E7.trans (if_pos g))) (fun g => bad 5 (by decide) (E7.trans (if_neg (by rw [show okImages b ts im = false from g]; simp))))
  | d + 1, k, v, ks, t, n, hk, hks, hK => by
    rw [show ts.length + 1 + (d + 1) + 1 = (ts.length + 1 + d + 1) + 1 by omega, trust_Take_w0, trust_Take_vc0 _ _ _ _ _ _ _ _ _ _ _ _ _ _ _ _ _ _ _ _ _ _ _ _ _ _ rfl _ rfl _ rfl _ rfl, toNat_nat]
    rw [drop_step (l := rs) (by omega) (Ty.dflt Ty.root), drop_step (l := rg) (by omega) (Ty.dflt (Ty.list Ty.int))] at hK
    obtain ⟨x, hx⟩ : ∃ x, nth rs k (Ty.dflt Ty.root) = x := ⟨_, rfl⟩
    obtain ⟨w, hw⟩ : ∃ w, nth rg k (Ty.dflt (Ty.list Ty.int)) = w := ⟨_, rfl⟩
    rw [hx, hw] at hK ⊢
    have ek : w64 ((k : Int) + 1) = ((k + 1 : Nat) : Int) := w64_succ (by omega)
    rw [ek]
    have ex : (⟨x.version, x.keys, x.thr⟩ : Vm.Root) = x := rfl
    rw [ex]
    refine lt_t (by simp only [len]; omega) ⟨⟨by omega, by simp only [len]; omega⟩, ⟨by omega, by simp only [len]; omega⟩, hb, ne_s (fun h => ?_) (fun h => ?_)⟩
    · rw [show rootsT b l ⟨⟨v, ks, t⟩, n⟩ (x :: rs.drop (k + 1)) (w :: rg.drop (k + 1)) = (noTrust, (turnT b l ⟨⟨v, ks, t⟩, n⟩ x w).2) from if_neg h] at hK
      have e : takeEnd b l ⟨rs, rg, ⟨ov, ou, ts⟩, sg, im⟩ now units (noTrust, (turnT b l ⟨⟨v, ks, t⟩, n⟩ x w).2) = (noTrust, (turnT b l ⟨⟨v, ks, t⟩, n⟩ x w).2) := if_neg h
      rw [e] at hK; exact hK
    · rw [show rootsT b l ⟨⟨v, ks, t⟩, n⟩ (x :: rs.drop (k + 1)) (w :: rg.drop (k + 1)) = rootsT b l (turnT b l ⟨⟨v, ks, t⟩, n⟩ x w).1 (rs.drop (k + 1)) (rg.drop (k + 1)) from if_pos h] at hK
      obtain ⟨h1, h2⟩ := turnT_ok h
      obtain ⟨_, h3, _⟩ := turnE_ok h1
      rw [h2] at hK ⊢
      exact loop_trust_Take b hb l rs rg ov ou ts sg im now units hr hg K x3 x7 x8 x9 x22 d (k + 1) x.version x.keys x.thr n (by omega) (checkRoot_ok h3).2.2.2.2.1 hK
set_option maxHeartbeats 4000000 in
theorem run_trust_Take (b : List (List UInt8)) (l : List Vm.Signed) (v : Int) (ks : List Int) (t n : Int) (rs : List Vm.Root) (rg : List (List Int)) (ov ou : Int) (ts : List Vm.Target) (sg : List Int) (im : List (List Int)) (now units : Int) (hp : b.length ≤ 140737488355328) (K : V → List Blk → Prop) (hK : K (.tup [.agg [.dat .int (takeT b l ⟨⟨v, ks, t⟩, n⟩ ⟨rs, rg, ⟨ov, ou, ts⟩, sg, im⟩ now units).1.r.version, .dat (.list .int) (takeT b l ⟨⟨v, ks, t⟩, n⟩ ⟨rs, rg, ⟨ov, ou, ts⟩, sg, im⟩ now units).1.r.keys, .dat .int (takeT b l ⟨⟨v, ks, t⟩, n⟩ ⟨rs, rg, ⟨ov, ou, ts⟩, sg, im⟩ now units).1.r.thr, .dat .int (takeT b l ⟨⟨v, ks, t⟩, n⟩ ⟨rs, rg, ⟨ov, ou, ts⟩, sg, im⟩ now units).1.version], .one (.dat .int (takeT b l ⟨⟨v, ks, t⟩, n⟩ ⟨rs, rg, ⟨ov, ou, ts⟩, sg, im⟩ now units).2)]) []) : ∃ m, goD Γ_trust_Take tab fn_trust_Take 0 K m [.code (bodyOf fn_trust_Take)] (initSt [.agg [.dat (.list .str) b], .one (.dat (.list .signed) l), .agg [.dat .int v, .dat (.list .int) ks, .dat .int t, .dat .int n], .agg [.dat (.list .root) rs, .dat (.list (.list .int)) rg, .dat .int ov, .dat .int ou, .dat (.list .target) ts, .dat (.list .int) sg, .dat (.list (.list .int)) im], .one (.dat .int now), .one (.dat .int units)] []) := by
  refine ⟨ts.length + 1 + rs.length + 1 + 1, ?_⟩
  rw [trust_Take_w, trust_Take_vc _ _ _ _ _ _ _ _ _ _ _ _ _ _ _ _ _ _ rfl]
  unfold takeT at hK
  simp only at hK
  refine ne_s (fun h => ?_) (fun h => lt_s (fun h2 => ?_) (fun h2 => ne_s (fun h3 => ?_) (fun h3 => ?_)))
  · rw [if_neg h] at hK; exact hK
  · rw [if_pos h, if_pos (.inl (by simp only [len] at h2; omega))] at hK; exact hK
  · rw [if_pos h, if_pos (.inr (by simp only [len] at h3; omega))] at hK; exact hK
  · rw [if_pos h, if_neg (by simp only [len] at h2 h3; omega)] at hK
    exact loop_trust_Take b hp l rs rg ov ou ts sg im now units (by simp only [len] at h2; omega) (by simp only [len] at h3; omega) K 0 0 0 0 [] rs.length 0 v ks t n (by omega) (checkRoot_ok (checkTrust_ok h).2.2).2.2.2.2.1 hK
theorem sound_trust_Take : SoundC Tryd.prog tab n_trust_Take c_trust_Take := soundC_of ok_trust_Take hf_trust_Take hB_trust_Take (by
  intro vs bs p v bs' h hp
  unfold c_trust_Take at h
  split at h
  · cases h
    exact ⟨by kernel_rfl, rfl, .inl (run_trust_Take _ _ _ _ _ _ _ _ _ _ _ _ _ _ _ hp.1 _ ⟨rfl, rfl⟩)⟩
  · cases h)

def c_ref_CheckSigned : Contract := fun vs bs => match vs, bs with
  | [.one (.dat (.list .signed) l)], [] => some (none, .one (.dat .int (checkSigned l)), [])
  | _, _ => none
def Γ_ref_CheckSigned : Ctx := []
theorem ok_ref_CheckSigned : Ok Tryd.prog tab Γ_ref_CheckSigned := ok_nil
noncomputable def ref_CheckSigned_L0 : List It := [.inLoop [10, 9, 8, 2] (Code.sub (bodyOf fn_ref_CheckSigned) [1, 1, 0, 1, 0, 0]), .inBlock 0, .code (Code.sub (bodyOf fn_ref_CheckSigned) [1, 1, 1])]
def ref_CheckSigned_S0 (x0 : Int) (x1 : Int) (x2 : (List Vm.Signed)) (x3 : Int) : St := ⟨[(10, .one (.dat Ty.int x0)), (9, .one (.dat Ty.int x1)), (8, .one (.dat (Ty.list Ty.signed) x2)), (2, .one (.dat Ty.int x3))], [], 0⟩
theorem ref_CheckSigned_vc (l : List Signed) (rec : List It → St → Prop) (K : V → List Blk → Prop) : segD Γ_ref_CheckSigned tab fn_ref_CheckSigned 0 K rec [.code (bodyOf fn_ref_CheckSigned)] (initSt [.one (.dat (Ty.list Ty.signed) l)] []) = (
    br (lti (360 : Int) (((len l) : Nat) : Int))
     (K (.one (.dat Ty.int (2 : Int))) [])
     (rec ref_CheckSigned_L0 (ref_CheckSigned_S0 (0 : Int) (((len l) : Nat) : Int) l (0 : Int)))) := by kernel_rfl
theorem ref_CheckSigned_w (l : List Signed) (m : Nat) (K : V → List Blk → Prop) : goD Γ_ref_CheckSigned tab fn_ref_CheckSigned 0 K (m + 1) [.code (bodyOf fn_ref_CheckSigned)] (initSt [.one (.dat (Ty.list Ty.signed) l)] []) = segD Γ_ref_CheckSigned tab fn_ref_CheckSigned 0 K (goD Γ_ref_CheckSigned tab fn_ref_CheckSigned 0 K m) [.code (bodyOf fn_ref_CheckSigned)] (initSt [.one (.dat (Ty.list Ty.signed) l)] []) := rfl
theorem ref_CheckSigned_vc0 (x0 : Int) (x1 : Int) (x2 : (List Vm.Signed)) (x3 : Int) (rec : List It → St → Prop) (K : V → List Blk → Prop) : segD Γ_ref_CheckSigned tab fn_ref_CheckSigned 0 K rec (.code (Code.sub (bodyOf fn_ref_CheckSigned) [1, 1, 0, 1, 0, 0]) :: ref_CheckSigned_L0) (ref_CheckSigned_S0 x0 x1 x2 x3) = (
    br (lti x0 x1)
     ((((0 : Int) ≤ x0) ∧ (x0 < (((len x2) : Nat) : Int))) ∧
      (br (lti ((nth x2 (Int.toNat x0) (Ty.dflt Ty.signed))).key (1 : Int))
       (K (.one (.dat Ty.int (3 : Int))) [])
       (br (lti (50 : Int) ((nth x2 (Int.toNat x0) (Ty.dflt Ty.signed))).key)
         (K (.one (.dat Ty.int (3 : Int))) [])
         (br (lti ((nth x2 (Int.toNat x0) (Ty.dflt Ty.signed))).name (1 : Int))
           (K (.one (.dat Ty.int (3 : Int))) [])
           (br (lti (60 : Int) ((nth x2 (Int.toNat x0) (Ty.dflt Ty.signed))).name)
             (K (.one (.dat Ty.int (3 : Int))) [])
             (rec ref_CheckSigned_L0 (ref_CheckSigned_S0 (w64 (x0 + (1 : Int))) x1 x2 x3)))))))
     (K (.one (.dat Ty.int (0 : Int))) [])) := by kernel_rfl
theorem ref_CheckSigned_w0 (x0 : Int) (x1 : Int) (x2 : (List Vm.Signed)) (x3 : Int) (m : Nat) (K : V → List Blk → Prop) : goD Γ_ref_CheckSigned tab fn_ref_CheckSigned 0 K (m + 1) ref_CheckSigned_L0 (ref_CheckSigned_S0 x0 x1 x2 x3) = segD Γ_ref_CheckSigned tab fn_ref_CheckSigned 0 K (goD Γ_ref_CheckSigned tab fn_ref_CheckSigned 0 K m) (.code (Code.sub (bodyOf fn_ref_CheckSigned) [1, 1, 0, 1, 0, 0]) :: ref_CheckSigned_L0) (ref_CheckSigned_S0 x0 x1 x2 x3) := rfl

theorem loop_ref_CheckSigned (l : List Vm.Signed) (hl : l.length ≤ 360) (K : V → List Blk → Prop) (x3 : Int) : ∀ (d k : Nat), k + d = l.length → K (.one (.dat .int (if (l.drop k).all okSigned then 0 else 3))) [] →
    goD Γ_ref_CheckSigned tab fn_ref_CheckSigned 0 K (d + 1) ref_CheckSigned_L0 (ref_CheckSigned_S0 (k : Int) (((len l) : Nat) : Int) l x3)
  | 0, k, hk, hK => by
    rw [ref_CheckSigned_w0, ref_CheckSigned_vc0 _ _ _ _ _ _]
    rw [List.drop_of_length_le (by omega)] at hK
    exact lt_f (by simp only [len]; omega) hK
  | d + 1, k, hk, hK => by
    rw [ref_CheckSigned_w0, ref_CheckSigned_vc0 _ _ _ _ _ _, toNat_nat]
    rw [drop_step (by omega) (Ty.dflt Ty.signed)] at hK
    obtain ⟨x, hx⟩ : ∃ x, nth l k (Ty.dflt Ty.signed) = x := ⟨_, rfl⟩
    rw [hx] at hK ⊢
    rw [List.all_cons] at hK
    have bad : ¬ (1 ≤ x.key ∧ x.key ≤ 50 ∧ 1 ≤ x.name ∧ x.name ≤ 60) → K (.one (.dat .int 3)) [] := fun h => by
      rw [show okSigned x = false from by
        cases hc : okSigned x
        · rfl
        · simp only [okSigned, Bool.and_eq_true, decide_eq_true_eq] at hc; exact absurd hc (by omega)] at hK
      exact hK
    rw [w64_succ (by omega)]
    refine lt_t (by simp only [len]; omega) ⟨⟨by omega, by simp only [len]; omega⟩, lt_s (fun h => bad (by omega)) (fun h => lt_s (fun h2 => bad (by omega)) (fun h2 => lt_s (fun h3 => bad (by omega)) (fun h3 => lt_s (fun h4 => bad (by omega)) (fun h4 => ?_))))⟩
    rw [show okSigned x = true from by simp only [okSigned, Bool.and_eq_true, decide_eq_true_eq]; omega, Bool.true_and] at hK
    exact loop_ref_CheckSigned l hl K x3 d (k + 1) (by omega) hK
set_option maxHeartbeats 4000000 in
theorem run_ref_CheckSigned (l : List Vm.Signed) (K : V → List Blk → Prop) (hK : K (.one (.dat .int (checkSigned l))) []) : ∃ m, goD Γ_ref_CheckSigned tab fn_ref_CheckSigned 0 K m [.code (bodyOf fn_ref_CheckSigned)] (initSt [.one (.dat (.list .signed) l)] []) := by
  refine ⟨l.length + 2, ?_⟩
  rw [ref_CheckSigned_w, ref_CheckSigned_vc _ _ _]
  unfold checkSigned at hK
  refine lt_s (fun h => ?_) (fun h => ?_)
  · rw [if_pos (by simp only [len] at h; omega)] at hK; exact hK
  · rw [if_neg (by simp only [len] at h; omega)] at hK
    exact loop_ref_CheckSigned l (by simp only [len] at h; omega) K 0 l.length 0 (by omega) hK
theorem sound_ref_CheckSigned : SoundC Tryd.prog tab n_ref_CheckSigned c_ref_CheckSigned := soundC_of ok_ref_CheckSigned hf_ref_CheckSigned hB_ref_CheckSigned (by
  intro vs bs p v bs' h hp
  unfold c_ref_CheckSigned at h
  split at h
  · cases h
    exact ⟨by kernel_rfl, rfl, .inl (run_ref_CheckSigned _ _ ⟨rfl, rfl⟩)⟩
  · cases h)

def c_ref_CheckRoot : Contract := fun vs bs => match vs, bs with
  | [.agg [.dat .int v, .dat (.list .int) ks, .dat .int t]], [] => some (none, .one (.dat .int (checkRoot v ks t)), [])
  | _, _ => none
def Γ_ref_CheckRoot : Ctx := []
theorem ok_ref_CheckRoot : Ok Tryd.prog tab Γ_ref_CheckRoot := ok_nil
noncomputable def ref_CheckRoot_L0 : List It := [.inLoop [27, 26, 25, 4, 2, 1] (Code.sub (bodyOf fn_ref_CheckRoot) [1, 1, 1, 1, 0, 1, 0, 0]), .inBlock 0, .code (Code.sub (bodyOf fn_ref_CheckRoot) [1, 1, 1, 1, 1])]
def ref_CheckRoot_S0 (x0 : Int) (x1 : Int) (x2 : (List Int)) (x3 : Int) (x4 : Int) (x5 : Int) (x6 : (List Int)) (x7 : Int) : St := ⟨[(27, .one (.dat Ty.int x0)), (26, .one (.dat Ty.int x1)), (25, .one (.dat (Ty.list Ty.int) x2)), (4, .one (.dat Ty.int x3)), (2, .one (.dat Ty.int x4)), (1, .one (.ptr 0 0))], [(0, .box [.dat Ty.int x5, .dat (Ty.list Ty.int) x6, .dat Ty.int x7])], 1⟩
theorem ref_CheckRoot_vc (v : Int) (ks : List Int) (t : Int) (rec : List It → St → Prop) (K : V → List Blk → Prop) : segD Γ_ref_CheckRoot tab fn_ref_CheckRoot 0 K rec [.code (bodyOf fn_ref_CheckRoot)] (initSt [.agg [.dat Ty.int v, .dat (Ty.list Ty.int) ks, .dat Ty.int t]] []) = (
    br (lti v (1 : Int))
     (K (.one (.dat Ty.int (3 : Int))) [])
     (br (lti (1000 : Int) v)
       (K (.one (.dat Ty.int (3 : Int))) [])
       (br (lti (((len ks) : Nat) : Int) (1 : Int))
         (K (.one (.dat Ty.int (2 : Int))) [])
         (br (lti (6 : Int) (((len ks) : Nat) : Int))
           (K (.one (.dat Ty.int (2 : Int))) [])
           (rec ref_CheckRoot_L0 (ref_CheckRoot_S0 (0 : Int) (((len ks) : Nat) : Int) ks (0 : Int) (0 : Int) v ks t)))))) := by kernel_rfl
theorem ref_CheckRoot_w (v : Int) (ks : List Int) (t : Int) (m : Nat) (K : V → List Blk → Prop) : goD Γ_ref_CheckRoot tab fn_ref_CheckRoot 0 K (m + 1) [.code (bodyOf fn_ref_CheckRoot)] (initSt [.agg [.dat Ty.int v, .dat (Ty.list Ty.int) ks, .dat Ty.int t]] []) = segD Γ_ref_CheckRoot tab fn_ref_CheckRoot 0 K (goD Γ_ref_CheckRoot tab fn_ref_CheckRoot 0 K m) [.code (bodyOf fn_ref_CheckRoot)] (initSt [.agg [.dat Ty.int v, .dat (Ty.list Ty.int) ks, .dat Ty.int t]] []) := rfl
theorem ref_CheckRoot_vc0 (x0 : Int) (x1 : Int) (x2 : (List Int)) (x3 : Int) (x4 : Int) (x5 : Int) (x6 : (List Int)) (x7 : Int) (rec : List It → St → Prop) (K : V → List Blk → Prop) : segD Γ_ref_CheckRoot tab fn_ref_CheckRoot 0 K rec (.code (Code.sub (bodyOf fn_ref_CheckRoot) [1, 1, 1, 1, 0, 1, 0, 0]) :: ref_CheckRoot_L0) (ref_CheckRoot_S0 x0 x1 x2 x3 x4 x5 x6 x7) = (
    br (lti x0 x1)
     ((((0 : Int) ≤ x0) ∧ (x0 < (((len x2) : Nat) : Int))) ∧
      (br (lti (nth x2 (Int.toNat x0) (Ty.dflt Ty.int)) (1 : Int))
       (K (.one (.dat Ty.int (3 : Int))) [])
       (br (lti (50 : Int) (nth x2 (Int.toNat x0) (Ty.dflt Ty.int)))
         (K (.one (.dat Ty.int (3 : Int))) [])
         (br (lti (0 : Int) x0)
           (br (lei (nth x2 (Int.toNat x0) (Ty.dflt Ty.int)) x3)
             (K (.one (.dat Ty.int (6 : Int))) [])
             (rec ref_CheckRoot_L0 (ref_CheckRoot_S0 (w64 (x0 + (1 : Int))) x1 x2 (nth x2 (Int.toNat x0) (Ty.dflt Ty.int)) x4 x5 x6 x7)))
           (rec ref_CheckRoot_L0 (ref_CheckRoot_S0 (w64 (x0 + (1 : Int))) x1 x2 (nth x2 (Int.toNat x0) (Ty.dflt Ty.int)) x4 x5 x6 x7))))))
     (br (lti x7 (1 : Int))
       (K (.one (.dat Ty.int (4 : Int))) [])
       (br (lti (((len x6) : Nat) : Int) x7)
         (K (.one (.dat Ty.int (4 : Int))) [])
         (K (.one (.dat Ty.int (0 : Int))) [])))) := by kernel_rfl
theorem ref_CheckRoot_w0 (x0 : Int) (x1 : Int) (x2 : (List Int)) (x3 : Int) (x4 : Int) (x5 : Int) (x6 : (List Int)) (x7 : Int) (m : Nat) (K : V → List Blk → Prop) : goD Γ_ref_CheckRoot tab fn_ref_CheckRoot 0 K (m + 1) ref_CheckRoot_L0 (ref_CheckRoot_S0 x0 x1 x2 x3 x4 x5 x6 x7) = segD Γ_ref_CheckRoot tab fn_ref_CheckRoot 0 K (goD Γ_ref_CheckRoot tab fn_ref_CheckRoot 0 K m) (.code (Code.sub (bodyOf fn_ref_CheckRoot) [1, 1, 1, 1, 0, 1, 0, 0]) :: ref_CheckRoot_L0) (ref_CheckRoot_S0 x0 x1 x2 x3 x4 x5 x6 x7) := rfl

theorem loop_ref_CheckRoot (ks : List Int) (v t : Int) (hl : ks.length ≤ 6) (K : V → List Blk → Prop) : ∀ (d k : Nat) (last : Option Int) (x3 : Int), k + d = ks.length → ((k = 0 ∧ last = none) ∨ (0 < k ∧ last = some x3)) →
    K (.one (.dat .int (rootEnd (keysFrom last (ks.drop k)) t ks.length))) [] →
    goD Γ_ref_CheckRoot tab fn_ref_CheckRoot 0 K (d + 1) ref_CheckRoot_L0 (ref_CheckRoot_S0 (k : Int) (((len ks) : Nat) : Int) ks x3 0 v ks t)
  | 0, k, last, x3, hk, hla, hK => by
    rw [ref_CheckRoot_w0, ref_CheckRoot_vc0 _ _ _ _ _ _ _ _ _ _]
    rw [List.drop_of_length_le (by omega)] at hK
    rw [show rootEnd (keysFrom last []) t ks.length = if t < 1 ∨ (ks.length : Int) < t then 4 else 0 from rfl] at hK
    refine lt_f (by simp only [len]; omega) (lt_s (fun h => ?_) (fun h => lt_s (fun h2 => ?_) (fun h2 => ?_)))
    · rw [if_pos (.inl h)] at hK; exact hK
    · rw [if_pos (.inr h2)] at hK; exact hK
    · rw [if_neg (by simp only [len] at h2; omega)] at hK; exact hK
  | d + 1, k, last, x3, hk, hla, hK => by
    rw [ref_CheckRoot_w0, ref_CheckRoot_vc0 _ _ _ _ _ _ _ _ _ _, toNat_nat]
    rw [drop_step (by omega) (Ty.dflt Ty.int)] at hK
    obtain ⟨x, hx⟩ : ∃ x, nth ks k (Ty.dflt Ty.int) = x := ⟨_, rfl⟩
    rw [hx] at hK ⊢
    have ek : w64 ((k : Int) + 1) = ((k + 1 : Nat) : Int) := w64_succ (by omega)
    rw [ek]
    refine lt_t (by simp only [len]; omega) ⟨⟨by omega, by simp only [len]; omega⟩, lt_s (fun h => ?_) (fun h => lt_s (fun h2 => ?_) (fun h2 => ?_))⟩
    · rw [show keysFrom last (x :: ks.drop (k + 1)) = 3 from if_pos (.inl h)] at hK; exact hK
    · rw [show keysFrom last (x :: ks.drop (k + 1)) = 3 from if_pos (.inr h2)] at hK; exact hK
    · rw [show keysFrom last (x :: ks.drop (k + 1)) = if notBehind last x then 6 else keysFrom (some x) (ks.drop (k + 1)) from if_neg (by omega)] at hK
      refine lt_s (fun h3 => ?_) (fun h3 => ?_)
      · obtain ⟨_, rfl⟩ := hla.resolve_left (fun g => by omega)
        refine br_split (fun h4 => ?_) (fun h4 => ?_)
        · rw [lei_true] at h4
          rw [if_pos (show notBehind (some x3) x = true from decide_eq_true h4)] at hK; exact hK
        · rw [lei_false] at h4
          rw [if_neg (show ¬ notBehind (some x3) x = true from by simp only [notBehind, decide_eq_true_eq]; omega)] at hK
          exact loop_ref_CheckRoot ks v t hl K d (k + 1) (some x) x (by omega) (.inr ⟨by omega, rfl⟩) hK
      · obtain ⟨_, rfl⟩ := hla.resolve_right (fun g => by omega)
        rw [if_neg (show ¬ notBehind none x = true from by simp [notBehind])] at hK
        exact loop_ref_CheckRoot ks v t hl K d (k + 1) (some x) x (by omega) (.inr ⟨by omega, rfl⟩) hK
set_option maxHeartbeats 4000000 in
theorem run_ref_CheckRoot (v : Int) (ks : List Int) (t : Int) (K : V → List Blk → Prop) (hK : K (.one (.dat .int (checkRoot v ks t))) []) : ∃ m, goD Γ_ref_CheckRoot tab fn_ref_CheckRoot 0 K m [.code (bodyOf fn_ref_CheckRoot)] (initSt [.agg [.dat .int v, .dat (.list .int) ks, .dat .int t]] []) := by
  refine ⟨ks.length + 2, ?_⟩
  rw [ref_CheckRoot_w, ref_CheckRoot_vc _ _ _ _ _]
  unfold checkRoot at hK
  refine lt_s (fun h => ?_) (fun h => lt_s (fun h2 => ?_) (fun h2 => lt_s (fun h3 => ?_) (fun h3 => lt_s (fun h4 => ?_) (fun h4 => ?_))))
  · rw [if_pos (.inl h)] at hK; exact hK
  · rw [if_pos (.inr h2)] at hK; exact hK
  · rw [if_neg (by omega), if_pos (by simp only [len] at h3; omega)] at hK; exact hK
  · rw [if_neg (by omega), if_pos (by simp only [len] at h4; omega)] at hK; exact hK
  · rw [if_neg (by omega), if_neg (by simp only [len] at h3 h4; omega)] at hK
    exact loop_ref_CheckRoot ks v t (by simp only [len] at h4; omega) K ks.length 0 none 0 (by omega) (.inl ⟨rfl, rfl⟩) hK
theorem sound_ref_CheckRoot : SoundC Tryd.prog tab n_ref_CheckRoot c_ref_CheckRoot := soundC_of ok_ref_CheckRoot hf_ref_CheckRoot hB_ref_CheckRoot (by
  intro vs bs p v bs' h hp
  unfold c_ref_CheckRoot at h
  split at h
  · cases h
    exact ⟨by kernel_rfl, rfl, .inl (run_ref_CheckRoot _ _ _ _ ⟨rfl, rfl⟩)⟩
  · cases h)

def c_ref_Counted : Contract := fun vs bs => match vs, bs with
  | [.one (.dat (.list .signed) l), .agg [.dat .int v, .dat (.list .int) ks, .dat .int t], .one (.dat (.list .int) sg), .one (.dat .int n)], [] => some (none, .tup [.one (.dat .int (countT l ⟨v, ks, t⟩ sg n).1), .one (.dat .int (countT l ⟨v, ks, t⟩ sg n).2)], [])
  | _, _ => none
def Γ_ref_Counted : Ctx := [(n_ref_CheckSigned, c_ref_CheckSigned), (n_ref_CheckRoot, c_ref_CheckRoot)]
theorem ok_ref_Counted : Ok Tryd.prog tab Γ_ref_Counted := ((ok_nil.consC hf_ref_CheckRoot hB_ref_CheckRoot sound_ref_CheckRoot).consC hf_ref_CheckSigned hB_ref_CheckSigned sound_ref_CheckSigned)
noncomputable def ref_Counted_L0 : List It := [.inLoop [37, 36, 35, 12, 9, 8, 5, 2, 3] (Code.sub (bodyOf fn_ref_Counted) [1, 1, 1, 1, 1, 0, 1, 0, 0]), .inBlock 0, .code (Code.sub (bodyOf fn_ref_Counted) [1, 1, 1, 1, 1, 1])]
def ref_Counted_S0 (x0 : Int) (x1 : Int) (x2 : (List Vm.Signed)) (x3 : Int) (x4 : Int) (x5 : (List Int)) (x6 : Int) (x7 : (List Int)) (x8 : Int) (x9 : (List Int)) (x10 : Int) : St := ⟨[(37, .one (.dat Ty.int x0)), (36, .one (.dat Ty.int x1)), (35, .one (.dat (Ty.list Ty.signed) x2)), (12, .one (.mp 0)), (9, .one (.dat Ty.int x3)), (8, .one (.dat Ty.int x4)), (5, .one (.ptr 1 0)), (2, .one (.dat (Ty.list Ty.int) x5)), (3, .one (.dat Ty.int x6))], [(0, .set x7), (1, .box [.dat Ty.int x8, .dat (Ty.list Ty.int) x9, .dat Ty.int x10])], 2⟩
noncomputable def ref_Counted_L1 : List It := [.inLoop [52, 51, 50, 15, 12, 9, 8, 5] (Code.sub (bodyOf fn_ref_Counted) [1, 1, 1, 1, 1, 1, 1, 0, 1, 0, 0]), .inBlock 2, .code (Code.sub (bodyOf fn_ref_Counted) [1, 1, 1, 1, 1, 1, 1, 1])]
def ref_Counted_S1 (x0 : Int) (x1 : Int) (x2 : (List Int)) (x3 : Int) (x4 : Int) (x5 : (List Int)) (x6 : (List Int)) (x7 : Int) (x8 : (List Int)) (x9 : Int) : St := ⟨[(52, .one (.dat Ty.int x0)), (51, .one (.dat Ty.int x1)), (50, .one (.dat (Ty.list Ty.int) x2)), (15, .one (.mp 0)), (12, .one (.mp 1)), (9, .one (.dat Ty.int x3)), (8, .one (.dat Ty.int x4)), (5, .one (.ptr 2 0))], [(0, .set x5), (1, .set x6), (2, .box [.dat Ty.int x7, .dat (Ty.list Ty.int) x8, .dat Ty.int x9])], 3⟩
noncomputable def ref_Counted_L2 : List It := [.inLoop [62, 61, 60, 18, 15, 12, 9, 8] (Code.sub (bodyOf fn_ref_Counted) [1, 1, 1, 1, 1, 1, 1, 1, 1, 0, 1, 0, 0]), .inBlock 4, .code (Code.sub (bodyOf fn_ref_Counted) [1, 1, 1, 1, 1, 1, 1, 1, 1, 1])]
def ref_Counted_S2 (x0 : Int) (x1 : Int) (x2 : (List Int)) (x3 : Int) (x4 : Int) (x5 : Int) (x6 : (List Int)) (x7 : (List Int)) : St := ⟨[(62, .one (.dat Ty.int x0)), (61, .one (.dat Ty.int x1)), (60, .one (.dat (Ty.list Ty.int) x2)), (18, .one (.dat Ty.int x3)), (15, .one (.mp 0)), (12, .one (.mp 1)), (9, .one (.dat Ty.int x4)), (8, .one (.dat Ty.int x5))], [(0, .set x6), (1, .set x7)], 2⟩
theorem ref_Counted_vc (l : List Signed) (v : Int) (ks : List Int) (t : Int) (sg : List Int) (n : Int) (rec : List It → St → Prop) (K : V → List Blk → Prop) v0 (hv0 : v0 = (checkSigned l)) v1 (hv1 : v1 = (checkRoot v ks t)) : segD Γ_ref_Counted tab fn_ref_Counted 0 K rec [.code (bodyOf fn_ref_Counted)] (initSt [.one (.dat (Ty.list Ty.signed) l), .agg [.dat Ty.int v, .dat (Ty.list Ty.int) ks, .dat Ty.int t], .one (.dat (Ty.list Ty.int) sg), .one (.dat Ty.int n)] []) = (
    br (!(eqi v0 (0 : Int)))
     (K (.tup [.one (.dat Ty.int (0 : Int)), .one (.dat Ty.int v0)]) [])
     (br (!(eqi v1 (0 : Int)))
       (K (.tup [.one (.dat Ty.int (0 : Int)), .one (.dat Ty.int v1)]) [])
       (br (lti (50 : Int) (((len sg) : Nat) : Int))
         (K (.tup [.one (.dat Ty.int (0 : Int)), .one (.dat Ty.int (2 : Int))]) [])
         (rec ref_Counted_L0 (ref_Counted_S0 (0 : Int) (((len l) : Nat) : Int) l (0 : Int) (0 : Int) sg n [] v ks t))))) := by subst hv1; subst hv0; kernel_rfl
theorem ref_Counted_w (l : List Signed) (v : Int) (ks : List Int) (t : Int) (sg : List Int) (n : Int) (m : Nat) (K : V → List Blk → Prop) : goD Γ_ref_Counted tab fn_ref_Counted 0 K (m + 1) [.code (bodyOf fn_ref_Counted)] (initSt [.one (.dat (Ty.list Ty.signed) l), .agg [.dat Ty.int v, .dat (Ty.list Ty.int) ks, .dat Ty.int t], .one (.dat (Ty.list Ty.int) sg), .one (.dat Ty.int n)] []) = segD Γ_ref_Counted tab fn_ref_Counted 0 K (goD Γ_ref_Counted tab fn_ref_Counted 0 K m) [.code (bodyOf fn_ref_Counted)] (initSt [.one (.dat (Ty.list Ty.signed) l), .agg [.dat Ty.int v, .dat (Ty.list Ty.int) ks, .dat Ty.int t], .one (.dat (Ty.list Ty.int) sg), .one (.dat Ty.int n)] []) := rfl
theorem ref_Counted_vc0 (x0 : Int) (x1 : Int) (x2 : (List Vm.Signed)) (x3 : Int) (x4 : Int) (x5 : (List Int)) (x6 : Int) (x7 : (List Int)) (x8 : Int) (x9 : (List Int)) (x10 : Int) (rec : List It → St → Prop) (K : V → List Blk → Prop) v0 (hv0 : v0 = (insK ((nth x2 (Int.toNat x0) (Ty.dflt Ty.signed))).key x7)) : segD Γ_ref_Counted tab fn_ref_Counted 0 K rec (.code (Code.sub (bodyOf fn_ref_Counted) [1, 1, 1, 1, 1, 0, 1, 0, 0]) :: ref_Counted_L0) (ref_Counted_S0 x0 x1 x2 x3 x4 x5 x6 x7 x8 x9 x10) = (
    br (lti x0 x1)
     ((((0 : Int) ≤ x0) ∧ (x0 < (((len x2) : Nat) : Int))) ∧
      (br (eqi ((nth x2 (Int.toNat x0) (Ty.dflt Ty.signed))).name x6)
       (rec ref_Counted_L0 (ref_Counted_S0 (w64 (x0 + (1 : Int))) x1 x2 x3 x4 x5 x6 v0 x8 x9 x10))
       (rec ref_Counted_L0 (ref_Counted_S0 (w64 (x0 + (1 : Int))) x1 x2 x3 x4 x5 x6 x7 x8 x9 x10))))
     (rec ref_Counted_L1 (ref_Counted_S1 (0 : Int) (((len x5) : Nat) : Int) x5 x3 x4 [] x7 x8 x9 x10))) := by subst hv0; kernel_rfl
theorem ref_Counted_w0 (x0 : Int) (x1 : Int) (x2 : (List Vm.Signed)) (x3 : Int) (x4 : Int) (x5 : (List Int)) (x6 : Int) (x7 : (List Int)) (x8 : Int) (x9 : (List Int)) (x10 : Int) (m : Nat) (K : V → List Blk → Prop) : goD Γ_ref_Counted tab fn_ref_Counted 0 K (m + 1) ref_Counted_L0 (ref_Counted_S0 x0 x1 x2 x3 x4 x5 x6 x7 x8 x9 x10) = segD Γ_ref_Counted tab fn_ref_Counted 0 K (goD Γ_ref_Counted tab fn_ref_Counted 0 K m) (.code (Code.sub (bodyOf fn_ref_Counted) [1, 1, 1, 1, 1, 0, 1, 0, 0]) :: ref_Counted_L0) (ref_Counted_S0 x0 x1 x2 x3 x4 x5 x6 x7 x8 x9 x10) := rfl
theorem ref_Counted_vc1 (x0 : Int) (x1 : Int) (x2 : (List Int)) (x3 : Int) (x4 : Int) (x5 : (List Int)) (x6 : (List Int)) (x7 : Int) (x8 : (List Int)) (x9 : Int) (rec : List It → St → Prop) (K : V → List Blk → Prop) v0 (hv0 : v0 = (insK (nth x2 (Int.toNat x0) (Ty.dflt Ty.int)) x5)) : segD Γ_ref_Counted tab fn_ref_Counted 0 K rec (.code (Code.sub (bodyOf fn_ref_Counted) [1, 1, 1, 1, 1, 1, 1, 0, 1, 0, 0]) :: ref_Counted_L1) (ref_Counted_S1 x0 x1 x2 x3 x4 x5 x6 x7 x8 x9) = (
    br (lti x0 x1)
     ((((0 : Int) ≤ x0) ∧ (x0 < (((len x2) : Nat) : Int))) ∧
      (rec ref_Counted_L1 (ref_Counted_S1 (w64 (x0 + (1 : Int))) x1 x2 x3 x4 v0 x6 x7 x8 x9)))
     (rec ref_Counted_L2 (ref_Counted_S2 (0 : Int) (((len x8) : Nat) : Int) x8 (0 : Int) x3 x4 x5 x6))) := by subst hv0; kernel_rfl
theorem ref_Counted_w1 (x0 : Int) (x1 : Int) (x2 : (List Int)) (x3 : Int) (x4 : Int) (x5 : (List Int)) (x6 : (List Int)) (x7 : Int) (x8 : (List Int)) (x9 : Int) (m : Nat) (K : V → List Blk → Prop) : goD Γ_ref_Counted tab fn_ref_Counted 0 K (m + 1) ref_Counted_L1 (ref_Counted_S1 x0 x1 x2 x3 x4 x5 x6 x7 x8 x9) = segD Γ_ref_Counted tab fn_ref_Counted 0 K (goD Γ_ref_Counted tab fn_ref_Counted 0 K m) (.code (Code.sub (bodyOf fn_ref_Counted) [1, 1, 1, 1, 1, 1, 1, 0, 1, 0, 0]) :: ref_Counted_L1) (ref_Counted_S1 x0 x1 x2 x3 x4 x5 x6 x7 x8 x9) := rfl
theorem ref_Counted_vc2 (x0 : Int) (x1 : Int) (x2 : (List Int)) (x3 : Int) (x4 : Int) (x5 : Int) (x6 : (List Int)) (x7 : (List Int)) (rec : List It → St → Prop) (K : V → List Blk → Prop) v0 (hv0 : v0 = (hasK (nth x2 (Int.toNat x0) (Ty.dflt Ty.int)) x7)) v1 (hv1 : v1 = (hasK (nth x2 (Int.toNat x0) (Ty.dflt Ty.int)) x6)) : segD Γ_ref_Counted tab fn_ref_Counted 0 K rec (.code (Code.sub (bodyOf fn_ref_Counted) [1, 1, 1, 1, 1, 1, 1, 1, 1, 0, 1, 0, 0]) :: ref_Counted_L2) (ref_Counted_S2 x0 x1 x2 x3 x4 x5 x6 x7) = (
    br (lti x0 x1)
     ((((0 : Int) ≤ x0) ∧ (x0 < (((len x2) : Nat) : Int))) ∧
      (br v0
       (br v1
         (rec ref_Counted_L2 (ref_Counted_S2 (w64 (x0 + (1 : Int))) x1 x2 (w64 (x3 + (1 : Int))) x4 x5 x6 x7))
         (rec ref_Counted_L2 (ref_Counted_S2 (w64 (x0 + (1 : Int))) x1 x2 x3 x4 x5 x6 x7)))
       (rec ref_Counted_L2 (ref_Counted_S2 (w64 (x0 + (1 : Int))) x1 x2 x3 x4 x5 x6 x7))))
     (K (.tup [.one (.dat Ty.int x3), .one (.dat Ty.int (0 : Int))]) [])) := by subst hv1; subst hv0; kernel_rfl
theorem ref_Counted_w2 (x0 : Int) (x1 : Int) (x2 : (List Int)) (x3 : Int) (x4 : Int) (x5 : Int) (x6 : (List Int)) (x7 : (List Int)) (m : Nat) (K : V → List Blk → Prop) : goD Γ_ref_Counted tab fn_ref_Counted 0 K (m + 1) ref_Counted_L2 (ref_Counted_S2 x0 x1 x2 x3 x4 x5 x6 x7) = segD Γ_ref_Counted tab fn_ref_Counted 0 K (goD Γ_ref_Counted tab fn_ref_Counted 0 K m) (.code (Code.sub (bodyOf fn_ref_Counted) [1, 1, 1, 1, 1, 1, 1, 1, 1, 0, 1, 0, 0]) :: ref_Counted_L2) (ref_Counted_S2 x0 x1 x2 x3 x4 x5 x6 x7) := rfl

theorem hasK_ins (x k : Int) (ks : List Int) : hasK x (insK k ks) = (decide (k = x) || hasK x ks) := by
  unfold insK
  by_cases h : hasK k ks = true
  · rw [h]
    simp only
    by_cases c : k = x
    · subst c; rw [h]; simp
    · simp [c]
  · rw [(Bool.not_eq_true _).mp h]
    simp only [hasK]
    by_cases c : k = x
    · subst c; simp
    · simp [c]; exact fun e => absurd e.symm c
theorem hasI_snoc (x y : Int) (l : List Int) : hasI x (l ++ [y]) = (decide (y = x) || hasI x l) := by
  simp only [hasI, List.any_append, List.any_cons, List.any_nil, Bool.or_false]; exact Bool.or_comm _ _
theorem loop2_ref_Counted (l : List Vm.Signed) (ks sg : List Int) (n : Int) (hk6 : ks.length ≤ 6) (S H : List Int) (hS : ∀ x, hasK x S = hasI x sg) (hH : ∀ x, hasK x H = hasSig x n l) (K : V → List Blk → Prop) (x4 x5 : Int) : ∀ (d k c : Nat), k + d = ks.length → c ≤ k → K (.tup [.one (.dat .int ((c + countN l sg n (ks.drop k) : Nat) : Int)), .one (.dat .int 0)]) [] →
    goD Γ_ref_Counted tab fn_ref_Counted 0 K (d + 1) ref_Counted_L2 (ref_Counted_S2 (k : Int) (((len ks) : Nat) : Int) ks (c : Int) x4 x5 S H)
  | 0, k, c, hk, hc, hK => by
    rw [ref_Counted_w2, ref_Counted_vc2 _ _ _ _ _ _ _ _ _ _ _ rfl _ rfl]
    rw [List.drop_of_length_le (by omega)] at hK
    exact lt_f (by simp only [len]; omega) hK
  | d + 1, k, c, hk, hc, hK => by
    rw [ref_Counted_w2, ref_Counted_vc2 _ _ _ _ _ _ _ _ _ _ _ rfl _ rfl, toNat_nat]
    rw [drop_step (by omega) (Ty.dflt Ty.int), countN_cons] at hK
    obtain ⟨x, hx⟩ : ∃ x, nth ks k (Ty.dflt Ty.int) = x := ⟨_, rfl⟩
    rw [hx] at hK ⊢
    rw [w64_succ (k := k) (by omega), w64_succ (k := c) (by omega)]
    have no : signs l sg n x = false → K (.tup [.one (.dat .int ((c + countN l sg n (ks.drop (k + 1)) : Nat) : Int)), .one (.dat .int 0)]) [] := fun h => by
      rw [if_neg (by rw [h]; simp), Nat.zero_add] at hK; exact hK
    rw [hH x, hS x]
    refine lt_t (by simp only [len]; omega) ⟨⟨by omega, by simp only [len]; omega⟩, br_split (fun h => br_split (fun h2 => ?_) (fun h2 => ?_)) (fun h => ?_)⟩
    · rw [if_pos (show signs l sg n x = true from by simp [signs, h, h2])] at hK
      exact loop2_ref_Counted l ks sg n hk6 S H hS hH K x4 x5 d (k + 1) (c + 1) (by omega) (by omega) (by rw [show c + 1 + countN l sg n (ks.drop (k + 1)) = c + (1 + countN l sg n (ks.drop (k + 1))) by omega]; exact hK)
    · exact loop2_ref_Counted l ks sg n hk6 S H hS hH K x4 x5 d (k + 1) c (by omega) (by omega) (no (by simp [signs, h2]))
    · exact loop2_ref_Counted l ks sg n hk6 S H hS hH K x4 x5 d (k + 1) c (by omega) (by omega) (no (by simp [signs, h]))
theorem loop1_ref_Counted (l : List Vm.Signed) (v : Int) (ks : List Int) (t : Int) (sg : List Int) (n : Int) (hk6 : ks.length ≤ 6) (hs : sg.length ≤ 50) (H : List Int) (hH : ∀ x, hasK x H = hasSig x n l) (K : V → List Blk → Prop) (x4 x5 : Int) (hK : K (.tup [.one (.dat .int ((countN l sg n ks : Nat) : Int)), .one (.dat .int 0)]) []) : ∀ (d k : Nat) (S : List Int), k + d = sg.length → (∀ x, hasK x S = hasI x (sg.take k)) →
    goD Γ_ref_Counted tab fn_ref_Counted 0 K (ks.length + 1 + d + 1) ref_Counted_L1 (ref_Counted_S1 (k : Int) (((len sg) : Nat) : Int) sg x4 x5 S H v ks t)
  | 0, k, S, hk, hS => by
    rw [ref_Counted_w1, ref_Counted_vc1 _ _ _ _ _ _ _ _ _ _ _ _ _ rfl]
    rw [List.take_of_length_le (by omega)] at hS
    exact lt_f (by simp only [len]; omega) (loop2_ref_Counted l ks sg n hk6 S H hS hH K x4 x5 ks.length 0 0 (by omega) (by omega) (by rw [Nat.zero_add]; exact hK))
  | d + 1, k, S, hk, hS => by
    rw [show ks.length + 1 + (d + 1) + 1 = (ks.length + 1 + d + 1) + 1 by omega, ref_Counted_w1, ref_Counted_vc1 _ _ _ _ _ _ _ _ _ _ _ _ _ rfl, toNat_nat]
    rw [w64_succ (k := k) (by omega)]
    refine lt_t (by simp only [len]; omega) ⟨⟨by omega, by simp only [len]; omega⟩, ?_⟩
    exact loop1_ref_Counted l v ks t sg n hk6 hs H hH K x4 x5 hK d (k + 1) _ (by omega) (fun x => by rw [hasK_ins, take_step (by omega) (Ty.dflt Ty.int), hasI_snoc, hS x])
theorem loop_ref_Counted (l : List Vm.Signed) (v : Int) (ks : List Int) (t : Int) (sg : List Int) (n : Int) (hk6 : ks.length ≤ 6) (hl : l.length ≤ 360) (hs : sg.length ≤ 50) (K : V → List Blk → Prop) (x4 x5 : Int) (hK : K (.tup [.one (.dat .int ((countN l sg n ks : Nat) : Int)), .one (.dat .int 0)]) []) : ∀ (d k : Nat) (H : List Int), k + d = l.length → (∀ x, hasK x H = hasSig x n (l.take k)) →
    goD Γ_ref_Counted tab fn_ref_Counted 0 K (ks.length + 1 + sg.length + 1 + d + 1) ref_Counted_L0 (ref_Counted_S0 (k : Int) (((len l) : Nat) : Int) l x4 x5 sg n H v ks t)
  | 0, k, H, hk, hH => by
    rw [ref_Counted_w0, ref_Counted_vc0 _ _ _ _ _ _ _ _ _ _ _ _ _ _ rfl]
    rw [List.take_of_length_le (by omega)] at hH
    exact lt_f (by simp only [len]; omega) (loop1_ref_Counted l v ks t sg n hk6 hs H hH K x4 x5 hK sg.length 0 [] (by omega) (fun x => rfl))
  | d + 1, k, H, hk, hH => by
    rw [show ks.length + 1 + sg.length + 1 + (d + 1) + 1 = (ks.length + 1 + sg.length + 1 + d + 1) + 1 by omega, ref_Counted_w0, ref_Counted_vc0 _ _ _ _ _ _ _ _ _ _ _ _ _ _ rfl, toNat_nat]
    rw [w64_succ (k := k) (by omega)]
    have ht : ∀ x, hasSig x n (l.take (k + 1)) = (hasSig x n (l.take k) || isSig x n (nth l k (Ty.dflt Ty.signed))) := fun x => by
      rw [take_step (by omega) (Ty.dflt Ty.signed), hasSig_append]; simp [hasSig]
    obtain ⟨y, hy⟩ : ∃ y, nth l k (Ty.dflt Ty.signed) = y := ⟨_, rfl⟩
    rw [hy] at ht ⊢
    refine lt_t (by simp only [len]; omega) ⟨⟨by omega, by simp only [len]; omega⟩, eq_s (fun h => ?_) (fun h => ?_)⟩
    · refine loop_ref_Counted l v ks t sg n hk6 hl hs K x4 x5 hK d (k + 1) _ (by omega) (fun x => ?_)
      rw [hasK_ins, ht x, hH x, Bool.or_comm]
      congr 1
      simp only [isSig, eqi, h, Bool.and_true, decide_true]
      by_cases c : y.key = x
      · simp [c]
      · simp [c, Ne.symm c]
    · refine loop_ref_Counted l v ks t sg n hk6 hl hs K x4 x5 hK d (k + 1) _ (by omega) (fun x => ?_)
      rw [ht x, hH x]
      have : isSig x n y = false := by
        simp only [isSig, eqi, Bool.and_true, Bool.and_eq_false_iff, decide_eq_false_iff_not]
        exact .inr (fun e => h e.symm)
      rw [this, Bool.or_false]
set_option maxHeartbeats 4000000 in
theorem run_ref_Counted (l : List Vm.Signed) (v : Int) (ks : List Int) (t : Int) (sg : List Int) (n : Int) (K : V → List Blk → Prop) (hK : K (.tup [.one (.dat .int (countT l ⟨v, ks, t⟩ sg n).1), .one (.dat .int (countT l ⟨v, ks, t⟩ sg n).2)]) []) : ∃ m, goD Γ_ref_Counted tab fn_ref_Counted 0 K m [.code (bodyOf fn_ref_Counted)] (initSt [.one (.dat (.list .signed) l), .agg [.dat .int v, .dat (.list .int) ks, .dat .int t], .one (.dat (.list .int) sg), .one (.dat .int n)] []) := by
  refine ⟨ks.length + 1 + sg.length + 1 + l.length + 2, ?_⟩
  rw [ref_Counted_w, ref_Counted_vc _ _ _ _ _ _ _ _ _ rfl _ rfl]
  unfold countT at hK
  simp only at hK
  refine ne_s (fun h => ?_) (fun h => ne_s (fun h2 => ?_) (fun h2 => lt_s (fun h3 => ?_) (fun h3 => ?_)))
  · rw [if_neg h] at hK; exact hK
  · rw [if_pos h, if_neg h2] at hK; exact hK
  · rw [if_pos h, if_pos h2, if_pos (by simp only [len] at h3; omega)] at hK; exact hK
  · rw [if_pos h, if_pos h2, if_neg (by simp only [len] at h3; omega)] at hK
    exact loop_ref_Counted l v ks t sg n (checkRoot_ok h2).2.2.2.2.1 (checkSigned_ok h).1 (by simp only [len] at h3; omega) K 0 0 hK l.length 0 [] (by omega) (fun x => rfl)
theorem sound_ref_Counted : SoundC Tryd.prog tab n_ref_Counted c_ref_Counted := soundC_of ok_ref_Counted hf_ref_Counted hB_ref_Counted (by
  intro vs bs p v bs' h hp
  unfold c_ref_Counted at h
  split at h
  · cases h
    exact ⟨by kernel_rfl, rfl, .inl (run_ref_Counted _ _ _ _ _ _ _ ⟨rfl, rfl⟩)⟩
  · cases h)

def c_ref_Taken_1 : Contract := fun vs bs => match vs, bs with
  | [.one (.dat .int e)], [] => some (none, .tup [.agg [.dat .int 0, .dat (.list .int) [], .dat .int 0, .dat .int 0], .one (.dat .int e)], [])
  | _, _ => none
def Γ_ref_Taken_1 : Ctx := []
theorem ok_ref_Taken_1 : Ok Tryd.prog tab Γ_ref_Taken_1 := ok_nil
theorem ref_Taken_1_vc (e : Int) (rec : List It → St → Prop) (K : V → List Blk → Prop) : segD Γ_ref_Taken_1 tab fn_ref_Taken_1 0 K rec [.code (bodyOf fn_ref_Taken_1)] (initSt [.one (.dat Ty.int e)] []) = (
    K (.tup [.agg [.dat Ty.int (0 : Int), .dat (Ty.list Ty.int) [], .dat Ty.int (0 : Int), .dat Ty.int (0 : Int)], .one (.dat Ty.int e)]) []) := by kernel_rfl
theorem ref_Taken_1_w (e : Int) (m : Nat) (K : V → List Blk → Prop) : goD Γ_ref_Taken_1 tab fn_ref_Taken_1 0 K (m + 1) [.code (bodyOf fn_ref_Taken_1)] (initSt [.one (.dat Ty.int e)] []) = segD Γ_ref_Taken_1 tab fn_ref_Taken_1 0 K (goD Γ_ref_Taken_1 tab fn_ref_Taken_1 0 K m) [.code (bodyOf fn_ref_Taken_1)] (initSt [.one (.dat Ty.int e)] []) := rfl

set_option maxHeartbeats 4000000 in
theorem run_ref_Taken_1 (e : Int) (K : V → List Blk → Prop) (hK : K (.tup [.agg [.dat .int 0, .dat (.list .int) [], .dat .int 0, .dat .int 0], .one (.dat .int e)]) []) : ∃ m, goD Γ_ref_Taken_1 tab fn_ref_Taken_1 0 K m [.code (bodyOf fn_ref_Taken_1)] (initSt [.one (.dat .int e)] []) := by
  refine ⟨1, ?_⟩
  rw [ref_Taken_1_w, ref_Taken_1_vc _ _ _]
  exact hK
theorem sound_ref_Taken_1 : SoundC Tryd.prog tab n_ref_Taken_1 c_ref_Taken_1 := soundC_of ok_ref_Taken_1 hf_ref_Taken_1 hB_ref_Taken_1 (by
  intro vs bs p v bs' h hp
  unfold c_ref_Taken_1 at h
  split at h
  · cases h
    exact ⟨by kernel_rfl, rfl, .inl (run_ref_Taken_1 _ _ ⟨rfl, rfl⟩)⟩
  · cases h)

def c_ref_CheckTrust : Contract := fun vs bs => match vs, bs with
  | [.agg [.dat .int v, .dat (.list .int) ks, .dat .int t, .dat .int n]], [] => some (none, .one (.dat .int (checkTrust ⟨⟨v, ks, t⟩, n⟩)), [])
  | _, _ => none
def Γ_ref_CheckTrust : Ctx := [(n_ref_CheckRoot, c_ref_CheckRoot)]
theorem ok_ref_CheckTrust : Ok Tryd.prog tab Γ_ref_CheckTrust := (ok_nil.consC hf_ref_CheckRoot hB_ref_CheckRoot sound_ref_CheckRoot)
theorem ref_CheckTrust_vc (v : Int) (ks : List Int) (t : Int) (n : Int) (rec : List It → St → Prop) (K : V → List Blk → Prop) v0 (hv0 : v0 = (checkRoot v ks t)) : segD Γ_ref_CheckTrust tab fn_ref_CheckTrust 0 K rec [.code (bodyOf fn_ref_CheckTrust)] (initSt [.agg [.dat Ty.int v, .dat (Ty.list Ty.int) ks, .dat Ty.int t, .dat Ty.int n]] []) = (
    br (lti n (0 : Int))
     (K (.one (.dat Ty.int (3 : Int))) [])
     (br (lti (1000 : Int) n)
       (K (.one (.dat Ty.int (3 : Int))) [])
       (K (.one (.dat Ty.int v0)) []))) := by subst hv0; kernel_rfl
theorem ref_CheckTrust_w (v : Int) (ks : List Int) (t : Int) (n : Int) (m : Nat) (K : V → List Blk → Prop) : goD Γ_ref_CheckTrust tab fn_ref_CheckTrust 0 K (m + 1) [.code (bodyOf fn_ref_CheckTrust)] (initSt [.agg [.dat Ty.int v, .dat (Ty.list Ty.int) ks, .dat Ty.int t, .dat Ty.int n]] []) = segD Γ_ref_CheckTrust tab fn_ref_CheckTrust 0 K (goD Γ_ref_CheckTrust tab fn_ref_CheckTrust 0 K m) [.code (bodyOf fn_ref_CheckTrust)] (initSt [.agg [.dat Ty.int v, .dat (Ty.list Ty.int) ks, .dat Ty.int t, .dat Ty.int n]] []) := rfl

set_option maxHeartbeats 4000000 in
theorem run_ref_CheckTrust (v : Int) (ks : List Int) (t n : Int) (K : V → List Blk → Prop) (hK : K (.one (.dat .int (checkTrust ⟨⟨v, ks, t⟩, n⟩))) []) : ∃ m, goD Γ_ref_CheckTrust tab fn_ref_CheckTrust 0 K m [.code (bodyOf fn_ref_CheckTrust)] (initSt [.agg [.dat .int v, .dat (.list .int) ks, .dat .int t, .dat .int n]] []) := by
  refine ⟨1, ?_⟩
  rw [ref_CheckTrust_w, ref_CheckTrust_vc _ _ _ _ _ _ _ rfl]
  unfold checkTrust at hK
  simp only at hK
  refine lt_s (fun h => ?_) (fun h => lt_s (fun h2 => ?_) (fun h2 => ?_))
  · rw [if_pos (.inl h)] at hK; exact hK
  · rw [if_pos (.inr h2)] at hK; exact hK
  · rw [if_neg (by omega)] at hK; exact hK
theorem sound_ref_CheckTrust : SoundC Tryd.prog tab n_ref_CheckTrust c_ref_CheckTrust := soundC_of ok_ref_CheckTrust hf_ref_CheckTrust hB_ref_CheckTrust (by
  intro vs bs p v bs' h hp
  unfold c_ref_CheckTrust at h
  split at h
  · cases h
    exact ⟨by kernel_rfl, rfl, .inl (run_ref_CheckTrust _ _ _ _ _ ⟨rfl, rfl⟩)⟩
  · cases h)

def c_ref_Turned_1 : Contract := fun vs bs => match vs, bs with
  | [.one (.dat .int e)], [] => some (none, .tup [.agg [.dat .int 0, .dat (.list .int) [], .dat .int 0, .dat .int 0], .one (.dat .int e)], [])
  | _, _ => none
def Γ_ref_Turned_1 : Ctx := []
theorem ok_ref_Turned_1 : Ok Tryd.prog tab Γ_ref_Turned_1 := ok_nil
theorem ref_Turned_1_vc (e : Int) (rec : List It → St → Prop) (K : V → List Blk → Prop) : segD Γ_ref_Turned_1 tab fn_ref_Turned_1 0 K rec [.code (bodyOf fn_ref_Turned_1)] (initSt [.one (.dat Ty.int e)] []) = (
    K (.tup [.agg [.dat Ty.int (0 : Int), .dat (Ty.list Ty.int) [], .dat Ty.int (0 : Int), .dat Ty.int (0 : Int)], .one (.dat Ty.int e)]) []) := by kernel_rfl
theorem ref_Turned_1_w (e : Int) (m : Nat) (K : V → List Blk → Prop) : goD Γ_ref_Turned_1 tab fn_ref_Turned_1 0 K (m + 1) [.code (bodyOf fn_ref_Turned_1)] (initSt [.one (.dat Ty.int e)] []) = segD Γ_ref_Turned_1 tab fn_ref_Turned_1 0 K (goD Γ_ref_Turned_1 tab fn_ref_Turned_1 0 K m) [.code (bodyOf fn_ref_Turned_1)] (initSt [.one (.dat Ty.int e)] []) := rfl

set_option maxHeartbeats 4000000 in
theorem run_ref_Turned_1 (e : Int) (K : V → List Blk → Prop) (hK : K (.tup [.agg [.dat .int 0, .dat (.list .int) [], .dat .int 0, .dat .int 0], .one (.dat .int e)]) []) : ∃ m, goD Γ_ref_Turned_1 tab fn_ref_Turned_1 0 K m [.code (bodyOf fn_ref_Turned_1)] (initSt [.one (.dat .int e)] []) := by
  refine ⟨1, ?_⟩
  rw [ref_Turned_1_w, ref_Turned_1_vc _ _ _]
  exact hK
theorem sound_ref_Turned_1 : SoundC Tryd.prog tab n_ref_Turned_1 c_ref_Turned_1 := soundC_of ok_ref_Turned_1 hf_ref_Turned_1 hB_ref_Turned_1 (by
  intro vs bs p v bs' h hp
  unfold c_ref_Turned_1 at h
  split at h
  · cases h
    exact ⟨by kernel_rfl, rfl, .inl (run_ref_Turned_1 _ _ ⟨rfl, rfl⟩)⟩
  · cases h)

def c_ref_CheckBook : Contract := fun vs bs => match vs, bs with
  | [.agg [.dat (.list .str) l]], [] => some (none, .one (.dat .int (checkBook l)), [])
  | _, _ => none
def Γ_ref_CheckBook : Ctx := [(n_slices_Index_Lstring, c_slices_Index_Lstring)]
theorem ok_ref_CheckBook : Ok Tryd.prog tab Γ_ref_CheckBook := (ok_nil.consC hf_slices_Index_Lstring hB_slices_Index_Lstring sound_slices_Index_Lstring)
noncomputable def ref_CheckBook_L0 : List It := [.inLoop [12, 11, 10, 2, 1] (Code.sub (bodyOf fn_ref_CheckBook) [1, 1, 0, 1, 0, 0]), .inBlock 0, .code (Code.sub (bodyOf fn_ref_CheckBook) [1, 1, 1])]
def ref_CheckBook_S0 (x0 : Int) (x1 : Int) (x2 : (List (List UInt8))) (x3 : Int) (x4 : (List (List UInt8))) : St := ⟨[(12, .one (.dat Ty.int x0)), (11, .one (.dat Ty.int x1)), (10, .one (.dat (Ty.list Ty.str) x2)), (2, .one (.dat Ty.int x3)), (1, .one (.ptr 0 0))], [(0, .box [.dat (Ty.list Ty.str) x4])], 1⟩
theorem ref_CheckBook_vc (l : List (List UInt8)) (rec : List It → St → Prop) (K : V → List Blk → Prop) : segD Γ_ref_CheckBook tab fn_ref_CheckBook 0 K rec [.code (bodyOf fn_ref_CheckBook)] (initSt [.agg [.dat (Ty.list Ty.str) l]] []) = (
    br (lti (60 : Int) (((len l) : Nat) : Int))
     (K (.one (.dat Ty.int (2 : Int))) [])
     (rec ref_CheckBook_L0 (ref_CheckBook_S0 (0 : Int) (((len l) : Nat) : Int) l (0 : Int) l))) := by kernel_rfl
theorem ref_CheckBook_w (l : List (List UInt8)) (m : Nat) (K : V → List Blk → Prop) : goD Γ_ref_CheckBook tab fn_ref_CheckBook 0 K (m + 1) [.code (bodyOf fn_ref_CheckBook)] (initSt [.agg [.dat (Ty.list Ty.str) l]] []) = segD Γ_ref_CheckBook tab fn_ref_CheckBook 0 K (goD Γ_ref_CheckBook tab fn_ref_CheckBook 0 K m) [.code (bodyOf fn_ref_CheckBook)] (initSt [.agg [.dat (Ty.list Ty.str) l]] []) := rfl
theorem ref_CheckBook_vc0 (x0 : Int) (x1 : Int) (x2 : (List (List UInt8))) (x3 : Int) (x4 : (List (List UInt8))) (rec : List It → St → Prop) (K : V → List Blk → Prop) v0 (hv0 : v0 = (indexS (nth x2 (Int.toNat x0) (Ty.dflt Ty.str)) x4)) : segD Γ_ref_CheckBook tab fn_ref_CheckBook 0 K rec (.code (Code.sub (bodyOf fn_ref_CheckBook) [1, 1, 0, 1, 0, 0]) :: ref_CheckBook_L0) (ref_CheckBook_S0 x0 x1 x2 x3 x4) = (
    br (lti x0 x1)
     ((((0 : Int) ≤ x0) ∧ (x0 < (((len x2) : Nat) : Int))) ∧
      (br (lti (2000 : Int) (((len (nth x2 (Int.toNat x0) (Ty.dflt Ty.str))) : Nat) : Int))
       (K (.one (.dat Ty.int (2 : Int))) [])
       (((List.length x4) ≤ 140737488355328) ∧
        (br (lti v0 x0)
         (K (.one (.dat Ty.int (6 : Int))) [])
         (rec ref_CheckBook_L0 (ref_CheckBook_S0 (w64 (x0 + (1 : Int))) x1 x2 x3 x4))))))
     (K (.one (.dat Ty.int (0 : Int))) [])) := by subst hv0; kernel_rfl
theorem ref_CheckBook_w0 (x0 : Int) (x1 : Int) (x2 : (List (List UInt8))) (x3 : Int) (x4 : (List (List UInt8))) (m : Nat) (K : V → List Blk → Prop) : goD Γ_ref_CheckBook tab fn_ref_CheckBook 0 K (m + 1) ref_CheckBook_L0 (ref_CheckBook_S0 x0 x1 x2 x3 x4) = segD Γ_ref_CheckBook tab fn_ref_CheckBook 0 K (goD Γ_ref_CheckBook tab fn_ref_CheckBook 0 K m) (.code (Code.sub (bodyOf fn_ref_CheckBook) [1, 1, 0, 1, 0, 0]) :: ref_CheckBook_L0) (ref_CheckBook_S0 x0 x1 x2 x3 x4) := rfl

theorem loop_ref_CheckBook (l : List (List UInt8)) (hl : l.length ≤ 60) (K : V → List Blk → Prop) : ∀ (d k : Nat), k + d = l.length → K (.one (.dat .int (bookFrom (l.take k) (l.drop k)))) [] →
    goD Γ_ref_CheckBook tab fn_ref_CheckBook 0 K (d + 1) ref_CheckBook_L0 (ref_CheckBook_S0 (k : Int) (((len l) : Nat) : Int) l 0 l)
  | 0, k, hk, hK => by
    rw [ref_CheckBook_w0, ref_CheckBook_vc0 _ _ _ _ _ _ _ _ rfl]
    rw [List.drop_of_length_le (by omega)] at hK
    exact lt_f (by simp only [len]; omega) hK
  | d + 1, k, hk, hK => by
    rw [ref_CheckBook_w0, ref_CheckBook_vc0 _ _ _ _ _ _ _ _ rfl, toNat_nat]
    have hi := indexS_take (l := l) (k := k) (by omega) (rfl : nth l k (Ty.dflt Ty.str) = nth l k (Ty.dflt Ty.str))
    rw [drop_step (by omega) (Ty.dflt Ty.str)] at hK
    simp only [bookFrom] at hK
    refine lt_t (by simp only [len]; omega) ⟨⟨by omega, by simp only [len]; omega⟩, lt_s (fun h => ?_) (fun h => ⟨by omega, br_split (fun h2 => ?_) (fun h2 => ?_)⟩)⟩
    · rw [if_pos (by simp only [len] at h; omega)] at hK; exact hK
    · rw [if_neg (by simp only [len] at h; omega), if_pos (by rw [← hi]; exact h2)] at hK; exact hK
    · rw [if_neg (by simp only [len] at h; omega), if_neg (by rw [← hi, h2]; simp)] at hK
      rw [w64_succ (by omega)]
      rw [← take_step (by omega) (Ty.dflt Ty.str)] at hK
      exact loop_ref_CheckBook l hl K d (k + 1) (by omega) hK
set_option maxHeartbeats 4000000 in
theorem run_ref_CheckBook (l : List (List UInt8)) (K : V → List Blk → Prop) (hK : K (.one (.dat .int (checkBook l))) []) : ∃ m, goD Γ_ref_CheckBook tab fn_ref_CheckBook 0 K m [.code (bodyOf fn_ref_CheckBook)] (initSt [.agg [.dat (.list .str) l]] []) := by
  refine ⟨l.length + 2, ?_⟩
  rw [ref_CheckBook_w, ref_CheckBook_vc _ _ _]
  unfold checkBook at hK
  refine lt_s (fun h => ?_) (fun h => ?_)
  · rw [if_pos (by simp only [len] at h; omega)] at hK; exact hK
  · rw [if_neg (by simp only [len] at h; omega)] at hK
    exact loop_ref_CheckBook l (by simp only [len] at h; omega) K l.length 0 (by omega) hK
theorem sound_ref_CheckBook : SoundC Tryd.prog tab n_ref_CheckBook c_ref_CheckBook := soundC_of ok_ref_CheckBook hf_ref_CheckBook hB_ref_CheckBook (by
  intro vs bs p v bs' h hp
  unfold c_ref_CheckBook at h
  split at h
  · cases h
    exact ⟨by kernel_rfl, rfl, .inl (run_ref_CheckBook _ _ ⟨rfl, rfl⟩)⟩
  · cases h)

def c_ref_spaced : Contract := fun vs bs => match vs, bs with
  | [.one (.dat (.list .int) l)], [] => some (some (len l ≤ 1000 ∧ nums l = true), .one (.dat .str (listT l)), [])
  | _, _ => none
def Γ_ref_spaced : Ctx := [(n_strconv_Itoa, c_strconv_Itoa)]
theorem ok_ref_spaced : Ok Tryd.prog tab Γ_ref_spaced := (ok_nil.consC hf_strconv_Itoa hB_strconv_Itoa sound_strconv_Itoa)
noncomputable def ref_spaced_L0 : List It := [.inLoop [8, 7, 6, 3, 2] (Code.sub (bodyOf fn_ref_spaced) [1, 1, 0, 1, 0, 0]), .inBlock 0, .code (Code.sub (bodyOf fn_ref_spaced) [1, 1, 1])]
def ref_spaced_S0 (x0 : Int) (x1 : Int) (x2 : (List Int)) (x3 : (List UInt8)) (x4 : (List UInt8)) : St := ⟨[(8, .one (.dat Ty.int x0)), (7, .one (.dat Ty.int x1)), (6, .one (.dat (Ty.list Ty.int) x2)), (3, .one (.dat Ty.str x3)), (2, .one (.dat Ty.str x4))], [], 0⟩
theorem ref_spaced_vc (l : List Int) (rec : List It → St → Prop) (K : V → List Blk → Prop) : segD Γ_ref_spaced tab fn_ref_spaced 0 K rec [.code (bodyOf fn_ref_spaced)] (initSt [.one (.dat (Ty.list Ty.int) l)] []) = (
    rec ref_spaced_L0 (ref_spaced_S0 (0 : Int) (((len l) : Nat) : Int) l [] [])) := by kernel_rfl
theorem ref_spaced_w (l : List Int) (m : Nat) (K : V → List Blk → Prop) : goD Γ_ref_spaced tab fn_ref_spaced 0 K (m + 1) [.code (bodyOf fn_ref_spaced)] (initSt [.one (.dat (Ty.list Ty.int) l)] []) = segD Γ_ref_spaced tab fn_ref_spaced 0 K (goD Γ_ref_spaced tab fn_ref_spaced 0 K m) [.code (bodyOf fn_ref_spaced)] (initSt [.one (.dat (Ty.list Ty.int) l)] []) := rfl
theorem ref_spaced_vc0 (x0 : Int) (x1 : Int) (x2 : (List Int)) (x3 : (List UInt8)) (x4 : (List UInt8)) (rec : List It → St → Prop) (K : V → List Blk → Prop) v0 (hv0 : v0 = (numT (nth x2 (Int.toNat x0) (Ty.dflt Ty.int)))) : segD Γ_ref_spaced tab fn_ref_spaced 0 K rec (.code (Code.sub (bodyOf fn_ref_spaced) [1, 1, 0, 1, 0, 0]) :: ref_spaced_L0) (ref_spaced_S0 x0 x1 x2 x3 x4) = (
    br (lti x0 x1)
     ((((0 : Int) ≤ x0) ∧ (x0 < (((len x2) : Nat) : Int))) ∧
      (br (lti (0 : Int) x0)
       ((((len x3) + (len ((32 : UInt8) :: []))) ≤ 140737488355328) ∧
        ((((0 : Int) ≤ (nth x2 (Int.toNat x0) (Ty.dflt Ty.int))) ∧ ((nth x2 (Int.toNat x0) (Ty.dflt Ty.int)) ≤ (9223372036854775807 : Int))) ∧
        ((((len (cat x3 ((32 : UInt8) :: []))) + (len v0)) ≤ 140737488355328) ∧
        (rec ref_spaced_L0 (ref_spaced_S0 (w64 (x0 + (1 : Int))) x1 x2 (cat (cat x3 ((32 : UInt8) :: [])) v0) x4)))))
       ((((0 : Int) ≤ (nth x2 (Int.toNat x0) (Ty.dflt Ty.int))) ∧ ((nth x2 (Int.toNat x0) (Ty.dflt Ty.int)) ≤ (9223372036854775807 : Int))) ∧
        ((((len x3) + (len v0)) ≤ 140737488355328) ∧
        (rec ref_spaced_L0 (ref_spaced_S0 (w64 (x0 + (1 : Int))) x1 x2 (cat x3 v0) x4))))))
     (K (.one (.dat Ty.str x3)) [])) := by subst hv0; kernel_rfl
theorem ref_spaced_w0 (x0 : Int) (x1 : Int) (x2 : (List Int)) (x3 : (List UInt8)) (x4 : (List UInt8)) (m : Nat) (K : V → List Blk → Prop) : goD Γ_ref_spaced tab fn_ref_spaced 0 K (m + 1) ref_spaced_L0 (ref_spaced_S0 x0 x1 x2 x3 x4) = segD Γ_ref_spaced tab fn_ref_spaced 0 K (goD Γ_ref_spaced tab fn_ref_spaced 0 K m) (.code (Code.sub (bodyOf fn_ref_spaced) [1, 1, 0, 1, 0, 0]) :: ref_spaced_L0) (ref_spaced_S0 x0 x1 x2 x3 x4) := rfl

theorem loop_ref_spaced (l : List Int) (hl : l.length ≤ 1000) (hn : nums l = true) (K : V → List Blk → Prop) (hK : K (.one (.dat .str (listT l))) []) (y : List UInt8) : ∀ (d k : Nat), k + d = l.length →
    goD Γ_ref_spaced tab fn_ref_spaced 0 K (d + 1) ref_spaced_L0 (ref_spaced_S0 (k : Int) (((len l) : Nat) : Int) l (listT (l.take k)) y)
  | 0, k, hk => by
    rw [ref_spaced_w0, ref_spaced_vc0 _ _ _ _ _ _ _ _ rfl, List.take_of_length_le (by omega)]
    exact lt_f (by simp only [len]; omega) hK
  | d + 1, k, hk => by
    rw [ref_spaced_w0, ref_spaced_vc0 _ _ _ _ _ _ _ _ rfl, toNat_nat]
    have hm : nth l k (Ty.dflt Ty.int) ∈ l := by
      have : k < l.length := by omega
      simp [nth, List.getD_eq_getElem?_getD, this]
    have ht := take_step (l := l) (k := k) (by omega) (Ty.dflt Ty.int)
    have h0 := listT_len (l.take k)
    have hlk : (l.take k).length = k := by rw [List.length_take]; omega
    obtain ⟨x, hx⟩ : ∃ x, nth l k (Ty.dflt Ty.int) = x := ⟨_, rfl⟩
    rw [hx] at hm ht ⊢
    have h1 := List.all_eq_true.1 hn _ hm
    have h2 := numT_len x
    simp only [Bool.and_eq_true, decide_eq_true_eq] at h1
    have ek : w64 ((k : Int) + 1) = ((k + 1 : Nat) : Int) := w64_succ (by omega)
    rw [ek]
    refine lt_t (by simp only [len]; omega) ⟨⟨by omega, by simp only [len]; omega⟩, lt_s (fun h3 => ?_) (fun h3 => ?_)⟩
    · refine ⟨by simp only [len, List.length_cons, List.length_nil]; omega, h1, by simp only [len, cat, List.length_append, List.length_cons, List.length_nil]; omega, ?_⟩
      rw [show cat (cat (listT (l.take k)) [32]) (numT x) = listT (l.take (k + 1)) from by rw [ht, listT_snoc (by intro e; rw [e] at hlk; simp at hlk; omega)]; rfl]
      exact loop_ref_spaced l hl hn K hK y d (k + 1) (by omega)
    · have : k = 0 := by omega
      subst this
      refine ⟨h1, by simp only [len]; omega, ?_⟩
      rw [show cat (listT (l.take 0)) (numT x) = listT (l.take (0 + 1)) from by rw [ht]; rfl]
      exact loop_ref_spaced l hl hn K hK y d (0 + 1) (by omega)
set_option maxHeartbeats 4000000 in
theorem run_ref_spaced (l : List Int) (hp : len l ≤ 1000 ∧ nums l = true) (K : V → List Blk → Prop) (hK : K (.one (.dat .str (listT l))) []) : ∃ m, goD Γ_ref_spaced tab fn_ref_spaced 0 K m [.code (bodyOf fn_ref_spaced)] (initSt [.one (.dat (.list .int) l)] []) := by
  refine ⟨l.length + 2, ?_⟩
  rw [ref_spaced_w, ref_spaced_vc _ _ _]
  exact loop_ref_spaced l hp.1 hp.2 K hK [] l.length 0 (by omega)
theorem sound_ref_spaced : SoundC Tryd.prog tab n_ref_spaced c_ref_spaced := soundC_of ok_ref_spaced hf_ref_spaced hB_ref_spaced (by
  intro vs bs p v bs' h hp
  unfold c_ref_spaced at h
  split at h
  · cases h
    exact ⟨by kernel_rfl, rfl, .inl (run_ref_spaced _ hp.1 _ ⟨rfl, rfl⟩)⟩
  · cases h)

def c_ref_RootText : Contract := fun vs bs => match vs, bs with
  | [.agg [.dat .int v, .dat (.list .int) ks, .dat .int t]], [] => some (some (checkRoot v ks t = 0), .one (.dat .str (rootText v ks t)), [])
  | _, _ => none
def Γ_ref_RootText : Ctx := [(n_ref_spaced, c_ref_spaced)]
theorem ok_ref_RootText : Ok Tryd.prog tab Γ_ref_RootText := (ok_nil.consC hf_ref_spaced hB_ref_spaced sound_ref_spaced)
theorem ref_RootText_vc (v : Int) (ks : List Int) (t : Int) (rec : List It → St → Prop) (K : V → List Blk → Prop) v0 (hv0 : v0 = (nums (v :: (t :: [])))) v1 (hv1 : v1 = (listT (v :: (t :: [])))) v2 (hv2 : v2 = (nums ks)) v3 (hv3 : v3 = (listT ks)) : segD Γ_ref_RootText tab fn_ref_RootText 0 K rec [.code (bodyOf fn_ref_RootText)] (initSt [.agg [.dat Ty.int v, .dat (Ty.list Ty.int) ks, .dat Ty.int t]] []) = (
    (((len (v :: (t :: []))) ≤ 1000) ∧ (v0 = true)) ∧
    ((((len ((114 : UInt8) :: ((111 : UInt8) :: ((111 : UInt8) :: ((116 : UInt8) :: ((32 : UInt8) :: [])))))) + (len v1)) ≤ 140737488355328) ∧
    ((((len (cat ((114 : UInt8) :: ((111 : UInt8) :: ((111 : UInt8) :: ((116 : UInt8) :: ((32 : UInt8) :: []))))) v1)) + (len ((32 : UInt8) :: ((111 : UInt8) :: ((102 : UInt8) :: ((32 : UInt8) :: [])))))) ≤ 140737488355328) ∧
    ((((len ks) ≤ 1000) ∧ (v2 = true)) ∧
    ((((len (cat (cat ((114 : UInt8) :: ((111 : UInt8) :: ((111 : UInt8) :: ((116 : UInt8) :: ((32 : UInt8) :: []))))) v1) ((32 : UInt8) :: ((111 : UInt8) :: ((102 : UInt8) :: ((32 : UInt8) :: [])))))) + (len v3)) ≤ 140737488355328) ∧
    (K (.one (.dat Ty.str (cat (cat (cat ((114 : UInt8) :: ((111 : UInt8) :: ((111 : UInt8) :: ((116 : UInt8) :: ((32 : UInt8) :: []))))) v1) ((32 : UInt8) :: ((111 : UInt8) :: ((102 : UInt8) :: ((32 : UInt8) :: []))))) v3))) [])))))) := by subst hv3; subst hv2; subst hv1; subst hv0; kernel_rfl
theorem ref_RootText_w (v : Int) (ks : List Int) (t : Int) (m : Nat) (K : V → List Blk → Prop) : goD Γ_ref_RootText tab fn_ref_RootText 0 K (m + 1) [.code (bodyOf fn_ref_RootText)] (initSt [.agg [.dat Ty.int v, .dat (Ty.list Ty.int) ks, .dat Ty.int t]] []) = segD Γ_ref_RootText tab fn_ref_RootText 0 K (goD Γ_ref_RootText tab fn_ref_RootText 0 K m) [.code (bodyOf fn_ref_RootText)] (initSt [.agg [.dat Ty.int v, .dat (Ty.list Ty.int) ks, .dat Ty.int t]] []) := rfl

set_option maxHeartbeats 4000000 in
theorem run_ref_RootText (v : Int) (ks : List Int) (t : Int) (hp : checkRoot v ks t = 0) (K : V → List Blk → Prop) (hK : K (.one (.dat .str (rootText v ks t))) []) : ∃ m, goD Γ_ref_RootText tab fn_ref_RootText 0 K m [.code (bodyOf fn_ref_RootText)] (initSt [.agg [.dat .int v, .dat (.list .int) ks, .dat .int t]] []) := by
  refine ⟨1, ?_⟩
  rw [ref_RootText_w, ref_RootText_vc _ _ _ _ _ _ rfl _ rfl _ rfl _ rfl]
  obtain ⟨h1, h2, h3, h4, h5, h6⟩ := checkRoot_ok hp
  have n1 := listT_len [v, t]
  have n3 := listT_len ks
  simp only [List.length_cons, List.length_nil] at n1
  refine ⟨⟨by simp only [len, List.length_cons, List.length_nil]; omega, by simp only [nums, List.all_cons, List.all_nil, Bool.and_true, Bool.and_eq_true, decide_eq_true_eq]; omega⟩, by simp only [len, List.length_cons, List.length_nil]; omega, by simp only [len, cat, List.length_append, List.length_cons, List.length_nil]; omega, ⟨by simp only [len]; omega, h6⟩, by simp only [len, cat, List.length_append, List.length_cons, List.length_nil]; omega, ?_⟩
  rw [listT_two]
  simpa [cat, rootText] using hK
theorem sound_ref_RootText : SoundC Tryd.prog tab n_ref_RootText c_ref_RootText := soundC_of ok_ref_RootText hf_ref_RootText hB_ref_RootText (by
  intro vs bs p v bs' h hp
  unfold c_ref_RootText at h
  split at h
  · cases h
    exact ⟨by kernel_rfl, rfl, .inl (run_ref_RootText _ _ _ hp.1 _ ⟨rfl, rfl⟩)⟩
  · cases h)

def c_ref_NameOf : Contract := fun vs bs => match vs, bs with
  | [.agg [.dat (.list .str) l], .one (.dat .str s)], [] => some (some (l.length ≤ 60), .one (.dat .int (indexS s l + 1)), [])
  | _, _ => none
def Γ_ref_NameOf : Ctx := []
theorem ok_ref_NameOf : Ok Tryd.prog tab Γ_ref_NameOf := ok_nil
noncomputable def ref_NameOf_L0 : List It := [.inLoop [10, 9, 8, 4, 1] (Code.sub (bodyOf fn_ref_NameOf) [1, 0, 1, 0, 0]), .inBlock 0, .code (Code.sub (bodyOf fn_ref_NameOf) [1, 1])]
def ref_NameOf_S0 (x0 : Int) (x1 : Int) (x2 : (List (List UInt8))) (x3 : Int) (x4 : (List UInt8)) : St := ⟨[(10, .one (.dat Ty.int x0)), (9, .one (.dat Ty.int x1)), (8, .one (.dat (Ty.list Ty.str) x2)), (4, .one (.dat Ty.int x3)), (1, .one (.dat Ty.str x4))], [], 0⟩
theorem ref_NameOf_vc (l : List (List UInt8)) (s : List UInt8) (rec : List It → St → Prop) (K : V → List Blk → Prop) : segD Γ_ref_NameOf tab fn_ref_NameOf 0 K rec [.code (bodyOf fn_ref_NameOf)] (initSt [.agg [.dat (Ty.list Ty.str) l], .one (.dat Ty.str s)] []) = (
    rec ref_NameOf_L0 (ref_NameOf_S0 (0 : Int) (((len l) : Nat) : Int) l (0 : Int) s)) := by kernel_rfl
theorem ref_NameOf_w (l : List (List UInt8)) (s : List UInt8) (m : Nat) (K : V → List Blk → Prop) : goD Γ_ref_NameOf tab fn_ref_NameOf 0 K (m + 1) [.code (bodyOf fn_ref_NameOf)] (initSt [.agg [.dat (Ty.list Ty.str) l], .one (.dat Ty.str s)] []) = segD Γ_ref_NameOf tab fn_ref_NameOf 0 K (goD Γ_ref_NameOf tab fn_ref_NameOf 0 K m) [.code (bodyOf fn_ref_NameOf)] (initSt [.agg [.dat (Ty.list Ty.str) l], .one (.dat Ty.str s)] []) := rfl
theorem ref_NameOf_vc0 (x0 : Int) (x1 : Int) (x2 : (List (List UInt8))) (x3 : Int) (x4 : (List UInt8)) (rec : List It → St → Prop) (K : V → List Blk → Prop) : segD Γ_ref_NameOf tab fn_ref_NameOf 0 K rec (.code (Code.sub (bodyOf fn_ref_NameOf) [1, 0, 1, 0, 0]) :: ref_NameOf_L0) (ref_NameOf_S0 x0 x1 x2 x3 x4) = (
    br (lti x0 x1)
     ((((0 : Int) ≤ x0) ∧ (x0 < (((len x2) : Nat) : Int))) ∧
      (br (eqs (nth x2 (Int.toNat x0) (Ty.dflt Ty.str)) x4)
       (K (.one (.dat Ty.int (w64 (x0 + (1 : Int))))) [])
       (rec ref_NameOf_L0 (ref_NameOf_S0 (w64 (x0 + (1 : Int))) x1 x2 x3 x4))))
     (K (.one (.dat Ty.int (0 : Int))) [])) := by kernel_rfl
theorem ref_NameOf_w0 (x0 : Int) (x1 : Int) (x2 : (List (List UInt8))) (x3 : Int) (x4 : (List UInt8)) (m : Nat) (K : V → List Blk → Prop) : goD Γ_ref_NameOf tab fn_ref_NameOf 0 K (m + 1) ref_NameOf_L0 (ref_NameOf_S0 x0 x1 x2 x3 x4) = segD Γ_ref_NameOf tab fn_ref_NameOf 0 K (goD Γ_ref_NameOf tab fn_ref_NameOf 0 K m) (.code (Code.sub (bodyOf fn_ref_NameOf) [1, 0, 1, 0, 0]) :: ref_NameOf_L0) (ref_NameOf_S0 x0 x1 x2 x3 x4) := rfl

theorem loop_ref_NameOf (l : List (List UInt8)) (s : List UInt8) (hl : l.length ≤ 60) (K : V → List Blk → Prop) : ∀ (d k : Nat), k + d = l.length → K (.one (.dat .int (indexFrom k s (l.drop k) + 1))) [] →
    goD Γ_ref_NameOf tab fn_ref_NameOf 0 K (d + 1) ref_NameOf_L0 (ref_NameOf_S0 (k : Int) (((len l) : Nat) : Int) l 0 s)
  | 0, k, hk, hK => by
    rw [ref_NameOf_w0, ref_NameOf_vc0 _ _ _ _ _ _ _]
    rw [List.drop_of_length_le (by omega)] at hK
    exact lt_f (by simp only [len]; omega) hK
  | d + 1, k, hk, hK => by
    rw [ref_NameOf_w0, ref_NameOf_vc0 _ _ _ _ _ _ _, toNat_nat, w64_succ (by omega)]
    rw [drop_step (by omega) (Ty.dflt Ty.str)] at hK
    simp only [indexFrom] at hK
    refine lt_t (by simp only [len]; omega) ⟨⟨by omega, by simp only [len]; omega⟩, br_split (fun h => ?_) (fun h => ?_)⟩
    · rw [eqs_true] at h
      rw [if_pos h] at hK; exact hK
    · rw [eqs_false] at h
      rw [if_neg h] at hK
      exact loop_ref_NameOf l s hl K d (k + 1) (by omega) hK
set_option maxHeartbeats 4000000 in
theorem run_ref_NameOf (l : List (List UInt8)) (s : List UInt8) (hp : l.length ≤ 60) (K : V → List Blk → Prop) (hK : K (.one (.dat .int (indexS s l + 1))) []) : ∃ m, goD Γ_ref_NameOf tab fn_ref_NameOf 0 K m [.code (bodyOf fn_ref_NameOf)] (initSt [.agg [.dat (.list .str) l], .one (.dat .str s)] []) := by
  refine ⟨l.length + 2, ?_⟩
  rw [ref_NameOf_w, ref_NameOf_vc _ _ _ _]
  exact loop_ref_NameOf l s hp K l.length 0 (by omega) hK
theorem sound_ref_NameOf : SoundC Tryd.prog tab n_ref_NameOf c_ref_NameOf := soundC_of ok_ref_NameOf hf_ref_NameOf hB_ref_NameOf (by
  intro vs bs p v bs' h hp
  unfold c_ref_NameOf at h
  split at h
  · cases h
    exact ⟨by kernel_rfl, rfl, .inl (run_ref_NameOf _ _ hp.1 _ ⟨rfl, rfl⟩)⟩
  · cases h)

def c_ref_Turned : Contract := fun vs bs => match vs, bs with
  | [.agg [.dat (.list .str) b], .one (.dat (.list .signed) l), .agg [.dat .int v, .dat (.list .int) ks, .dat .int t, .dat .int n], .agg [.dat .int nv, .dat (.list .int) nk, .dat .int nt], .one (.dat (.list .int) sg)], [] => some (none, .tup [.agg [.dat .int (turnT b l ⟨⟨v, ks, t⟩, n⟩ ⟨nv, nk, nt⟩ sg).1.r.version, .dat (.list .int) (turnT b l ⟨⟨v, ks, t⟩, n⟩ ⟨nv, nk, nt⟩ sg).1.r.keys, .dat .int (turnT b l ⟨⟨v, ks, t⟩, n⟩ ⟨nv, nk, nt⟩ sg).1.r.thr, .dat .int (turnT b l ⟨⟨v, ks, t⟩, n⟩ ⟨nv, nk, nt⟩ sg).1.version], .one (.dat .int (turnT b l ⟨⟨v, ks, t⟩, n⟩ ⟨nv, nk, nt⟩ sg).2)], [])
  | _, _ => none
def Γ_ref_Turned : Ctx := [(n_ref_Turned_1, c_ref_Turned_1), (n_ref_CheckTrust, c_ref_CheckTrust), (n_ref_CheckRoot, c_ref_CheckRoot), (n_ref_CheckBook, c_ref_CheckBook), (n_ref_RootText, c_ref_RootText), (n_ref_NameOf, c_ref_NameOf), (n_ref_Counted, c_ref_Counted)]
theorem ok_ref_Turned : Ok Tryd.prog tab Γ_ref_Turned := (((((((ok_nil.consC hf_ref_Counted hB_ref_Counted sound_ref_Counted).consC hf_ref_NameOf hB_ref_NameOf sound_ref_NameOf).consC hf_ref_RootText hB_ref_RootText sound_ref_RootText).consC hf_ref_CheckBook hB_ref_CheckBook sound_ref_CheckBook).consC hf_ref_CheckRoot hB_ref_CheckRoot sound_ref_CheckRoot).consC hf_ref_CheckTrust hB_ref_CheckTrust sound_ref_CheckTrust).consC hf_ref_Turned_1 hB_ref_Turned_1 sound_ref_Turned_1)
noncomputable def ref_Turned_L0 : List It := [.inLoop [68, 67, 66, 16, 12, 11, 10, 8, 7, 1, 4] (Code.sub (bodyOf fn_ref_Turned) [1, 1, 1, 1, 1, 1, 1, 0, 1, 0, 0]), .inBlock 0, .code (Code.sub (bodyOf fn_ref_Turned) [1, 1, 1, 1, 1, 1, 1, 1])]
def ref_Turned_S0 (x0 : Int) (x1 : Int) (x2 : Int) (x3 : Int) (x4 : (List Vm.Signed)) (x5 : (List Int)) (x6 : (List Vm.Root)) (x7 : Int) (x8 : Int) (x9 : Int) (x10 : Int) (x11 : (List Int)) (x12 : Int) (x13 : Int) (x14 : (List Int)) (x15 : Int) (x16 : Int) (x17 : (List Int)) : St := ⟨[(68, .one (.dat Ty.int x0)), (67, .one (.dat Ty.int x1)), (66, .one (.own 0)), (16, .one (.dat Ty.int x2)), (12, .one (.fn n_ref_Turned_1 [])), (11, .one (.dat Ty.int x3)), (10, .one (.ptr 1 0)), (8, .one (.ptr 2 0)), (7, .one (.ptr 3 0)), (1, .one (.dat (Ty.list Ty.signed) x4)), (4, .one (.dat (Ty.list Ty.int) x5))], [(0, .arr Ty.root x6), (1, .box [.dat Ty.int x7, .own 4, .dat Ty.int x8, .dat Ty.int x9]), (2, .box [.dat Ty.int x10, .dat (Ty.list Ty.int) x11, .dat Ty.int x12]), (3, .box [.dat Ty.int x13, .dat (Ty.list Ty.int) x14, .dat Ty.int x15, .dat Ty.int x16]), (4, .arr Ty.int x17)], 5⟩
theorem ref_Turned_vc (b : List (List UInt8)) (l : List Signed) (v : Int) (ks : List Int) (t : Int) (n : Int) (nv : Int) (nk : List Int) (nt : Int) (sg : List Int) (rec : List It → St → Prop) (K : V → List Blk → Prop) v0 (hv0 : v0 = (checkTrust (⟨(⟨v, ks, t⟩ : Vm.Root), n⟩ : Vm.Trust))) v1 (hv1 : v1 = (checkRoot nv nk nt)) v2 (hv2 : v2 = (checkBook b)) v3 (hv3 : v3 = (rootText nv nk nt)) v4 (hv4 : v4 = (indexS v3 b)) : segD Γ_ref_Turned tab fn_ref_Turned 0 K rec [.code (bodyOf fn_ref_Turned)] (initSt [.agg [.dat (Ty.list Ty.str) b], .one (.dat (Ty.list Ty.signed) l), .agg [.dat Ty.int v, .dat (Ty.list Ty.int) ks, .dat Ty.int t, .dat Ty.int n], .agg [.dat Ty.int nv, .dat (Ty.list Ty.int) nk, .dat Ty.int nt], .one (.dat (Ty.list Ty.int) sg)] []) = (
    br (!(eqi v0 (0 : Int)))
     (K (.tup [.agg [.dat Ty.int (0 : Int), .dat (Ty.list Ty.int) [], .dat Ty.int (0 : Int), .dat Ty.int (0 : Int)], .one (.dat Ty.int v0)]) [])
     (br (!(eqi v1 (0 : Int)))
       (K (.tup [.agg [.dat Ty.int (0 : Int), .dat (Ty.list Ty.int) [], .dat Ty.int (0 : Int), .dat Ty.int (0 : Int)], .one (.dat Ty.int v1)]) [])
       (br (!(eqi v2 (0 : Int)))
         (K (.tup [.agg [.dat Ty.int (0 : Int), .dat (Ty.list Ty.int) [], .dat Ty.int (0 : Int), .dat Ty.int (0 : Int)], .one (.dat Ty.int v2)]) [])
         (br (!(eqi (w64 (nv - (1 : Int))) v))
           (K (.tup [.agg [.dat Ty.int (0 : Int), .dat (Ty.list Ty.int) [], .dat Ty.int (0 : Int), .dat Ty.int (0 : Int)], .one (.dat Ty.int (10 : Int))]) [])
           ((v1 = (0 : Int)) ∧
            (((List.length b) ≤ 60) ∧
            (rec ref_Turned_L0 (ref_Turned_S0 (0 : Int) (((len ((⟨v, ks, t⟩ : Vm.Root) :: ((⟨nv, nk, nt⟩ : Vm.Root) :: []))) : Nat) : Int) (v4 + (1 : Int)) (0 : Int) l sg ((⟨v, ks, t⟩ : Vm.Root) :: ((⟨nv, nk, nt⟩ : Vm.Root) :: [])) (0 : Int) (0 : Int) (0 : Int) nv nk nt v ks t n [])))))))) := by subst hv4; subst hv3; subst hv2; subst hv1; subst hv0; kernel_rfl
theorem ref_Turned_w (b : List (List UInt8)) (l : List Signed) (v : Int) (ks : List Int) (t : Int) (n : Int) (nv : Int) (nk : List Int) (nt : Int) (sg : List Int) (m : Nat) (K : V → List Blk → Prop) : goD Γ_ref_Turned tab fn_ref_Turned 0 K (m + 1) [.code (bodyOf fn_ref_Turned)] (initSt [.agg [.dat (Ty.list Ty.str) b], .one (.dat (Ty.list Ty.signed) l), .agg [.dat Ty.int v, .dat (Ty.list Ty.int) ks, .dat Ty.int t, .dat Ty.int n], .agg [.dat Ty.int nv, .dat (Ty.list Ty.int) nk, .dat Ty.int nt], .one (.dat (Ty.list Ty.int) sg)] []) = segD Γ_ref_Turned tab fn_ref_Turned 0 K (goD Γ_ref_Turned tab fn_ref_Turned 0 K m) [.code (bodyOf fn_ref_Turned)] (initSt [.agg [.dat (Ty.list Ty.str) b], .one (.dat (Ty.list Ty.signed) l), .agg [.dat Ty.int v, .dat (Ty.list Ty.int) ks, .dat Ty.int t, .dat Ty.int n], .agg [.dat Ty.int nv, .dat (Ty.list Ty.int) nk, .dat Ty.int nt], .one (.dat (Ty.list Ty.int) sg)] []) := rfl
theorem ref_Turned_vc0 (x0 : Int) (x1 : Int) (x2 : Int) (x3 : Int) (x4 : (List Vm.Signed)) (x5 : (List Int)) (x6 : (List Vm.Root)) (x7 : Int) (x8 : Int) (x9 : Int) (x10 : Int) (x11 : (List Int)) (x12 : Int) (x13 : Int) (x14 : (List Int)) (x15 : Int) (x16 : Int) (x17 : (List Int)) (rec : List It → St → Prop) (K : V → List Blk → Prop) v0 (hv0 : v0 = (countT x4 (⟨((nth x6 (Int.toNat x0) (Ty.dflt Ty.root))).version, ((nth x6 (Int.toNat x0) (Ty.dflt Ty.root))).keys, ((nth x6 (Int.toNat x0) (Ty.dflt Ty.root))).thr⟩ : Vm.Root) x5 x2)) : segD Γ_ref_Turned tab fn_ref_Turned 0 K rec (.code (Code.sub (bodyOf fn_ref_Turned) [1, 1, 1, 1, 1, 1, 1, 0, 1, 0, 0]) :: ref_Turned_L0) (ref_Turned_S0 x0 x1 x2 x3 x4 x5 x6 x7 x8 x9 x10 x11 x12 x13 x14 x15 x16 x17) = (
    br (lti x0 x1)
     ((((0 : Int) ≤ x0) ∧ (x0 < (((len x6) : Nat) : Int))) ∧
      (((Int.toNat x0) < (len x6)) ∧
      (br (!(eqi (v0).snd (0 : Int)))
       (K (.tup [.agg [.dat Ty.int (0 : Int), .dat (Ty.list Ty.int) [], .dat Ty.int (0 : Int), .dat Ty.int (0 : Int)], .one (.dat Ty.int (v0).snd)]) [])
       (br (lti (v0).fst ((nth x6 (Int.toNat x0) (Ty.dflt Ty.root))).thr)
         (K (.tup [.agg [.dat Ty.int (0 : Int), .dat (Ty.list Ty.int) [], .dat Ty.int (0 : Int), .dat Ty.int (0 : Int)], .one (.dat Ty.int (9 : Int))]) [])
         (rec ref_Turned_L0 (ref_Turned_S0 (w64 (x0 + (1 : Int))) x1 x2 x3 x4 x5 x6 x7 x8 x9 x10 x11 x12 x13 x14 x15 x16 x17))))))
     (K (.tup [.agg [.dat Ty.int x10, .dat (Ty.list Ty.int) x11, .dat Ty.int x12, .dat Ty.int x16], .one (.dat Ty.int (0 : Int))]) [])) := by subst hv0; kernel_rfl
theorem ref_Turned_w0 (x0 : Int) (x1 : Int) (x2 : Int) (x3 : Int) (x4 : (List Vm.Signed)) (x5 : (List Int)) (x6 : (List Vm.Root)) (x7 : Int) (x8 : Int) (x9 : Int) (x10 : Int) (x11 : (List Int)) (x12 : Int) (x13 : Int) (x14 : (List Int)) (x15 : Int) (x16 : Int) (x17 : (List Int)) (m : Nat) (K : V → List Blk → Prop) : goD Γ_ref_Turned tab fn_ref_Turned 0 K (m + 1) ref_Turned_L0 (ref_Turned_S0 x0 x1 x2 x3 x4 x5 x6 x7 x8 x9 x10 x11 x12 x13 x14 x15 x16 x17) = segD Γ_ref_Turned tab fn_ref_Turned 0 K (goD Γ_ref_Turned tab fn_ref_Turned 0 K m) (.code (Code.sub (bodyOf fn_ref_Turned) [1, 1, 1, 1, 1, 1, 1, 0, 1, 0, 0]) :: ref_Turned_L0) (ref_Turned_S0 x0 x1 x2 x3 x4 x5 x6 x7 x8 x9 x10 x11 x12 x13 x14 x15 x16 x17) := rfl

theorem loop_ref_Turned (l : List Vm.Signed) (sg : List Int) (name : Int) (x3 x7 x8 x9 nv : Int) (nk : List Int) (nt v : Int) (ks : List Int) (t n : Int) (x17 : List Int) (K : V → List Blk → Prop)
    (hK : ∀ e, (if enough l ⟨v, ks, t⟩ sg name = 0 then enough l ⟨nv, nk, nt⟩ sg name else enough l ⟨v, ks, t⟩ sg name) = e → K (.tup [.agg [.dat .int (if e = 0 then nv else 0), .dat (.list .int) (if e = 0 then nk else []), .dat .int (if e = 0 then nt else 0), .dat .int (if e = 0 then n else 0)], .one (.dat .int e)]) []) :
    goD Γ_ref_Turned tab fn_ref_Turned 0 K 3 ref_Turned_L0 (ref_Turned_S0 0 (((len ((⟨v, ks, t⟩ : Vm.Root) :: ((⟨nv, nk, nt⟩ : Vm.Root) :: []))) : Nat) : Int) name x3 l sg [⟨v, ks, t⟩, ⟨nv, nk, nt⟩] x7 x8 x9 nv nk nt v ks t n x17) := by
  have one : ∀ (r : Vm.Root) (p q s : Prop), (enough l r sg name ≠ 0 → (countT l r sg name).2 ≠ 0 → enough l r sg name = (countT l r sg name).2 → p) → (enough l r sg name = 9 → q) → (enough l r sg name = 0 → s) → br (!(eqi (countT l r sg name).2 0)) p (br (lti (countT l r sg name).1 r.thr) q s) := fun r p q s h1 h2 h3 => by
    refine ne_s (fun h => ?_) (fun h => lt_s (fun g => ?_) (fun g => ?_))
    · have e : enough l r sg name = (countT l r sg name).2 := if_neg h
      exact h1 (by rw [e]; exact h) h e
    · exact h2 (by unfold enough; rw [if_pos h, if_pos g])
    · exact h3 (by unfold enough; rw [if_pos h, if_neg (by omega)])
  rw [ref_Turned_w0, ref_Turned_vc0 _ _ _ _ _ _ _ _ _ _ _ _ _ _ _ _ _ _ _ _ _ rfl]
  refine lt_t (by simp [len]) ⟨⟨by simp, by simp [len]⟩, by simp [len], ?_⟩
  refine one ⟨v, ks, t⟩ _ _ _ (fun h h1 h2 => ?_) (fun h => ?_) (fun h => ?_)
  · have := hK _ (if_neg h)
    rw [if_neg h, if_neg h, if_neg h, if_neg h, h2] at this; exact this
  · have := hK 9 (by rw [h]; rfl); exact this
  have e1 : w64 ((0 : Int) + 1) = 1 := by decide
  rw [e1]
  rw [ref_Turned_w0, ref_Turned_vc0 _ _ _ _ _ _ _ _ _ _ _ _ _ _ _ _ _ _ _ _ _ rfl]
  refine lt_t (by simp [len]) ⟨⟨by simp, by simp [len]⟩, by simp [len], ?_⟩
  refine one ⟨nv, nk, nt⟩ _ _ _ (fun g h1 h2 => ?_) (fun g => ?_) (fun g => ?_)
  · have := hK _ (if_pos h)
    rw [if_neg g, if_neg g, if_neg g, if_neg g, h2] at this; exact this
  · have := hK 9 (by rw [if_pos h, g]); exact this
  have e2 : w64 ((1 : Int) + 1) = 2 := by decide
  rw [e2]
  rw [ref_Turned_w0, ref_Turned_vc0 _ _ _ _ _ _ _ _ _ _ _ _ _ _ _ _ _ _ _ _ _ rfl]
  refine lt_f (by simp [len]) ?_
  have := hK 0 (by rw [if_pos h, g]); exact this
set_option maxHeartbeats 4000000 in
theorem run_ref_Turned (b : List (List UInt8)) (l : List Vm.Signed) (v : Int) (ks : List Int) (t n nv : Int) (nk : List Int) (nt : Int) (sg : List Int) (K : V → List Blk → Prop) (hK : K (.tup [.agg [.dat .int (turnT b l ⟨⟨v, ks, t⟩, n⟩ ⟨nv, nk, nt⟩ sg).1.r.version, .dat (.list .int) (turnT b l ⟨⟨v, ks, t⟩, n⟩ ⟨nv, nk, nt⟩ sg).1.r.keys, .dat .int (turnT b l ⟨⟨v, ks, t⟩, n⟩ ⟨nv, nk, nt⟩ sg).1.r.thr, .dat .int (turnT b l ⟨⟨v, ks, t⟩, n⟩ ⟨nv, nk, nt⟩ sg).1.version], .one (.dat .int (turnT b l ⟨⟨v, ks, t⟩, n⟩ ⟨nv, nk, nt⟩ sg).2)]) []) : ∃ m, goD Γ_ref_Turned tab fn_ref_Turned 0 K m [.code (bodyOf fn_ref_Turned)] (initSt [.agg [.dat (.list .str) b], .one (.dat (.list .signed) l), .agg [.dat .int v, .dat (.list .int) ks, .dat .int t, .dat .int n], .agg [.dat .int nv, .dat (.list .int) nk, .dat .int nt], .one (.dat (.list .int) sg)] []) := by
  refine ⟨4, ?_⟩
  rw [ref_Turned_w, ref_Turned_vc _ _ _ _ _ _ _ _ _ _ _ _ _ rfl _ rfl _ rfl _ rfl _ rfl]
  have bad : ∀ e : Int, e ≠ 0 → turnE b l ⟨⟨v, ks, t⟩, n⟩ ⟨nv, nk, nt⟩ sg = e → K (.tup [.agg [.dat .int 0, .dat (.list .int) [], .dat .int 0, .dat .int 0], .one (.dat .int e)]) [] := fun e he h => by
    rw [show turnT b l ⟨⟨v, ks, t⟩, n⟩ ⟨nv, nk, nt⟩ sg = (noTrust, e) from by unfold turnT; rw [if_neg (by rw [h]; exact he), h]] at hK
    exact hK
  refine ne_s (fun h => bad _ h (if_neg h)) (fun h => ?_)
  have E1 : turnE b l ⟨⟨v, ks, t⟩, n⟩ ⟨nv, nk, nt⟩ sg = _ := if_pos h
  refine ne_s (fun h2 => bad _ h2 (E1.trans (if_neg h2))) (fun h2 => ?_)
  have E2 := E1.trans (if_pos h2)
  refine ne_s (fun h3 => bad _ h3 (E2.trans (if_neg h3))) (fun h3 => ?_)
  have E3 := E2.trans (if_pos h3)
  obtain ⟨r1, r2, _⟩ := checkRoot_ok h2
  rw [w64_id (by omega) (by omega)]
  refine ne_s (fun h4 => bad _ (by decide) (E3.trans (if_neg (by simp only; omega)))) (fun h4 => ?_)
  have E4 := E3.trans (if_pos (by simp only; omega))
  refine ⟨h2, checkBook_ok h3, ?_⟩
  refine loop_ref_Turned l sg _ 0 0 0 0 nv nk nt v ks t n [] K (fun e he => ?_)
  have E5 := E4.trans he
  by_cases c : e = 0
  · subst c
    rw [show turnT b l ⟨⟨v, ks, t⟩, n⟩ ⟨nv, nk, nt⟩ sg = (⟨⟨nv, nk, nt⟩, n⟩, 0) from by unfold turnT; rw [if_pos E5]] at hK
    exact hK
  · rw [if_neg c, if_neg c, if_neg c, if_neg c]; exact bad e c E5
theorem sound_ref_Turned : SoundC Tryd.prog tab n_ref_Turned c_ref_Turned := soundC_of ok_ref_Turned hf_ref_Turned hB_ref_Turned (by
  intro vs bs p v bs' h hp
  unfold c_ref_Turned at h
  split at h
  · cases h
    exact ⟨by kernel_rfl, rfl, .inl (run_ref_Turned _ _ _ _ _ _ _ _ _ _ _ ⟨rfl, rfl⟩)⟩
  · cases h)

def c_ref_CheckRelease : Contract := fun vs bs => match vs, bs with
  | [.agg [.dat .int v, .dat .int u, .dat (.list .target) ts]], [] => some (none, .one (.dat .int (checkRelease v u ts)), [])
  | _, _ => none
def Γ_ref_CheckRelease : Ctx := []
theorem ok_ref_CheckRelease : Ok Tryd.prog tab Γ_ref_CheckRelease := ok_nil
noncomputable def ref_CheckRelease_L0 : List It := [.inLoop [36, 35, 34, 2] (Code.sub (bodyOf fn_ref_CheckRelease) [1, 1, 1, 0, 1, 0, 0]), .inBlock 0, .code (Code.sub (bodyOf fn_ref_CheckRelease) [1, 1, 1, 1])]
def ref_CheckRelease_S0 (x0 : Int) (x1 : Int) (x2 : (List Vm.Target)) (x3 : Int) : St := ⟨[(36, .one (.dat Ty.int x0)), (35, .one (.dat Ty.int x1)), (34, .one (.dat (Ty.list Ty.target) x2)), (2, .one (.dat Ty.int x3))], [], 0⟩
theorem ref_CheckRelease_vc (v : Int) (u : Int) (ts : List Vm.Target) (rec : List It → St → Prop) (K : V → List Blk → Prop) : segD Γ_ref_CheckRelease tab fn_ref_CheckRelease 0 K rec [.code (bodyOf fn_ref_CheckRelease)] (initSt [.agg [.dat Ty.int v, .dat Ty.int u, .dat (Ty.list Ty.target) ts]] []) = (
    br (lti v (1 : Int))
     (K (.one (.dat Ty.int (3 : Int))) [])
     (br (lti (1000 : Int) v)
       (K (.one (.dat Ty.int (3 : Int))) [])
       (br (lti u (0 : Int))
         (K (.one (.dat Ty.int (3 : Int))) [])
         (br (lti (100000 : Int) u)
           (K (.one (.dat Ty.int (3 : Int))) [])
           (br (lti (((len ts) : Nat) : Int) (1 : Int))
             (K (.one (.dat Ty.int (2 : Int))) [])
             (br (lti (4 : Int) (((len ts) : Nat) : Int))
               (K (.one (.dat Ty.int (2 : Int))) [])
               (rec ref_CheckRelease_L0 (ref_CheckRelease_S0 (0 : Int) (((len ts) : Nat) : Int) ts (0 : Int))))))))) := by kernel_rfl
theorem ref_CheckRelease_w (v : Int) (u : Int) (ts : List Vm.Target) (m : Nat) (K : V → List Blk → Prop) : goD Γ_ref_CheckRelease tab fn_ref_CheckRelease 0 K (m + 1) [.code (bodyOf fn_ref_CheckRelease)] (initSt [.agg [.dat Ty.int v, .dat Ty.int u, .dat (Ty.list Ty.target) ts]] []) = segD Γ_ref_CheckRelease tab fn_ref_CheckRelease 0 K (goD Γ_ref_CheckRelease tab fn_ref_CheckRelease 0 K m) [.code (bodyOf fn_ref_CheckRelease)] (initSt [.agg [.dat Ty.int v, .dat Ty.int u, .dat (Ty.list Ty.target) ts]] []) := rfl
theorem ref_CheckRelease_vc0 (x0 : Int) (x1 : Int) (x2 : (List Vm.Target)) (x3 : Int) (rec : List It → St → Prop) (K : V → List Blk → Prop) : segD Γ_ref_CheckRelease tab fn_ref_CheckRelease 0 K rec (.code (Code.sub (bodyOf fn_ref_CheckRelease) [1, 1, 1, 0, 1, 0, 0]) :: ref_CheckRelease_L0) (ref_CheckRelease_S0 x0 x1 x2 x3) = (
    br (lti x0 x1)
     ((((0 : Int) ≤ x0) ∧ (x0 < (((len x2) : Nat) : Int))) ∧
      (br (!(eqi ((nth x2 (Int.toNat x0) (Ty.dflt Ty.target))).unit x0))
       (K (.one (.dat Ty.int (3 : Int))) [])
       (br (lti ((nth x2 (Int.toNat x0) (Ty.dflt Ty.target))).image (1 : Int))
         (K (.one (.dat Ty.int (3 : Int))) [])
         (br (lti (60 : Int) ((nth x2 (Int.toNat x0) (Ty.dflt Ty.target))).image)
           (K (.one (.dat Ty.int (3 : Int))) [])
           (br (lti ((nth x2 (Int.toNat x0) (Ty.dflt Ty.target))).long (1 : Int))
             (K (.one (.dat Ty.int (3 : Int))) [])
             (br (lti (40 : Int) ((nth x2 (Int.toNat x0) (Ty.dflt Ty.target))).long)
               (K (.one (.dat Ty.int (3 : Int))) [])
               (rec ref_CheckRelease_L0 (ref_CheckRelease_S0 (w64 (x0 + (1 : Int))) x1 x2 x3))))))))
     (K (.one (.dat Ty.int (0 : Int))) [])) := by kernel_rfl
theorem ref_CheckRelease_w0 (x0 : Int) (x1 : Int) (x2 : (List Vm.Target)) (x3 : Int) (m : Nat) (K : V → List Blk → Prop) : goD Γ_ref_CheckRelease tab fn_ref_CheckRelease 0 K (m + 1) ref_CheckRelease_L0 (ref_CheckRelease_S0 x0 x1 x2 x3) = segD Γ_ref_CheckRelease tab fn_ref_CheckRelease 0 K (goD Γ_ref_CheckRelease tab fn_ref_CheckRelease 0 K m) (.code (Code.sub (bodyOf fn_ref_CheckRelease) [1, 1, 1, 0, 1, 0, 0]) :: ref_CheckRelease_L0) (ref_CheckRelease_S0 x0 x1 x2 x3) := rfl

theorem loop_ref_CheckRelease (ts : List Vm.Target) (hl : ts.length ≤ 4) (K : V → List Blk → Prop) : ∀ (d k : Nat), k + d = ts.length → K (.one (.dat .int (if okTargets (k : Int) (ts.drop k) then 0 else 3))) [] →
    goD Γ_ref_CheckRelease tab fn_ref_CheckRelease 0 K (d + 1) ref_CheckRelease_L0 (ref_CheckRelease_S0 (k : Int) (((len ts) : Nat) : Int) ts 0)
  | 0, k, hk, hK => by
    rw [ref_CheckRelease_w0, ref_CheckRelease_vc0 _ _ _ _ _ _]
    rw [List.drop_of_length_le (by omega)] at hK
    exact lt_f (by simp only [len]; omega) hK
  | d + 1, k, hk, hK => by
    rw [ref_CheckRelease_w0, ref_CheckRelease_vc0 _ _ _ _ _ _, toNat_nat]
    rw [drop_step (by omega) (Ty.dflt Ty.target)] at hK
    obtain ⟨x, hx⟩ : ∃ x, nth ts k (Ty.dflt Ty.target) = x := ⟨_, rfl⟩
    rw [hx] at hK ⊢
    have three : okTarget (k : Int) x = false → K (.one (.dat .int 3)) [] := fun h => by rw [show okTargets (k : Int) (x :: ts.drop (k + 1)) = false from by simp [okTargets, h]] at hK; exact hK
    have hot : okTarget (k : Int) x = true ↔ (x.unit = k ∧ 1 ≤ x.image ∧ x.image ≤ 60 ∧ 1 ≤ x.long ∧ x.long ≤ 40) := by
      simp only [okTarget, Bool.and_eq_true, decide_eq_true_eq]; omega
    have bad : ¬ (x.unit = k ∧ 1 ≤ x.image ∧ x.image ≤ 60 ∧ 1 ≤ x.long ∧ x.long ≤ 40) → K (.one (.dat .int 3)) [] := fun h => three (by
      cases hc : okTarget (k : Int) x
      · rfl
      · exact absurd (hot.1 hc) h)
    refine lt_t (by simp only [len]; omega) ⟨⟨by omega, by simp only [len]; omega⟩, ne_s (fun h => bad (by omega)) (fun h => lt_s (fun h2 => bad (by omega)) (fun h2 => lt_s (fun h3 => bad (by omega)) (fun h3 => lt_s (fun h4 => bad (by omega)) (fun h4 => lt_s (fun h5 => bad (by omega)) (fun h5 => ?_)))))⟩
    rw [w64_succ (by omega)]
    rw [show okTargets (k : Int) (x :: ts.drop (k + 1)) = okTargets ((k : Int) + 1) (ts.drop (k + 1)) from by simp only [okTargets, hot.2 (show _ by omega), Bool.true_and]] at hK
    exact loop_ref_CheckRelease ts hl K d (k + 1) (by omega) (by rw [show ((k + 1 : Nat) : Int) = (k : Int) + 1 by omega]; exact hK)
set_option maxHeartbeats 4000000 in
theorem run_ref_CheckRelease (v u : Int) (ts : List Vm.Target) (K : V → List Blk → Prop) (hK : K (.one (.dat .int (checkRelease v u ts))) []) : ∃ m, goD Γ_ref_CheckRelease tab fn_ref_CheckRelease 0 K m [.code (bodyOf fn_ref_CheckRelease)] (initSt [.agg [.dat .int v, .dat .int u, .dat (.list .target) ts]] []) := by
  refine ⟨ts.length + 2, ?_⟩
  rw [ref_CheckRelease_w, ref_CheckRelease_vc _ _ _ _ _]
  unfold checkRelease at hK
  refine lt_s (fun h => ?_) (fun h => lt_s (fun h2 => ?_) (fun h2 => lt_s (fun h3 => ?_) (fun h3 => lt_s (fun h4 => ?_) (fun h4 => lt_s (fun h5 => ?_) (fun h5 => lt_s (fun h6 => ?_) (fun h6 => ?_))))))
  · rw [if_pos (by omega)] at hK; exact hK
  · rw [if_pos (by omega)] at hK; exact hK
  · rw [if_pos (by omega)] at hK; exact hK
  · rw [if_pos (by omega)] at hK; exact hK
  · rw [if_neg (by omega), if_pos (by simp only [len] at h5; omega)] at hK; exact hK
  · rw [if_neg (by omega), if_pos (by simp only [len] at h6; omega)] at hK; exact hK
  · rw [if_neg (by omega), if_neg (by simp only [len] at h5 h6; omega)] at hK
    exact loop_ref_CheckRelease ts (by simp only [len] at h6; omega) K ts.length 0 (by omega) hK
theorem sound_ref_CheckRelease : SoundC Tryd.prog tab n_ref_CheckRelease c_ref_CheckRelease := soundC_of ok_ref_CheckRelease hf_ref_CheckRelease hB_ref_CheckRelease (by
  intro vs bs p v bs' h hp
  unfold c_ref_CheckRelease at h
  split at h
  · cases h
    exact ⟨by kernel_rfl, rfl, .inl (run_ref_CheckRelease _ _ _ _ ⟨rfl, rfl⟩)⟩
  · cases h)

def c_ref_ReleaseText : Contract := fun vs bs => match vs, bs with
  | [.agg [.dat .int v, .dat .int u, .dat (.list .target) ts]], [] => some (some (checkRelease v u ts = 0), .one (.dat .str (releaseText v u ts)), [])
  | _, _ => none
def Γ_ref_ReleaseText : Ctx := [(n_ref_spaced, c_ref_spaced), (n_strings_Join, c_strings_Join)]
theorem ok_ref_ReleaseText : Ok Tryd.prog tab Γ_ref_ReleaseText := ((ok_nil.consC hf_strings_Join hB_strings_Join sound_strings_Join).consC hf_ref_spaced hB_ref_spaced sound_ref_spaced)
noncomputable def ref_ReleaseText_L0 : List It := [.inLoop [21, 20, 19, 3, 2] (Code.sub (bodyOf fn_ref_ReleaseText) [1, 1, 0, 1, 0, 0]), .inBlock 0, .code (Code.sub (bodyOf fn_ref_ReleaseText) [1, 1, 1])]
def ref_ReleaseText_S0 (x0 : Int) (x1 : Int) (x2 : (List Vm.Target)) (x3 : (List UInt8)) (x4 : (List (List UInt8))) : St := ⟨[(21, .one (.dat Ty.int x0)), (20, .one (.dat Ty.int x1)), (19, .one (.dat (Ty.list Ty.target) x2)), (3, .one (.own 0)), (2, .one (.dat Ty.str x3))], [(0, .arr Ty.str x4)], 1⟩
theorem ref_ReleaseText_vc (v : Int) (u : Int) (ts : List Vm.Target) (rec : List It → St → Prop) (K : V → List Blk → Prop) v0 (hv0 : v0 = (nums (v :: []))) v1 (hv1 : v1 = (listT (v :: []))) v2 (hv2 : v2 = (nums (u :: []))) v3 (hv3 : v3 = (listT (u :: []))) : segD Γ_ref_ReleaseText tab fn_ref_ReleaseText 0 K rec [.code (bodyOf fn_ref_ReleaseText)] (initSt [.agg [.dat Ty.int v, .dat Ty.int u, .dat (Ty.list Ty.target) ts]] []) = (
    (((len (v :: [])) ≤ 1000) ∧ (v0 = true)) ∧
    ((((len ((114 : UInt8) :: ((101 : UInt8) :: ((108 : UInt8) :: ((101 : UInt8) :: ((97 : UInt8) :: ((115 : UInt8) :: ((101 : UInt8) :: ((32 : UInt8) :: []))))))))) + (len v1)) ≤ 140737488355328) ∧
    ((((len (cat ((114 : UInt8) :: ((101 : UInt8) :: ((108 : UInt8) :: ((101 : UInt8) :: ((97 : UInt8) :: ((115 : UInt8) :: ((101 : UInt8) :: ((32 : UInt8) :: [])))))))) v1)) + (len ((32 : UInt8) :: ((117 : UInt8) :: ((110 : UInt8) :: ((116 : UInt8) :: ((105 : UInt8) :: ((108 : UInt8) :: ((32 : UInt8) :: []))))))))) ≤ 140737488355328) ∧
    ((((len (u :: [])) ≤ 1000) ∧ (v2 = true)) ∧
    ((((len (cat (cat ((114 : UInt8) :: ((101 : UInt8) :: ((108 : UInt8) :: ((101 : UInt8) :: ((97 : UInt8) :: ((115 : UInt8) :: ((101 : UInt8) :: ((32 : UInt8) :: [])))))))) v1) ((32 : UInt8) :: ((117 : UInt8) :: ((110 : UInt8) :: ((116 : UInt8) :: ((105 : UInt8) :: ((108 : UInt8) :: ((32 : UInt8) :: []))))))))) + (len v3)) ≤ 140737488355328) ∧
    (rec ref_ReleaseText_L0 (ref_ReleaseText_S0 (0 : Int) (((len ts) : Nat) : Int) ts [] ((cat (cat (cat ((114 : UInt8) :: ((101 : UInt8) :: ((108 : UInt8) :: ((101 : UInt8) :: ((97 : UInt8) :: ((115 : UInt8) :: ((101 : UInt8) :: ((32 : UInt8) :: [])))))))) v1) ((32 : UInt8) :: ((117 : UInt8) :: ((110 : UInt8) :: ((116 : UInt8) :: ((105 : UInt8) :: ((108 : UInt8) :: ((32 : UInt8) :: [])))))))) v3) :: [])))))))) := by subst hv3; subst hv2; subst hv1; subst hv0; kernel_rfl
theorem ref_ReleaseText_w (v : Int) (u : Int) (ts : List Vm.Target) (m : Nat) (K : V → List Blk → Prop) : goD Γ_ref_ReleaseText tab fn_ref_ReleaseText 0 K (m + 1) [.code (bodyOf fn_ref_ReleaseText)] (initSt [.agg [.dat Ty.int v, .dat Ty.int u, .dat (Ty.list Ty.target) ts]] []) = segD Γ_ref_ReleaseText tab fn_ref_ReleaseText 0 K (goD Γ_ref_ReleaseText tab fn_ref_ReleaseText 0 K m) [.code (bodyOf fn_ref_ReleaseText)] (initSt [.agg [.dat Ty.int v, .dat Ty.int u, .dat (Ty.list Ty.target) ts]] []) := rfl
theorem ref_ReleaseText_vc0 (x0 : Int) (x1 : Int) (x2 : (List Vm.Target)) (x3 : (List UInt8)) (x4 : (List (List UInt8))) (rec : List It → St → Prop) (K : V → List Blk → Prop) v0 (hv0 : v0 = (nums (((nth x2 (Int.toNat x0) (Ty.dflt Ty.target))).unit :: (((nth x2 (Int.toNat x0) (Ty.dflt Ty.target))).image :: (((nth x2 (Int.toNat x0) (Ty.dflt Ty.target))).long :: []))))) v1 (hv1 : v1 = (listT (((nth x2 (Int.toNat x0) (Ty.dflt Ty.target))).unit :: (((nth x2 (Int.toNat x0) (Ty.dflt Ty.target))).image :: (((nth x2 (Int.toNat x0) (Ty.dflt Ty.target))).long :: []))))) v2 (hv2 : v2 = (joinT ((59 : UInt8) :: ((32 : UInt8) :: [])) x4)) : segD Γ_ref_ReleaseText tab fn_ref_ReleaseText 0 K rec (.code (Code.sub (bodyOf fn_ref_ReleaseText) [1, 1, 0, 1, 0, 0]) :: ref_ReleaseText_L0) (ref_ReleaseText_S0 x0 x1 x2 x3 x4) = (
    br (lti x0 x1)
     ((((0 : Int) ≤ x0) ∧ (x0 < (((len x2) : Nat) : Int))) ∧
      ((((len (((nth x2 (Int.toNat x0) (Ty.dflt Ty.target))).unit :: (((nth x2 (Int.toNat x0) (Ty.dflt Ty.target))).image :: (((nth x2 (Int.toNat x0) (Ty.dflt Ty.target))).long :: [])))) ≤ 1000) ∧ (v0 = true)) ∧
      (((((len x4) + (len (v1 :: []))) * 16) ≤ 140737488355328) ∧
      (rec ref_ReleaseText_L0 (ref_ReleaseText_S0 (w64 (x0 + (1 : Int))) x1 x2 x3 (cat x4 (v1 :: [])))))))
     ((((List.length x4) ≤ 140737488355328) ∧ ((List.length v2) ≤ 140737488355328)) ∧
      (K (.one (.dat Ty.str v2)) []))) := by subst hv2; subst hv1; subst hv0; kernel_rfl
theorem ref_ReleaseText_w0 (x0 : Int) (x1 : Int) (x2 : (List Vm.Target)) (x3 : (List UInt8)) (x4 : (List (List UInt8))) (m : Nat) (K : V → List Blk → Prop) : goD Γ_ref_ReleaseText tab fn_ref_ReleaseText 0 K (m + 1) ref_ReleaseText_L0 (ref_ReleaseText_S0 x0 x1 x2 x3 x4) = segD Γ_ref_ReleaseText tab fn_ref_ReleaseText 0 K (goD Γ_ref_ReleaseText tab fn_ref_ReleaseText 0 K m) (.code (Code.sub (bodyOf fn_ref_ReleaseText) [1, 1, 0, 1, 0, 0]) :: ref_ReleaseText_L0) (ref_ReleaseText_S0 x0 x1 x2 x3 x4) := rfl

theorem loop_ref_ReleaseText (ts : List Vm.Target) (hl : ts.length ≤ 4) (hn : ∀ t ∈ ts, 0 ≤ t.unit ∧ t.unit ≤ 1000 ∧ 0 ≤ t.image ∧ t.image ≤ 1000 ∧ 0 ≤ t.long ∧ t.long ≤ 1000) (K : V → List Blk → Prop) (pre : List UInt8) (hp : pre.length ≤ 1000) (x3 : List UInt8) (hK : K (.one (.dat .str (pre ++ targetsT ts))) []) : ∀ (d k : Nat), k + d = ts.length →
    goD Γ_ref_ReleaseText tab fn_ref_ReleaseText 0 K (d + 1) ref_ReleaseText_L0 (ref_ReleaseText_S0 (k : Int) (((len ts) : Nat) : Int) ts x3 (pre :: (ts.take k).map fun t => listT [t.unit, t.image, t.long]))
  | 0, k, hk => by
    rw [ref_ReleaseText_w0, ref_ReleaseText_vc0 _ _ _ _ _ _ _ _ rfl _ rfl _ rfl, List.take_of_length_le (by omega), release_join]
    have hq := joinT_len [59, 32] 1000 (pre :: ts.map fun t => listT [t.unit, t.image, t.long]) (fun x hx => by
      rcases List.mem_cons.1 hx with rfl | hx
      · exact hp
      · obtain ⟨t, _, rfl⟩ := List.mem_map.1 hx
        have := listT_len [t.unit, t.image, t.long]
        simp only [List.length_cons, List.length_nil] at this; omega)
    rw [release_join] at hq
    simp only [List.length_cons, List.length_map, List.length_nil] at hq
    exact lt_f (by simp only [len]; omega) ⟨⟨by simp only [List.length_cons, List.length_map]; omega, by omega⟩, hK⟩
  | d + 1, k, hk => by
    rw [ref_ReleaseText_w0, ref_ReleaseText_vc0 _ _ _ _ _ _ _ _ rfl _ rfl _ rfl, toNat_nat]
    have ht := take_step (l := ts) (k := k) (by omega) (Ty.dflt Ty.target)
    have hm : nth ts k (Ty.dflt Ty.target) ∈ ts := by
      have : k < ts.length := by omega
      simp [nth, List.getD_eq_getElem?_getD, this]
    have hx := hn _ hm
    obtain ⟨x, hxe⟩ : ∃ x, nth ts k (Ty.dflt Ty.target) = x := ⟨_, rfl⟩
    rw [hxe] at hx ht ⊢
    have ek : w64 ((k : Int) + 1) = ((k + 1 : Nat) : Int) := w64_succ (by omega)
    rw [ek]
    refine lt_t (by simp only [len]; omega) ⟨⟨by omega, by simp only [len]; omega⟩, ⟨by simp [len], ?_⟩, by simp only [len, List.length_cons, List.length_map, List.length_take, List.length_nil]; omega, ?_⟩
    · simp only [nums, List.all_cons, List.all_nil, Bool.and_true, Bool.and_eq_true, decide_eq_true_eq]; omega
    · rw [show cat (pre :: (ts.take k).map fun t => listT [t.unit, t.image, t.long]) [listT [x.unit, x.image, x.long]] = pre :: (ts.take (k + 1)).map fun t => listT [t.unit, t.image, t.long] from by rw [ht]; simp [cat]]
      exact loop_ref_ReleaseText ts hl hn K pre hp x3 hK d (k + 1) (by omega)
set_option maxHeartbeats 4000000 in
theorem run_ref_ReleaseText (v u : Int) (ts : List Vm.Target) (hp : checkRelease v u ts = 0) (K : V → List Blk → Prop) (hK : K (.one (.dat .str (releaseText v u ts))) []) : ∃ m, goD Γ_ref_ReleaseText tab fn_ref_ReleaseText 0 K m [.code (bodyOf fn_ref_ReleaseText)] (initSt [.agg [.dat .int v, .dat .int u, .dat (.list .target) ts]] []) := by
  refine ⟨ts.length + 2, ?_⟩
  rw [ref_ReleaseText_w, ref_ReleaseText_vc _ _ _ _ _ _ rfl _ rfl _ rfl _ rfl]
  obtain ⟨h1, h2, h3, h4, h5, h6, h7⟩ := checkRelease_ok hp
  have n1 := numT_len v
  have n2 := numT_len u
  rw [listT_one, listT_one]
  refine ⟨⟨by simp [len], by simp only [nums, List.all_cons, List.all_nil, Bool.and_true, Bool.and_eq_true, decide_eq_true_eq]; omega⟩, by simp only [len, List.length_cons, List.length_nil]; omega, by simp only [len, cat, List.length_append, List.length_cons, List.length_nil]; omega, ⟨by simp [len], by simp only [nums, List.all_cons, List.all_nil, Bool.and_true, Bool.and_eq_true, decide_eq_true_eq]; omega⟩, by simp only [len, cat, List.length_append, List.length_cons, List.length_nil]; omega, ?_⟩
  exact loop_ref_ReleaseText ts h6 h7 K ([114, 101, 108, 101, 97, 115, 101, 32] ++ numT v ++ [32, 117, 110, 116, 105, 108, 32] ++ numT u) (by simp only [List.length_append, List.length_cons, List.length_nil]; omega) [] hK ts.length 0 (by omega)
theorem sound_ref_ReleaseText : SoundC Tryd.prog tab n_ref_ReleaseText c_ref_ReleaseText := soundC_of ok_ref_ReleaseText hf_ref_ReleaseText hB_ref_ReleaseText (by
  intro vs bs p v bs' h hp
  unfold c_ref_ReleaseText at h
  split at h
  · cases h
    exact ⟨by kernel_rfl, rfl, .inl (run_ref_ReleaseText _ _ _ hp.1 _ ⟨rfl, rfl⟩)⟩
  · cases h)

def c_flash_Program_1 : Contract := fun vs bs => match vs, bs with
  | [.one (.dat .int w)], [] => some (none, .one (.dat .bool (!okWord w)), [])
  | _, _ => none
def Γ_flash_Program_1 : Ctx := []
theorem ok_flash_Program_1 : Ok Tryd.prog tab Γ_flash_Program_1 := ok_nil
theorem flash_Program_1_vc (w : Int) (rec : List It → St → Prop) (K : V → List Blk → Prop) : segD Γ_flash_Program_1 tab fn_flash_Program_1 0 K rec [.code (bodyOf fn_flash_Program_1)] (initSt [.one (.dat Ty.int w)] []) = (
    br (lti w (0 : Int))
     (K (.one (.dat Ty.bool true)) [])
     (K (.one (.dat Ty.bool (lti (65535 : Int) w))) [])) := by kernel_rfl
theorem flash_Program_1_w (w : Int) (m : Nat) (K : V → List Blk → Prop) : goD Γ_flash_Program_1 tab fn_flash_Program_1 0 K (m + 1) [.code (bodyOf fn_flash_Program_1)] (initSt [.one (.dat Ty.int w)] []) = segD Γ_flash_Program_1 tab fn_flash_Program_1 0 K (goD Γ_flash_Program_1 tab fn_flash_Program_1 0 K m) [.code (bodyOf fn_flash_Program_1)] (initSt [.one (.dat Ty.int w)] []) := rfl

set_option maxHeartbeats 4000000 in
theorem run_flash_Program_1 (w : Int) (K : V → List Blk → Prop) (hK : K (.one (.dat .bool (!okWord w))) []) : ∃ m, goD Γ_flash_Program_1 tab fn_flash_Program_1 0 K m [.code (bodyOf fn_flash_Program_1)] (initSt [.one (.dat .int w)] []) := by
  refine ⟨1, ?_⟩
  rw [flash_Program_1_w, flash_Program_1_vc _ _ _]
  refine lt_s (fun h => ?_) (fun h => ?_)
  · rw [show (!okWord w) = true from by simp [okWord]; omega] at hK; exact hK
  · rw [show (!okWord w) = lti 65535 w from by simp [okWord, lti, h]; by_cases h2 : w ≤ 65535 <;> simp [h2] <;> omega] at hK; exact hK
theorem sound_flash_Program_1 : SoundC Tryd.prog tab n_flash_Program_1 c_flash_Program_1 := soundC_of ok_flash_Program_1 hf_flash_Program_1 hB_flash_Program_1 (by
  intro vs bs p v bs' h hp
  unfold c_flash_Program_1 at h
  split at h
  · cases h
    exact ⟨by kernel_rfl, rfl, .inl (run_flash_Program_1 _ _ ⟨rfl, rfl⟩)⟩
  · cases h)

def c_ref_IsWord : Contract := fun vs bs => match vs, bs with
  | [.one (.dat .int w)], [] => some (none, .one (.dat .bool (okWord w)), [])
  | _, _ => none
def Γ_ref_IsWord : Ctx := []
theorem ok_ref_IsWord : Ok Tryd.prog tab Γ_ref_IsWord := ok_nil
theorem ref_IsWord_vc (w : Int) (rec : List It → St → Prop) (K : V → List Blk → Prop) : segD Γ_ref_IsWord tab fn_ref_IsWord 0 K rec [.code (bodyOf fn_ref_IsWord)] (initSt [.one (.dat Ty.int w)] []) = (
    br (lei (0 : Int) w)
     (K (.one (.dat Ty.bool (lei w (65535 : Int)))) [])
     (K (.one (.dat Ty.bool false)) [])) := by kernel_rfl
theorem ref_IsWord_w (w : Int) (m : Nat) (K : V → List Blk → Prop) : goD Γ_ref_IsWord tab fn_ref_IsWord 0 K (m + 1) [.code (bodyOf fn_ref_IsWord)] (initSt [.one (.dat Ty.int w)] []) = segD Γ_ref_IsWord tab fn_ref_IsWord 0 K (goD Γ_ref_IsWord tab fn_ref_IsWord 0 K m) [.code (bodyOf fn_ref_IsWord)] (initSt [.one (.dat Ty.int w)] []) := rfl

set_option maxHeartbeats 4000000 in
theorem run_ref_IsWord (w : Int) (K : V → List Blk → Prop) (hK : K (.one (.dat .bool (okWord w))) []) : ∃ m, goD Γ_ref_IsWord tab fn_ref_IsWord 0 K m [.code (bodyOf fn_ref_IsWord)] (initSt [.one (.dat .int w)] []) := by
  refine ⟨1, ?_⟩
  rw [ref_IsWord_w, ref_IsWord_vc _ _ _]
  refine br_split (fun h => ?_) (fun h => ?_)
  · rw [show okWord w = lei w 65535 from by rw [lei_true] at h; simp [okWord, lei, h]] at hK; exact hK
  · rw [show okWord w = false from by rw [lei_false] at h; simp [okWord]; omega] at hK; exact hK
theorem sound_ref_IsWord : SoundC Tryd.prog tab n_ref_IsWord c_ref_IsWord := soundC_of ok_ref_IsWord hf_ref_IsWord hB_ref_IsWord (by
  intro vs bs p v bs' h hp
  unfold c_ref_IsWord at h
  split at h
  · cases h
    exact ⟨by kernel_rfl, rfl, .inl (run_ref_IsWord _ _ ⟨rfl, rfl⟩)⟩
  · cases h)

def c_ref_allWords_1 : Contract := fun vs bs => match vs, bs with
  | [.one (.dat .int w)], [] => some (none, .one (.dat .bool (!okWord w)), [])
  | _, _ => none
def Γ_ref_allWords_1 : Ctx := [(n_ref_IsWord, c_ref_IsWord)]
theorem ok_ref_allWords_1 : Ok Tryd.prog tab Γ_ref_allWords_1 := (ok_nil.consC hf_ref_IsWord hB_ref_IsWord sound_ref_IsWord)
theorem ref_allWords_1_vc (w : Int) (rec : List It → St → Prop) (K : V → List Blk → Prop) v0 (hv0 : v0 = (okWord w)) : segD Γ_ref_allWords_1 tab fn_ref_allWords_1 0 K rec [.code (bodyOf fn_ref_allWords_1)] (initSt [.one (.dat Ty.int w)] []) = (
    K (.one (.dat Ty.bool (!v0))) []) := by subst hv0; kernel_rfl
theorem ref_allWords_1_w (w : Int) (m : Nat) (K : V → List Blk → Prop) : goD Γ_ref_allWords_1 tab fn_ref_allWords_1 0 K (m + 1) [.code (bodyOf fn_ref_allWords_1)] (initSt [.one (.dat Ty.int w)] []) = segD Γ_ref_allWords_1 tab fn_ref_allWords_1 0 K (goD Γ_ref_allWords_1 tab fn_ref_allWords_1 0 K m) [.code (bodyOf fn_ref_allWords_1)] (initSt [.one (.dat Ty.int w)] []) := rfl

set_option maxHeartbeats 4000000 in
theorem run_ref_allWords_1 (w : Int) (K : V → List Blk → Prop) (hK : K (.one (.dat .bool (!okWord w))) []) : ∃ m, goD Γ_ref_allWords_1 tab fn_ref_allWords_1 0 K m [.code (bodyOf fn_ref_allWords_1)] (initSt [.one (.dat .int w)] []) := by
  refine ⟨1, ?_⟩
  rw [ref_allWords_1_w, ref_allWords_1_vc _ _ _ _ rfl]
  exact hK
theorem sound_ref_allWords_1 : SoundC Tryd.prog tab n_ref_allWords_1 c_ref_allWords_1 := soundC_of ok_ref_allWords_1 hf_ref_allWords_1 hB_ref_allWords_1 (by
  intro vs bs p v bs' h hp
  unfold c_ref_allWords_1 at h
  split at h
  · cases h
    exact ⟨by kernel_rfl, rfl, .inl (run_ref_allWords_1 _ _ ⟨rfl, rfl⟩)⟩
  · cases h)

def c_unit_CheckMessage_1 : Contract := fun vs bs => match vs, bs with
  | [.one (.dat .int w)], [] => some (none, .one (.dat .bool (!okWord w)), [])
  | _, _ => none
def Γ_unit_CheckMessage_1 : Ctx := []
theorem ok_unit_CheckMessage_1 : Ok Tryd.prog tab Γ_unit_CheckMessage_1 := ok_nil
theorem unit_CheckMessage_1_vc (w : Int) (rec : List It → St → Prop) (K : V → List Blk → Prop) : segD Γ_unit_CheckMessage_1 tab fn_unit_CheckMessage_1 0 K rec [.code (bodyOf fn_unit_CheckMessage_1)] (initSt [.one (.dat Ty.int w)] []) = (
    br (lti w (0 : Int))
     (K (.one (.dat Ty.bool true)) [])
     (K (.one (.dat Ty.bool (lti (65535 : Int) w))) [])) := by kernel_rfl
theorem unit_CheckMessage_1_w (w : Int) (m : Nat) (K : V → List Blk → Prop) : goD Γ_unit_CheckMessage_1 tab fn_unit_CheckMessage_1 0 K (m + 1) [.code (bodyOf fn_unit_CheckMessage_1)] (initSt [.one (.dat Ty.int w)] []) = segD Γ_unit_CheckMessage_1 tab fn_unit_CheckMessage_1 0 K (goD Γ_unit_CheckMessage_1 tab fn_unit_CheckMessage_1 0 K m) [.code (bodyOf fn_unit_CheckMessage_1)] (initSt [.one (.dat Ty.int w)] []) := rfl

set_option maxHeartbeats 4000000 in
theorem run_unit_CheckMessage_1 (w : Int) (K : V → List Blk → Prop) (hK : K (.one (.dat .bool (!okWord w))) []) : ∃ m, goD Γ_unit_CheckMessage_1 tab fn_unit_CheckMessage_1 0 K m [.code (bodyOf fn_unit_CheckMessage_1)] (initSt [.one (.dat .int w)] []) := by
  refine ⟨1, ?_⟩
  rw [unit_CheckMessage_1_w, unit_CheckMessage_1_vc _ _ _]
  refine lt_s (fun h => ?_) (fun h => ?_)
  · rw [show (!okWord w) = true from by simp [okWord]; omega] at hK; exact hK
  · rw [show (!okWord w) = lti 65535 w from by simp [okWord, lti, h]; by_cases h2 : w ≤ 65535 <;> simp [h2] <;> omega] at hK; exact hK
theorem sound_unit_CheckMessage_1 : SoundC Tryd.prog tab n_unit_CheckMessage_1 c_unit_CheckMessage_1 := soundC_of ok_unit_CheckMessage_1 hf_unit_CheckMessage_1 hB_unit_CheckMessage_1 (by
  intro vs bs p v bs' h hp
  unfold c_unit_CheckMessage_1 at h
  split at h
  · cases h
    exact ⟨by kernel_rfl, rfl, .inl (run_unit_CheckMessage_1 _ _ ⟨rfl, rfl⟩)⟩
  · cases h)
end Go.Proofs.YtlbppjmekiemiabDoor
