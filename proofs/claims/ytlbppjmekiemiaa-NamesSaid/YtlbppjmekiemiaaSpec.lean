/- Plain answers of the functions, and plain lemmas on them. No condition. -/
import Derived.Test.YtlbppjmekiemiaaVmc
import Derived.IntWalk
/- Plain answers: flash. No condition. -/
namespace Go.Proofs.Ytlbppjmekiemiaa
namespace Vm

def eqIs (a b : List Int) : Bool := decide (a = b)
def okWord (w : Int) : Bool := decide (0 ≤ w) && decide (w ≤ 65535)
def okWords (l : List Int) : Bool := l.all okWord
/-- The place of the first word that is none; -1. -/
def firstBadFrom (k : Int) : List Int → Int
  | [] => -1
  | w :: l => if okWord w then firstBadFrom (k + 1) l else k
def firstBad (l : List Int) : Int := firstBadFrom 0 l
def okLen (n : Nat) : Bool := n == 32 || n == 64 || n == 96 || n == 128 || n == 160 || n == 192
def checkFlash (f : Flash) : Int :=
  if okLen f.words.length then (if decide (-1 ≤ f.fuel) && decide (f.fuel ≤ 100000) && okWords f.words then 0 else 3) else 4
def burnFuel (fu : Int) : Int := if 0 < fu then fu - 1 else fu
def applyCh (ws : List Int) (cs : List Change) : List Int := cs.foldl (fun ws c => ws.set c.at_.toNat (fnwApp c.word (ws.getD c.at_.toNat 0))) ws
/-- As many changes as there is power for; were these all? -/
def doCh (f : Flash) (cs : List Change) : Flash × Bool :=
  if f.fuel < 0 then (⟨applyCh f.words cs, f.fuel⟩, true)
  else if (cs.length : Int) ≤ f.fuel then (⟨applyCh f.words cs, f.fuel - cs.length⟩, true)
  else (⟨applyCh f.words (cs.take f.fuel.toNat), 0⟩, false)
def wipeFrom (at_ : Int) : Nat → List Change
  | 0 => []
  | n + 1 => ⟨at_, none⟩ :: wipeFrom (at_ + 1) n
def wipeCh (sector : Int) : List Change := wipeFrom (32 * sector) 32
def burnCh (at_ : Int) : List Int → List Change
  | [] => []
  | w :: l => ⟨at_, some w⟩ :: burnCh (at_ + 1) l
def noFlash : Flash := ⟨[], 0⟩
def power (r : Flash × Bool) : Flash × Int := (r.1, if r.2 then 0 else 7)
def programF (f : Flash) (at_ : Int) (l : List Int) : Flash × Int :=
  if checkFlash f = 0 then
    (if 0 ≤ at_ ∧ at_ ≤ f.words.length ∧ (l.length : Int) ≤ f.words.length - at_ then
      (if okWords l then power (doCh f (burnCh at_ l)) else (noFlash, 3))
    else (noFlash, 5))
  else (noFlash, checkFlash f)
def sameFlash (a b : Flash) : Bool := decide (a.fuel = b.fuel) && eqIs a.words b.words
end Vm
end Go.Proofs.Ytlbppjmekiemiaa

/- Plain lemmas for the conditions of runs. No condition. -/
namespace Go.Proofs.Ytlbppjmekiemiaa
namespace Vm

theorem w64_id {n : Int} (h1 : -9223372036854775808 ≤ n) (h2 : n ≤ 9223372036854775807) : w64 n = n := by
  unfold w64 IntKind.wrap
  simp only [IntKind.signed, IntKind.bits]
  simp
  omega

theorem lti_true {a b : Int} : lti a b = true ↔ a < b := by simp [lti]
theorem lti_false {a b : Int} : lti a b = false ↔ b ≤ a := by simp [lti]
theorem lei_true {a b : Int} : lei a b = true ↔ a ≤ b := by simp [lei]
theorem lei_false {a b : Int} : lei a b = false ↔ b < a := by simp [lei]
theorem eqi_true {a b : Int} : eqi a b = true ↔ a = b := by simp [eqi]
theorem eqi_false {a b : Int} : eqi a b = false ↔ a ≠ b := by simp [eqi]
theorem eqb_true {a b : Bool} : eqb a b = true ↔ a = b := by simp [eqb]
theorem eqb_false {a b : Bool} : eqb a b = false ↔ a ≠ b := by simp [eqb]
theorem eqs_true {a b : List UInt8} : eqs a b = true ↔ a = b := by simp [eqs]
theorem eqs_false {a b : List UInt8} : eqs a b = false ↔ a ≠ b := by simp [eqs]
theorem not_true {b : Bool} : (!b) = true ↔ b = false := by cases b <;> simp
theorem not_false {b : Bool} : (!b) = false ↔ b = true := by cases b <;> simp
theorem br_t {b : Bool} {p q : Prop} (h : b = true) (hp : p) : br b p q := by subst h; exact hp
theorem br_f {b : Bool} {p q : Prop} (h : b = false) (hq : q) : br b p q := by subst h; exact hq
theorem br_split {b : Bool} {p q : Prop} (hp : b = true → p) (hq : b = false → q) : br b p q := by cases b; exact hq rfl; exact hp rfl
theorem len_eq {α : Type} (l : List α) : len l = l.length := rfl
theorem lt_t {a b : Int} {p q : Prop} (h : a < b) (hp : p) : br (lti a b) p q := br_t (lti_true.2 h) hp
theorem lt_f {a b : Int} {p q : Prop} (h : b ≤ a) (hq : q) : br (lti a b) p q := br_f (lti_false.2 h) hq
theorem lt_s {a b : Int} {p q : Prop} (hp : a < b → p) (hq : b ≤ a → q) : br (lti a b) p q := br_split (fun h => hp (lti_true.1 h)) (fun h => hq (lti_false.1 h))
theorem eq_t {a b : Int} {p q : Prop} (h : a = b) (hp : p) : br (eqi a b) p q := br_t (eqi_true.2 h) hp
theorem eq_f {a b : Int} {p q : Prop} (h : a ≠ b) (hq : q) : br (eqi a b) p q := br_f (eqi_false.2 h) hq
theorem eq_s {a b : Int} {p q : Prop} (hp : a = b → p) (hq : a ≠ b → q) : br (eqi a b) p q := br_split (fun h => hp (eqi_true.1 h)) (fun h => hq (eqi_false.1 h))
theorem ne_t {a b : Int} {p q : Prop} (h : a ≠ b) (hp : p) : br (!eqi a b) p q := br_t (not_true.2 (eqi_false.2 h)) hp
theorem ne_f {a b : Int} {p q : Prop} (h : a = b) (hq : q) : br (!eqi a b) p q := br_f (not_false.2 (eqi_true.2 h)) hq
theorem ne_s {a b : Int} {p q : Prop} (hp : a ≠ b → p) (hq : a = b → q) : br (!eqi a b) p q := br_split (fun h => hp (eqi_false.1 (not_true.1 h))) (fun h => hq (eqi_true.1 (not_false.1 h)))
theorem nt_s {b : Bool} {p q : Prop} (hp : b = false → p) (hq : b = true → q) : br (!b) p q := br_split (fun h => hp (not_true.1 h)) (fun h => hq (not_false.1 h))
theorem nt_t {b : Bool} {p q : Prop} (h : b = false) (hp : p) : br (!b) p q := br_t (not_true.2 h) hp
theorem nt_f {b : Bool} {p q : Prop} (h : b = true) (hq : q) : br (!b) p q := br_f (not_false.2 h) hq
theorem drop_step {α : Type} {l : List α} {k : Nat} (h : k < l.length) (d : α) : l.drop k = nth l k d :: l.drop (k + 1) := by
  rw [List.drop_eq_getElem_cons h]
  simp [nth, List.getD_eq_getElem?_getD, h]
/-- No longer than memory holds. -/
def Sm {α : Type} (l : List α) : Prop := l.length ≤ 140737488355328
theorem toNat_nat (n : Nat) : Int.toNat (n : Int) = n := rfl
theorem w64_succ {k : Nat} (h : k < 9223372036854775807) : w64 ((k : Int) + 1) = ((k + 1 : Nat) : Int) := by rw [w64_id (by omega) (by omega)]; omega
theorem take_step {α : Type} {l : List α} {k : Nat} (h : k < l.length) (d : α) : l.take (k + 1) = l.take k ++ [nth l k d] := by
  rw [List.take_succ_eq_append_getElem h]
  simp [nth, List.getD_eq_getElem?_getD, h]
theorem all_take_step {α : Type} {p : α → Bool} {l : List α} {k : Nat} (h : k < l.length) (d : α) (ht : (l.take k).all p = true) (hd : p (nth l k d) = true) : (l.take (k + 1)).all p = true := by
  rw [take_step h d, List.all_append, ht]; simp [hd]
theorem all_false {α : Type} {p : α → Bool} {l : List α} {k : Nat} (h : k < l.length) (d : α) (hd : p (nth l k d) = false) : l.all p = false := by
  rw [← List.take_append_drop k l, List.all_append, drop_step h d]; simp [hd]
theorem doCh_nil (f : Flash) : doCh f [] = (f, true) := by
  unfold doCh
  cases f with
  | mk ws fu =>
    simp only [applyCh, List.foldl_nil, List.length_nil]
    split
    · rfl
    · rw [if_pos (by simp; omega)]; simp
theorem doCh_cons (ws : List Int) (fu : Int) (c : Change) (cs : List Change) :
    doCh ⟨ws, fu⟩ (c :: cs) = if fu = 0 then (⟨ws, 0⟩, false) else doCh ⟨ws.set c.at_.toNat (fnwApp c.word (ws.getD c.at_.toNat 0)), burnFuel fu⟩ cs := by
  unfold doCh burnFuel
  simp only [List.length_cons]
  by_cases h0 : fu = 0
  · subst h0
    simp only [if_true]
    rw [if_neg (by omega), if_neg (by omega)]
    simp [applyCh]
  · rw [if_neg h0]
    by_cases h1 : fu < 0
    · rw [if_pos h1, if_neg (show ¬ 0 < fu by omega), if_pos h1]; simp [applyCh]
    · rw [if_neg h1, if_pos (show 0 < fu by omega), if_neg (show ¬ fu - 1 < 0 by omega)]
      by_cases h2 : ((cs.length + 1 : Nat) : Int) ≤ fu
      · rw [if_pos h2, if_pos (by omega)]
        simp only [applyCh, List.foldl_cons]
        congr 2
        omega
      · rw [if_neg h2, if_neg (by omega)]
        have : fu.toNat = (fu - 1).toNat + 1 := by omega
        rw [this, List.take_succ_cons]
        simp [applyCh]
theorem applyCh_len (cs : List Change) : ∀ ws : List Int, (applyCh ws cs).length = ws.length := by
  induction cs with
  | nil => intro ws; rfl
  | cons c cs ih => intro ws; simp only [applyCh, List.foldl_cons]; exact (ih _).trans (by simp)
theorem doCh_len (f : Flash) (cs : List Change) : (doCh f cs).1.words.length = f.words.length := by
  unfold doCh
  split
  · exact applyCh_len _ _
  · split
    · exact applyCh_len _ _
    · exact applyCh_len _ _
theorem wipeFrom_len (a : Int) : ∀ n, (wipeFrom a n).length = n := by
  intro n
  induction n generalizing a with
  | zero => rfl
  | succ n ih => simp [wipeFrom, ih]
theorem burnCh_len : ∀ (l : List Int) (a : Int), (burnCh a l).length = l.length
  | [], _ => rfl
  | w :: l, a => by simp [burnCh, burnCh_len l]
end Vm
end Go.Proofs.Ytlbppjmekiemiaa
