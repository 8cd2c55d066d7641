/- Plain answers of the functions, and plain lemmas on them. No condition. -/
import Derived.Test.YtlbppjmekiemiaaVmc
import Derived.IntWalk
/- Plain answers: flash. No condition. -/
namespace Go.Proofs.Ytlbppjmekiemiaa
namespace Vm

def eqIs (a b : List Int) : Bool := decide (a = b)
def okWord (w : Int) : Bool := decide (0 ≤ w) && decide (w ≤ 65535)
def okWords (l : List Int) : Bool := l.all okWord
/-- The place of the first word that is none; -1. -/
def firstBadFrom (k : Int) : List Int → Int
  | [] => -1
  | w :: l => if okWord w then firstBadFrom (k + 1) l else k
def firstBad (l : List Int) : Int := firstBadFrom 0 l
def okLen (n : Nat) : Bool := n == 32 || n == 64 || n == 96 || n == 128 || n == 160 || n == 192
def checkFlash (f : Flash) : Int :=
  if okLen f.words.length then (if decide (-1 ≤ f.fuel) && decide (f.fuel ≤ 100000) && okWords f.words then 0 else 3) else 4
def burnFuel (fu : Int) : Int := if 0 < fu then fu - 1 else fu
def applyCh (ws : List Int) (cs : List Change) : List Int := cs.foldl (fun ws c => ws.set c.at_.toNat (fnwApp c.word (ws.getD c.at_.toNat 0))) ws
/-- As many changes as there is power for; were these all? -/
def doCh (f : Flash) (cs : List Change) : Flash × Bool :=
  if f.fuel < 0 then (⟨applyCh f.words cs, f.fuel⟩, true)
  else if (cs.length : Int) ≤ f.fuel then (⟨applyCh f.words cs, f.fuel - cs.length⟩, true)
  else (⟨applyCh f.words (cs.take f.fuel.toNat), 0⟩, false)
def wipeFrom (at_ : Int) : Nat → List Change
  | 0 => []
  | n + 1 => ⟨at_, none⟩ :: wipeFrom (at_ + 1) n
def wipeCh (sector : Int) : List Change := wipeFrom (32 * sector) 32
def burnCh (at_ : Int) : List Int → List Change
  | [] => []
  | w :: l => ⟨at_, some w⟩ :: burnCh (at_ + 1) l
def noFlash : Flash := ⟨[], 0⟩
def powerE (b : Bool) : Int := match b with | true => 0 | false => 7
def power (r : Flash × Bool) : Flash × Int := (r.1, powerE r.2)
def programF (f : Flash) (at_ : Int) (l : List Int) : Flash × Int :=
  if checkFlash f = 0 then
    (if 0 ≤ at_ ∧ at_ ≤ f.words.length ∧ (l.length : Int) ≤ f.words.length - at_ then
      (if okWords l then power (doCh f (burnCh at_ l)) else (noFlash, 3))
    else (noFlash, 5))
  else (noFlash, checkFlash f)
def sameFlash (a b : Flash) : Bool := decide (a.fuel = b.fuel) && eqIs a.words b.words
def newFlash (n : Int) : Flash × Int := if 1 ≤ n ∧ n ≤ 6 then (⟨zeros (n * 32).toNat 65535, -1⟩, 0) else (noFlash, 3)
def readF (f : Flash) (at_ n : Int) : List Int × Int :=
  if checkFlash f = 0 then
    (if 0 ≤ at_ ∧ 0 ≤ n ∧ at_ + n ≤ f.words.length then (slc f.words at_.toNat (at_ + n).toNat, 0) else ([], 5))
  else ([], checkFlash f)
def eraseF (f : Flash) (sector : Int) : Flash × Int :=
  if checkFlash f = 0 then
    (if 0 ≤ sector ∧ (sector + 1) * 32 ≤ f.words.length then power (doCh f (wipeCh sector)) else (noFlash, 5))
  else (noFlash, checkFlash f)
/-- Each change has its place among so many words. -/
def inPlaces (n : Nat) (cs : List Change) : Bool := cs.all fun c => decide (0 ≤ c.at_) && decide (c.at_ < n)
def two64 : Int := 18446744073709551616
def inU64 (a : Int) : Bool := decide (0 ≤ a) && decide (a < 18446744073709551616)
end Vm
end Go.Proofs.Ytlbppjmekiemiaa

/- Plain lemmas for the conditions of runs. No condition. -/
namespace Go.Proofs.Ytlbppjmekiemiaa
namespace Vm

theorem w64_id {n : Int} (h1 : -9223372036854775808 ≤ n) (h2 : n ≤ 9223372036854775807) : w64 n = n := by
  unfold w64 IntKind.wrap
  simp only [IntKind.signed, IntKind.bits]
  simp
  omega

theorem lti_true {a b : Int} : lti a b = true ↔ a < b := by simp [lti]
theorem lti_false {a b : Int} : lti a b = false ↔ b ≤ a := by simp [lti]
theorem lei_true {a b : Int} : lei a b = true ↔ a ≤ b := by simp [lei]
theorem lei_false {a b : Int} : lei a b = false ↔ b < a := by simp [lei]
theorem eqi_true {a b : Int} : eqi a b = true ↔ a = b := by simp [eqi]
theorem eqi_false {a b : Int} : eqi a b = false ↔ a ≠ b := by simp [eqi]
theorem eqb_true {a b : Bool} : eqb a b = true ↔ a = b := by simp [eqb]
theorem eqb_false {a b : Bool} : eqb a b = false ↔ a ≠ b := by simp [eqb]
theorem eqs_true {a b : List UInt8} : eqs a b = true ↔ a = b := by simp [eqs]
theorem eqs_false {a b : List UInt8} : eqs a b = false ↔ a ≠ b := by simp [eqs]
theorem not_true {b : Bool} : (!b) = true ↔ b = false := by cases b <;> simp
theorem not_false {b : Bool} : (!b) = false ↔ b = true := by cases b <;> simp
theorem br_t {b : Bool} {p q : Prop} (h : b = true) (hp : p) : br b p q := by subst h; exact hp
theorem br_f {b : Bool} {p q : Prop} (h : b = false) (hq : q) : br b p q := by subst h; exact hq
theorem br_split {b : Bool} {p q : Prop} (hp : b = true → p) (hq : b = false → q) : br b p q := by cases b; exact hq rfl; exact hp rfl
theorem len_eq {α : Type} (l : List α) : len l = l.length := rfl
theorem lt_t {a b : Int} {p q : Prop} (h : a < b) (hp : p) : br (lti a b) p q := br_t (lti_true.2 h) hp
theorem lt_f {a b : Int} {p q : Prop} (h : b ≤ a) (hq : q) : br (lti a b) p q := br_f (lti_false.2 h) hq
theorem lt_s {a b : Int} {p q : Prop} (hp : a < b → p) (hq : b ≤ a → q) : br (lti a b) p q := br_split (fun h => hp (lti_true.1 h)) (fun h => hq (lti_false.1 h))
theorem eq_t {a b : Int} {p q : Prop} (h : a = b) (hp : p) : br (eqi a b) p q := br_t (eqi_true.2 h) hp
theorem eq_f {a b : Int} {p q : Prop} (h : a ≠ b) (hq : q) : br (eqi a b) p q := br_f (eqi_false.2 h) hq
theorem eq_s {a b : Int} {p q : Prop} (hp : a = b → p) (hq : a ≠ b → q) : br (eqi a b) p q := br_split (fun h => hp (eqi_true.1 h)) (fun h => hq (eqi_false.1 h))
theorem ne_t {a b : Int} {p q : Prop} (h : a ≠ b) (hp : p) : br (!eqi a b) p q := br_t (not_true.2 (eqi_false.2 h)) hp
theorem ne_f {a b : Int} {p q : Prop} (h : a = b) (hq : q) : br (!eqi a b) p q := br_f (not_false.2 (eqi_true.2 h)) hq
theorem ne_s {a b : Int} {p q : Prop} (hp : a ≠ b → p) (hq : a = b → q) : br (!eqi a b) p q := br_split (fun h => hp (eqi_false.1 (not_true.1 h))) (fun h => hq (eqi_true.1 (not_false.1 h)))
theorem nt_s {b : Bool} {p q : Prop} (hp : b = false → p) (hq : b = true → q) : br (!b) p q := br_split (fun h => hp (not_true.1 h)) (fun h => hq (not_false.1 h))
theorem nt_t {b : Bool} {p q : Prop} (h : b = false) (hp : p) : br (!b) p q := br_t (not_true.2 h) hp
theorem nt_f {b : Bool} {p q : Prop} (h : b = true) (hq : q) : br (!b) p q := br_f (not_false.2 h) hq
theorem drop_step {α : Type} {l : List α} {k : Nat} (h : k < l.length) (d : α) : l.drop k = nth l k d :: l.drop (k + 1) := by
  rw [List.drop_eq_getElem_cons h]
  simp [nth, List.getD_eq_getElem?_getD, h]
/-- No longer than memory holds. -/
def Sm {α : Type} (l : List α) : Prop := l.length ≤ 140737488355328
theorem sm_of {t : Ty} {l : List t.den} (h : SzC (.dat (.list t) l)) : Sm l := by
  have h1 := (szc_list h).1
  have h2 : 1 ≤ t.bytes := by cases t <;> simp [Ty.bytes]
  have : l.length * 1 ≤ l.length * t.bytes := Nat.mul_le_mul_left _ h2
  unfold Sm; omega
theorem toNat_nat (n : Nat) : Int.toNat (n : Int) = n := rfl
theorem w64_succ {k : Nat} (h : k < 9223372036854775807) : w64 ((k : Int) + 1) = ((k + 1 : Nat) : Int) := by rw [w64_id (by omega) (by omega)]; omega
theorem take_step {α : Type} {l : List α} {k : Nat} (h : k < l.length) (d : α) : l.take (k + 1) = l.take k ++ [nth l k d] := by
  rw [List.take_succ_eq_append_getElem h]
  simp [nth, List.getD_eq_getElem?_getD, h]
theorem all_take_step {α : Type} {p : α → Bool} {l : List α} {k : Nat} (h : k < l.length) (d : α) (ht : (l.take k).all p = true) (hd : p (nth l k d) = true) : (l.take (k + 1)).all p = true := by
  rw [take_step h d, List.all_append, ht]; simp [hd]
theorem all_false {α : Type} {p : α → Bool} {l : List α} {k : Nat} (h : k < l.length) (d : α) (hd : p (nth l k d) = false) : l.all p = false := by
  rw [← List.take_append_drop k l, List.all_append, drop_step h d]; simp [hd]
theorem doCh_nil (f : Flash) : doCh f [] = (f, true) := by
  unfold doCh
  cases f with
  | mk ws fu =>
    simp only [applyCh, List.foldl_nil, List.length_nil]
    split
    · rfl
    · rw [if_pos (by simp; omega)]; simp
theorem doCh_cons (ws : List Int) (fu : Int) (c : Change) (cs : List Change) :
    doCh ⟨ws, fu⟩ (c :: cs) = if fu = 0 then (⟨ws, 0⟩, false) else doCh ⟨ws.set c.at_.toNat (fnwApp c.word (ws.getD c.at_.toNat 0)), burnFuel fu⟩ cs := by
  unfold doCh burnFuel
  simp only [List.length_cons]
  by_cases h0 : fu = 0
  · subst h0
    simp only [if_true]
    rw [if_neg (by omega), if_neg (by omega)]
    simp [applyCh]
  · rw [if_neg h0]
    by_cases h1 : fu < 0
    · rw [if_pos h1, if_neg (show ¬ 0 < fu by omega), if_pos h1]; simp [applyCh]
    · rw [if_neg h1, if_pos (show 0 < fu by omega), if_neg (show ¬ fu - 1 < 0 by omega)]
      by_cases h2 : ((cs.length + 1 : Nat) : Int) ≤ fu
      · rw [if_pos h2, if_pos (by omega)]
        simp only [applyCh, List.foldl_cons]
        congr 2
        omega
      · rw [if_neg h2, if_neg (by omega)]
        have : fu.toNat = (fu - 1).toNat + 1 := by omega
        rw [this, List.take_succ_cons]
        simp [applyCh]
theorem applyCh_len (cs : List Change) : ∀ ws : List Int, (applyCh ws cs).length = ws.length := by
  induction cs with
  | nil => intro ws; rfl
  | cons c cs ih => intro ws; simp only [applyCh, List.foldl_cons]; exact (ih _).trans (by simp)
theorem doCh_len (f : Flash) (cs : List Change) : (doCh f cs).1.words.length = f.words.length := by
  unfold doCh
  split
  · exact applyCh_len _ _
  · split
    · exact applyCh_len _ _
    · exact applyCh_len _ _
theorem wipeFrom_len (a : Int) : ∀ n, (wipeFrom a n).length = n := by
  intro n
  induction n generalizing a with
  | zero => rfl
  | succ n ih => simp [wipeFrom, ih]
theorem burnCh_len : ∀ (l : List Int) (a : Int), (burnCh a l).length = l.length
  | [], _ => rfl
  | w :: l, a => by simp [burnCh, burnCh_len l]
end Vm
end Go.Proofs.Ytlbppjmekiemiaa

/- Plain lemmas on flash. No condition. -/
namespace Go.Proofs.Ytlbppjmekiemiaa
namespace Vm

theorem andi_nat (n m : Nat) (hn : n < 65536) (hm : m < 65536) : andi (n : Int) (m : Int) = ((n &&& m : Nat) : Int) := by
  have h1 : n &&& m ≤ n := Nat.and_le_left
  have e : (BitVec.ofInt 64 (n : Int) &&& BitVec.ofInt 64 (m : Int)).toNat = n &&& m := by
    rw [BitVec.toNat_and]
    have a1 : (BitVec.ofInt 64 (n : Int)).toNat = n := by rw [BitVec.ofInt_natCast, BitVec.toNat_ofNat]; omega
    have a2 : (BitVec.ofInt 64 (m : Int)).toNat = m := by rw [BitVec.ofInt_natCast, BitVec.toNat_ofNat]; omega
    rw [a1, a2]
  unfold andi
  rw [e, w64_id (by omega) (by omega)]

theorem okWord_nat {w : Int} (h : okWord w = true) : ∃ n : Nat, w = n ∧ n < 65536 := by
  simp only [okWord, Bool.and_eq_true, decide_eq_true_eq] at h
  exact ⟨w.toNat, by omega, by omega⟩
theorem okWord_of {n : Nat} (h : n < 65536) : okWord (n : Int) = true := by simp [okWord]; omega
theorem okWord_andi {a b : Int} (ha : okWord a = true) (hb : okWord b = true) : okWord (andi a b) = true := by
  obtain ⟨n, rfl, hn⟩ := okWord_nat ha
  obtain ⟨m, rfl, hm⟩ := okWord_nat hb
  rw [andi_nat n m hn hm]
  exact okWord_of (Nat.lt_of_le_of_lt Nat.and_le_left hn)
theorem andi_twice {a b : Int} (ha : okWord a = true) (hb : okWord b = true) : andi (andi a b) b = andi a b := by
  obtain ⟨n, rfl, hn⟩ := okWord_nat ha
  obtain ⟨m, rfl, hm⟩ := okWord_nat hb
  rw [andi_nat n m hn hm, andi_nat _ m (Nat.lt_of_le_of_lt Nat.and_le_left hn) hm, Nat.and_assoc, Nat.and_self]
theorem andi_all {a : Int} (ha : okWord a = true) : andi 65535 a = a := by
  obtain ⟨n, rfl, hn⟩ := okWord_nat ha
  have := andi_nat 65535 n (by omega) hn
  rw [show ((65535 : Nat) : Int) = 65535 from rfl] at this
  rw [this, Nat.and_comm, show (65535 : Nat) = 2 ^ 16 - 1 from rfl, Nat.and_two_pow_sub_one_of_lt_two_pow (by omega)]

theorem okWords_at {l : List Int} (h : okWords l = true) (i : Nat) (hi : i < l.length) : okWord (l.getD i 0) = true := by
  have := List.all_eq_true.1 h (l[i]) (List.getElem_mem hi)
  simpa [List.getD_eq_getElem?_getD, hi] using this
theorem okWords_of {l : List Int} (h : ∀ i, i < l.length → okWord (l.getD i 0) = true) : okWords l = true := by
  refine List.all_eq_true.2 fun w hw => ?_
  obtain ⟨i, hi, rfl⟩ := List.getElem_of_mem hw
  simpa [List.getD_eq_getElem?_getD, hi] using h i hi
theorem okWords_take {l : List Int} (h : okWords l = true) (k : Nat) : okWords (l.take k) = true := List.all_eq_true.2 fun w hw => List.all_eq_true.1 h w (List.mem_of_mem_take hw)
theorem okWords_drop {l : List Int} (h : okWords l = true) (k : Nat) : okWords (l.drop k) = true := List.all_eq_true.2 fun w hw => List.all_eq_true.1 h w (List.mem_of_mem_drop hw)

theorem ext_getD {a b : List Int} (hl : a.length = b.length) (h : ∀ i, i < a.length → a.getD i 0 = b.getD i 0) : a = b := by
  refine List.ext_getElem hl fun i h1 h2 => ?_
  have := h i h1
  simpa [List.getD_eq_getElem?_getD, h1, h2] using this

theorem set_getD (l : List Int) (j i : Nat) (x : Int) : (l.set j x).getD i 0 = if i = j ∧ j < l.length then x else l.getD i 0 := by
  simp only [List.getD_eq_getElem?_getD, List.getElem?_set]
  by_cases e : j = i
  · subst e
    by_cases hl : j < l.length
    · simp [hl]
    · simp [hl]
  · rw [if_neg e, if_neg (fun h => e h.1.symm)]

theorem applyCh_append (a b : List Change) (ws : List Int) : applyCh ws (a ++ b) = applyCh (applyCh ws a) b := by simp [applyCh, List.foldl_append]
theorem applyCh_cons (c : Change) (cs : List Change) (ws : List Int) : applyCh ws (c :: cs) = applyCh (ws.set c.at_.toNat (fnwApp c.word (ws.getD c.at_.toNat 0))) cs := rfl

/-- What is programmed, word by word. -/
theorem burn_at : ∀ (l : List Int) (a : Int) (ws : List Int), 0 ≤ a → a + (l.length : Nat) ≤ (ws.length : Nat) → ∀ i : Nat,
    (applyCh ws (burnCh a l)).getD i 0 = if a ≤ i ∧ (i : Int) < a + (l.length : Nat) then andi (ws.getD i 0) (l.getD (i - a.toNat) 0) else ws.getD i 0
  | [], a, ws, h0, h1, i => by
    rw [if_neg (by simp only [List.length_nil]; omega)]; rfl
  | w :: l, a, ws, h0, h1, i => by
    simp only [List.length_cons] at h1 ⊢
    simp only [burnCh, applyCh_cons]
    rw [burn_at l (a + 1) _ (by omega) (by simp; omega) i, set_getD]
    by_cases c1 : i = a.toNat
    · rw [if_neg (by omega), if_pos ⟨c1, by omega⟩, if_pos (by omega)]
      subst c1
      simp [fnwApp]
    · have e1 : (if i = a.toNat ∧ a.toNat < ws.length then fnwApp (some w) (ws.getD a.toNat 0) else ws.getD i 0) = ws.getD i 0 := if_neg (by omega)
      rw [e1]
      by_cases c2 : a + 1 ≤ i ∧ (i : Int) < a + 1 + (l.length : Nat)
      · rw [if_pos c2, if_pos (by omega)]
        congr 1
        rw [show i - a.toNat = (i - (a + 1).toNat) + 1 by omega, List.getD_cons_succ]
      · rw [if_neg c2, if_neg (by omega)]

theorem burn_ok {ws l : List Int} {a : Int} (h0 : 0 ≤ a) (h1 : a + (l.length : Nat) ≤ (ws.length : Nat)) (hw : okWords ws = true) (hl : okWords l = true) : okWords (applyCh ws (burnCh a l)) = true := by
  refine okWords_of fun i hi => ?_
  rw [applyCh_len] at hi
  rw [burn_at l a ws h0 h1]
  split
  · rename_i h
    exact okWord_andi (okWords_at hw i hi) (okWords_at hl _ (by omega))
  · exact okWords_at hw i hi

theorem burn_twice {ws l : List Int} {a : Int} (h0 : 0 ≤ a) (h1 : a + (l.length : Nat) ≤ (ws.length : Nat)) (hw : okWords ws = true) (hl : okWords l = true) : applyCh (applyCh ws (burnCh a l)) (burnCh a l) = applyCh ws (burnCh a l) := by
  refine ext_getD (applyCh_len _ _) fun i hi => ?_
  rw [applyCh_len, applyCh_len] at hi
  rw [burn_at l a _ h0 (by rw [applyCh_len]; exact h1), burn_at l a ws h0 h1]
  split
  · rename_i h
    exact andi_twice (okWords_at hw i hi) (okWords_at hl _ (by omega))
  · rfl

theorem burnCh_append : ∀ (l m : List Int) (a : Int), burnCh a (l ++ m) = burnCh a l ++ burnCh (a + (l.length : Nat)) m
  | [], m, a => by simp [burnCh]
  | w :: l, m, a => by
    simp only [List.cons_append, burnCh, burnCh_append l m, List.length_cons]
    rw [show a + 1 + (l.length : Int) = a + ((l.length + 1 : Nat) : Int) by omega]

theorem checkFlash_ok {f : Flash} (h : checkFlash f = 0) : okLen f.words.length = true ∧ -1 ≤ f.fuel ∧ f.fuel ≤ 100000 ∧ okWords f.words = true := by
  unfold checkFlash at h
  split at h
  · split at h
    · rename_i h1 h2
      simp only [Bool.and_eq_true, decide_eq_true_eq] at h2
      exact ⟨h1, h2.1.1, h2.1.2, h2.2⟩
    · cases h
  · cases h
theorem checkFlash_mk {f : Flash} (h1 : okLen f.words.length = true) (h2 : -1 ≤ f.fuel) (h3 : f.fuel ≤ 100000) (h4 : okWords f.words = true) : checkFlash f = 0 := by
  unfold checkFlash
  rw [if_pos h1, if_pos (by simp [h2, h3, h4])]
theorem okLen_le {n : Nat} (h : okLen n = true) : 32 ≤ n ∧ n ≤ 192 := by
  simp [okLen] at h; omega

/-- What programming did, if all is well. -/
theorem programF_ok {f : Flash} {a : Int} {l : List Int} (h1 : okLen f.words.length = true) (h2 : -1 ≤ f.fuel) (h3 : f.fuel ≤ 100000) (h4 : okWords f.words = true) (h5 : 0 ≤ a) (h6 : a + (l.length : Nat) ≤ (f.words.length : Nat)) (h7 : okWords l = true) :
    programF f a l = power (doCh f (burnCh a l)) := by
  unfold programF
  rw [if_pos (checkFlash_mk h1 h2 h3 h4), if_pos (by omega), if_pos h7]
theorem programF_inv {f : Flash} {a : Int} {l : List Int} (h : (programF f a l).2 = 0 ∨ (programF f a l).2 = 7) : okLen f.words.length = true ∧ -1 ≤ f.fuel ∧ f.fuel ≤ 100000 ∧ okWords f.words = true ∧ 0 ≤ a ∧ a + (l.length : Nat) ≤ (f.words.length : Nat) ∧ okWords l = true := by
  unfold programF at h
  by_cases c : checkFlash f = 0
  · rw [if_pos c] at h
    obtain ⟨k1, k2, k3, k4⟩ := checkFlash_ok c
    by_cases c2 : 0 ≤ a ∧ a ≤ (f.words.length : Int) ∧ (l.length : Int) ≤ f.words.length - a
    · rw [if_pos c2] at h
      by_cases c3 : okWords l = true
      · exact ⟨k1, k2, k3, k4, c2.1, by omega, c3⟩
      · rw [if_neg c3] at h; simp at h
    · rw [if_neg c2] at h; simp at h
  · rw [if_neg c] at h
    simp only at h
    rcases h with h | h
    · exact absurd h c
    · unfold checkFlash at h
      split at h
      · split at h <;> simp at h
      · simp at h
theorem doCh_free {ws : List Int} {cs : List Change} : doCh ⟨ws, -1⟩ cs = (⟨applyCh ws cs, -1⟩, true) := by simp [doCh]
theorem doCh_enough {ws : List Int} {fu : Int} {cs : List Change} (h : (cs.length : Int) ≤ fu) : doCh ⟨ws, fu⟩ cs = (⟨applyCh ws cs, fu - cs.length⟩, true) := by
  unfold doCh
  rw [if_neg (by simp; omega), if_pos (by simpa using h)]
theorem slc_take {α : Type} (l : List α) (k : Nat) : slc l 0 k = l.take k := by simp [slc]
theorem slc_drop {α : Type} (l : List α) (k : Nat) : slc l k l.length = l.drop k := by simp [slc]
theorem wipe_at : ∀ (n : Nat) (a : Int) (ws : List Int), 0 ≤ a → a + (n : Nat) ≤ (ws.length : Nat) → ∀ i : Nat,
    (applyCh ws (wipeFrom a n)).getD i 0 = if a ≤ i ∧ (i : Int) < a + (n : Nat) then 65535 else ws.getD i 0
  | 0, a, ws, h0, h1, i => by
    rw [if_neg (by omega)]; rfl
  | n + 1, a, ws, h0, h1, i => by
    simp only [wipeFrom, applyCh_cons]
    rw [wipe_at n (a + 1) _ (by omega) (by simp; omega) i, set_getD]
    by_cases c1 : i = a.toNat
    · rw [if_neg (by omega), if_pos ⟨c1, by omega⟩, if_pos (by omega)]; rfl
    · have e1 : (if i = a.toNat ∧ a.toNat < ws.length then fnwApp none (ws.getD a.toNat 0) else ws.getD i 0) = ws.getD i 0 := if_neg (by omega)
      rw [e1]
      by_cases c2 : a + 1 ≤ i ∧ (i : Int) < a + 1 + (n : Nat)
      · rw [if_pos c2, if_pos (by omega)]
      · rw [if_neg c2, if_neg (by omega)]
theorem wipe_ok {ws : List Int} {s : Int} (h0 : 0 ≤ s) (h1 : (s + 1) * 32 ≤ (ws.length : Nat)) (hw : okWords ws = true) : okWords (applyCh ws (wipeCh s)) = true := by
  refine okWords_of fun i hi => ?_
  rw [applyCh_len] at hi
  unfold wipeCh
  rw [wipe_at _ _ _ (by omega) (by omega)]
  split
  · rfl
  · exact okWords_at hw i hi
theorem burnCh_take : ∀ (l : List Int) (a : Int) (k : Nat), (burnCh a l).take k = burnCh a (l.take k)
  | [], _, _ => by simp [burnCh]
  | _ :: _, _, 0 => rfl
  | w :: l, a, k + 1 => by simp only [burnCh, List.take_succ_cons, burnCh_take l]
theorem eraseF_inv {f : Flash} {s : Int} (h : (eraseF f s).2 = 0 ∨ (eraseF f s).2 = 7) : checkFlash f = 0 ∧ 0 ≤ s ∧ (s + 1) * 32 ≤ (f.words.length : Nat) ∧ eraseF f s = power (doCh f (wipeCh s)) := by
  unfold eraseF at h ⊢
  by_cases c : checkFlash f = 0
  · rw [if_pos c] at h ⊢
    by_cases c2 : 0 ≤ s ∧ (s + 1) * 32 ≤ (f.words.length : Int)
    · rw [if_pos c2]; exact ⟨c, c2.1, c2.2, rfl⟩
    · rw [if_neg c2] at h; simp at h
  · rw [if_neg c] at h
    simp only at h
    rcases h with h | h
    · exact absurd h c
    · unfold checkFlash at h
      split at h
      · split at h <;> simp at h
      · simp at h
theorem slc_getD (l : List Int) (a b i : Nat) (h : a + i < b) : (slc l a b).getD i 0 = l.getD (a + i) 0 := by
  simp only [slc, List.getD_eq_getElem?_getD, List.getElem?_drop, List.getElem?_take]
  rw [if_pos h]
theorem power_len (r : Flash × Bool) : (power r).1.words.length = r.1.words.length := rfl
theorem eraseF_len (f : Flash) (s : Int) {n : Nat} (h : f.words.length ≤ n) : (eraseF f s).1.words.length ≤ n := by
  unfold eraseF
  split
  · split
    · rw [power_len, doCh_len]; exact h
    · exact Nat.zero_le _
  · exact Nat.zero_le _
theorem programF_len (f : Flash) (a : Int) (l : List Int) {n : Nat} (h : f.words.length ≤ n) : (programF f a l).1.words.length ≤ n := by
  unfold programF
  split
  · split
    · split
      · rw [power_len, doCh_len]; exact h
      · exact Nat.zero_le _
    · exact Nat.zero_le _
  · exact Nat.zero_le _
theorem wipe_in (n : Nat) : ∀ (m : Nat) (a : Int), 0 ≤ a → a + m ≤ n → inPlaces n (wipeFrom a m) = true
  | 0, _, _, _ => rfl
  | m + 1, a, h0, h1 => by
    have := wipe_in n m (a + 1) (by omega) (by omega)
    unfold inPlaces at this ⊢
    simp only [wipeFrom, List.all_cons, this, Bool.and_true]
    simp [h0]; omega
theorem burn_in (n : Nat) : ∀ (l : List Int) (a : Int), 0 ≤ a → a + (l.length : Nat) ≤ n → inPlaces n (burnCh a l) = true
  | [], _, _, _ => rfl
  | w :: l, a, h0, h1 => by
    simp only [List.length_cons] at h1
    have := burn_in n l (a + 1) (by omega) (by omega)
    unfold inPlaces at this ⊢
    simp only [burnCh, List.all_cons, this, Bool.and_true]
    simp [h0]; omega
end Vm
end Go.Proofs.Ytlbppjmekiemiaa

/- Plain answers and lemmas: slots. No condition. -/
namespace Go.Proofs.Ytlbppjmekiemiaa
namespace Vm

def checkSlot (f : Flash) (slot : Int) : Int :=
  if checkFlash f = 0 then (if f.words.length = 192 then (if slot = 0 ∨ slot = 1 then 0 else 5) else 4) else checkFlash f
def clearCh (slot : Int) : List Change := wipeCh (2 + 2 * slot) ++ wipeCh (3 + 2 * slot)
def clearS (f : Flash) (slot : Int) : Flash × Int :=
  if checkSlot f slot = 0 then power (doCh f (clearCh slot)) else (noFlash, checkSlot f slot)
def fillS (f : Flash) (slot at_ : Int) (l : List Int) : Flash × Int :=
  if checkSlot f slot = 0 then (if 0 ≤ at_ ∧ at_ ≤ 40 ∧ (l.length : Int) ≤ 40 - at_ then programF f (68 + 64 * slot + at_) l else (noFlash, 2)) else (noFlash, checkSlot f slot)
def okHead (long name : Int) : Bool := decide (1 ≤ long) && decide (long ≤ 40) && decide (1 ≤ name) && decide (name ≤ 60)
def headOf (long name : Int) : List Int := [long, name, 65535 - long, 65535 - name]
def sealS (f : Flash) (slot long name : Int) : Flash × Int :=
  if checkSlot f slot = 0 then (if okHead long name then programF f (64 + 64 * slot) (headOf long name) else (noFlash, 3)) else (noFlash, checkSlot f slot)
def bodyS (f : Flash) (slot n : Int) : List Int × Int :=
  if checkSlot f slot = 0 then (if 0 ≤ n ∧ n ≤ 40 then (slc f.words (68 + 64 * slot).toNat (68 + 64 * slot + n).toNat, 0) else ([], 2)) else ([], checkSlot f slot)
/-- The head at a place says that the slot is sealed. -/
def sealedAt (ws : List Int) (b : Nat) : Bool :=
  okHead (ws.getD b 0) (ws.getD (b + 1) 0) && decide (ws.getD (b + 2) 0 = 65535 - ws.getD b 0) && decide (ws.getD (b + 3) 0 = 65535 - ws.getD (b + 1) 0)
def beginS (slot : Int) : Nat := (64 + 64 * slot).toNat
def imageR (ws : List Int) (slot : Int) : List Int × Int :=
  if sealedAt ws (beginS slot) then (slc ws (beginS slot + 4) (beginS slot + 4 + (ws.getD (beginS slot) 0).toNat), ws.getD (beginS slot + 1) 0) else ([], 0)
def imageS (f : Flash) (slot : Int) : List Int × Int × Int :=
  if checkSlot f slot = 0 then ((imageR f.words slot).1, (imageR f.words slot).2, if sealedAt f.words (beginS slot) then 0 else 4) else ([], 0, checkSlot f slot)

theorem doCh_short {ws : List Int} {fu : Int} {cs : List Change} (h : ¬ (cs.length : Int) ≤ fu) (h0 : 0 ≤ fu) : doCh ⟨ws, fu⟩ cs = (⟨applyCh ws (cs.take fu.toNat), 0⟩, false) := by
  unfold doCh
  rw [if_neg (by simp only; omega), if_neg (by simpa using h)]
theorem doCh_append (f : Flash) (a b : List Change) : doCh f (a ++ b) = if (doCh f a).2 then doCh (doCh f a).1 b else doCh f a := by
  obtain ⟨ws, fu⟩ := f
  by_cases h1 : fu < 0
  · have e : ∀ (vs : List Int) (cs : List Change), doCh ⟨vs, fu⟩ cs = (⟨applyCh vs cs, fu⟩, true) := fun vs cs => by simp [doCh, h1]
    rw [e, e, if_pos rfl, e, applyCh_append]
  · by_cases h2 : (a.length : Int) ≤ fu
    · rw [doCh_enough (cs := a) h2, if_pos rfl]
      by_cases h3 : (b.length : Int) ≤ fu - a.length
      · rw [doCh_enough (cs := b) h3, doCh_enough (by rw [List.length_append]; omega), applyCh_append, List.length_append]
        rw [show fu - ((a.length + b.length : Nat) : Int) = fu - a.length - b.length by omega]
      · rw [doCh_short (by rw [List.length_append]; omega) (by omega), doCh_short (by omega) (by omega)]
        rw [show fu.toNat = a.length + (fu - a.length).toNat by omega, List.take_length_add_append, applyCh_append]
    · rw [doCh_short (by rw [List.length_append]; omega) (by omega), doCh_short (cs := a) (by omega) (by omega), List.take_append_of_le_length (by omega)]
      rfl
theorem xori_nat (n : Nat) (hn : n < 65536) : xori 65535 (n : Int) = 65535 - (n : Int) := by
  have h1 : (65535 : Nat) ^^^ n = 65535 - n := by
    have : BitVec.ofNat 16 65535 ^^^ BitVec.ofNat 16 n = BitVec.ofNat 16 65535 - BitVec.ofNat 16 n := by
      have := BitVec.not_eq_neg_add (BitVec.ofNat 16 n)
      rw [show BitVec.ofNat 16 65535 = BitVec.allOnes 16 from rfl, BitVec.allOnes_xor, BitVec.allOnes_sub_eq_not]
    have := congrArg BitVec.toNat this
    rw [BitVec.toNat_xor, BitVec.toNat_sub, BitVec.toNat_ofNat, BitVec.toNat_ofNat] at this
    rw [Nat.mod_eq_of_lt (show 65535 < 2 ^ 16 by decide), Nat.mod_eq_of_lt (show n < 2 ^ 16 by omega)] at this
    omega
  have e : (BitVec.ofInt 64 65535 ^^^ BitVec.ofInt 64 (n : Int)).toNat = 65535 - n := by
    rw [BitVec.toNat_xor]
    have a2 : (BitVec.ofInt 64 (n : Int)).toNat = n := by rw [BitVec.ofInt_natCast, BitVec.toNat_ofNat]; omega
    rw [a2, show (BitVec.ofInt 64 65535).toNat = 65535 from rfl, h1]
  unfold xori
  rw [e, w64_id (by omega) (by omega)]; omega
theorem xori_int {a : Int} (h0 : 0 ≤ a) (h1 : a ≤ 65535) : xori 65535 a = 65535 - a := by
  obtain ⟨n, rfl⟩ := Int.eq_ofNat_of_zero_le h0
  exact xori_nat n (by omega)
theorem checkSlot_ok {f : Flash} {slot : Int} (h : checkSlot f slot = 0) : checkFlash f = 0 ∧ f.words.length = 192 ∧ (slot = 0 ∨ slot = 1) := by
  unfold checkSlot at h
  split at h
  · rename_i h1
    split at h
    · rename_i h2
      split at h
      · rename_i h3; exact ⟨h1, h2, h3⟩
      · cases h
    · cases h
  · exact absurd h ‹_›
theorem checkFlash_is (f : Flash) : checkFlash f = 0 ∨ checkFlash f = 3 ∨ checkFlash f = 4 := by
  unfold checkFlash
  split
  · split
    · exact .inl rfl
    · exact .inr (.inl rfl)
  · exact .inr (.inr rfl)
theorem doCh_fuel (f : Flash) (cs : List Change) (h1 : -1 ≤ f.fuel) (h2 : f.fuel ≤ 100000) : -1 ≤ (doCh f cs).1.fuel ∧ (doCh f cs).1.fuel ≤ 100000 := by
  unfold doCh
  split
  · exact ⟨h1, h2⟩
  · split
    · simp only; omega
    · simp only; omega
theorem okWord_range {w : Int} (h : okWord w = true) : 0 ≤ w ∧ w ≤ 65535 := by
  simpa only [okWord, Bool.and_eq_true, decide_eq_true_eq] using h
theorem slc_slc (l : List Int) (a b c d : Nat) (h : a + d ≤ b) : slc (slc l a b) c d = slc l (a + c) (a + d) := by
  simp only [slc, List.take_drop, List.drop_drop, List.take_take]
  rw [Nat.min_eq_left h]
theorem clearS_len (f : Flash) (s : Int) {n : Nat} (h : f.words.length ≤ n) : (clearS f s).1.words.length ≤ n := by
  unfold clearS
  split
  · rw [power_len, doCh_len]; exact h
  · exact Nat.zero_le _
theorem fillS_len (f : Flash) (s a : Int) (l : List Int) {n : Nat} (h : f.words.length ≤ n) : (fillS f s a l).1.words.length ≤ n := by
  unfold fillS
  split
  · split
    · exact programF_len _ _ _ h
    · exact Nat.zero_le _
  · exact Nat.zero_le _
theorem sealS_len (f : Flash) (s a b : Int) {n : Nat} (h : f.words.length ≤ n) : (sealS f s a b).1.words.length ≤ n := by
  unfold sealS
  split
  · split
    · exact programF_len _ _ _ h
    · exact Nat.zero_le _
  · exact Nat.zero_le _
theorem slc_le {α : Type} (l : List α) (a b : Nat) {n : Nat} (h : l.length ≤ n) : (slc l a b).length ≤ n := by
  simp only [slc, List.length_drop, List.length_take]; omega
theorem imageR_len (ws : List Int) (s : Int) {n : Nat} (h : ws.length ≤ n) : (imageR ws s).1.length ≤ n := by
  unfold imageR
  split
  · exact slc_le _ _ _ h
  · exact Nat.zero_le _
theorem sealedAt_ok {ws : List Int} {b : Nat} (h : sealedAt ws b = true) : 1 ≤ ws.getD b 0 ∧ ws.getD b 0 ≤ 40 ∧ 1 ≤ ws.getD (b + 1) 0 ∧ ws.getD (b + 1) 0 ≤ 60 ∧ ws.getD (b + 2) 0 = 65535 - ws.getD b 0 ∧ ws.getD (b + 3) 0 = 65535 - ws.getD (b + 1) 0 := by
  simp only [sealedAt, okHead, Bool.and_eq_true, decide_eq_true_eq] at h; omega
end Vm
end Go.Proofs.Ytlbppjmekiemiaa

/- Plain lemmas: what changes leave alone. No condition. -/
namespace Go.Proofs.Ytlbppjmekiemiaa
namespace Vm

/-- The changes are between these places. -/
def within (a b : Int) (cs : List Change) : Bool := cs.all fun c => decide (a ≤ c.at_) && decide (c.at_ < b)
theorem within_nil (a b : Int) : within a b [] = true := rfl
theorem within_append {a b : Int} {xs ys : List Change} (h1 : within a b xs = true) (h2 : within a b ys = true) : within a b (xs ++ ys) = true := by
  unfold within at *; rw [List.all_append, h1, h2]; rfl
theorem within_take {a b : Int} {xs : List Change} (h : within a b xs = true) (k : Nat) : within a b (xs.take k) = true :=
  List.all_eq_true.2 fun c hc => List.all_eq_true.1 h c (List.mem_of_mem_take hc)
theorem within_wipe (a b : Int) : ∀ (n : Nat) (p : Int), a ≤ p → p + (n : Nat) ≤ b → within a b (wipeFrom p n) = true
  | 0, _, _, _ => rfl
  | n + 1, p, h0, h1 => by
    have := within_wipe a b n (p + 1) (by omega) (by omega)
    unfold within at this ⊢
    simp only [wipeFrom, List.all_cons, this, Bool.and_true, Bool.and_eq_true, decide_eq_true_eq]
    omega
theorem within_burn (a b : Int) : ∀ (l : List Int) (p : Int), a ≤ p → p + (l.length : Nat) ≤ b → within a b (burnCh p l) = true
  | [], _, _, _ => rfl
  | w :: l, p, h0, h1 => by
    simp only [List.length_cons] at h1
    have := within_burn a b l (p + 1) (by omega) (by omega)
    unfold within at this ⊢
    simp only [burnCh, List.all_cons, this, Bool.and_true, Bool.and_eq_true, decide_eq_true_eq]
    omega
theorem applyCh_out {a b : Int} (h0 : 0 ≤ a) : ∀ (cs : List Change) (ws : List Int), within a b cs = true → ∀ i : Nat, (i : Int) < a ∨ b ≤ i → (applyCh ws cs).getD i 0 = ws.getD i 0
  | [], _, _, _, _ => rfl
  | c :: cs, ws, h, i, hi => by
    unfold within at h
    simp only [List.all_cons, Bool.and_eq_true, decide_eq_true_eq] at h
    rw [applyCh_cons, applyCh_out h0 cs _ (by unfold within; simpa using h.2) i hi, set_getD, if_neg (by omega)]
theorem doCh_out {a b : Int} (h0 : 0 ≤ a) (f : Flash) (cs : List Change) (h : within a b cs = true) (i : Nat) (hi : (i : Int) < a ∨ b ≤ i) : (doCh f cs).1.words.getD i 0 = f.words.getD i 0 := by
  unfold doCh
  split
  · exact applyCh_out h0 _ _ h i hi
  · split
    · exact applyCh_out h0 _ _ h i hi
    · exact applyCh_out h0 _ _ (within_take h _) i hi
/-- Two lists of words that are alike outside of some places. -/
def AlikeOut (a b : Nat) (xs ws : List Int) : Prop := xs.length = ws.length ∧ ∀ i : Nat, i < a ∨ b ≤ i → xs.getD i 0 = ws.getD i 0
theorem alikeOut_doCh {a b : Nat} (f : Flash) (cs : List Change) (h : within a b cs = true) : AlikeOut a b (doCh f cs).1.words f.words :=
  ⟨doCh_len f cs, fun i hi => doCh_out (by omega) f cs h i (by omega)⟩
theorem slc_alike {xs ws : List Int} (c d : Nat) (hl : xs.length = ws.length) (h : ∀ i, c ≤ i → i < d → xs.getD i 0 = ws.getD i 0) : slc xs c d = slc ws c d := by
  refine ext_getD (by simp [slc, hl]) fun i hi => ?_
  have hi : c + i < d := by simp [slc] at hi; omega
  rw [slc_getD _ _ _ _ hi, slc_getD _ _ _ _ hi]
  exact h _ (by omega) hi
theorem checkSlot_is (f : Flash) (s : Int) : checkSlot f s = 0 ∨ checkSlot f s = 3 ∨ checkSlot f s = 4 ∨ checkSlot f s = 5 := by
  have := checkFlash_is f
  unfold checkSlot
  split
  · split
    · split
      · exact .inl rfl
      · exact .inr (.inr (.inr rfl))
    · exact .inr (.inr (.inl rfl))
  · omega
theorem checkSlot_not {f : Flash} {s : Int} (h : ¬ checkSlot f s = 0) : ¬ (checkSlot f s = 0 ∨ checkSlot f s = 7) := by
  have := checkSlot_is f s
  omega
theorem clearS_out {f : Flash} {s : Int} (h : (clearS f s).2 = 0 ∨ (clearS f s).2 = 7) : checkSlot f s = 0 ∧ clearS f s = power (doCh f (clearCh s)) := by
  unfold clearS at h ⊢
  by_cases c : checkSlot f s = 0
  · rw [if_pos c]; exact ⟨c, rfl⟩
  · rw [if_neg c] at h
    exact absurd h (checkSlot_not c)
theorem sealS_out {f : Flash} {s n m : Int} (h : (sealS f s n m).2 = 0 ∨ (sealS f s n m).2 = 7) : checkSlot f s = 0 ∧ okHead n m = true ∧ sealS f s n m = programF f (64 + 64 * s) (headOf n m) := by
  unfold sealS at h ⊢
  by_cases c : checkSlot f s = 0
  · rw [if_pos c] at h ⊢
    by_cases c2 : okHead n m = true
    · rw [if_pos c2]; exact ⟨c, c2, rfl⟩
    · rw [if_neg c2] at h; simp at h
  · rw [if_neg c] at h
    exact absurd h (checkSlot_not c)
theorem fillS_out {f : Flash} {s a : Int} {l : List Int} (h : (fillS f s a l).2 = 0 ∨ (fillS f s a l).2 = 7) : checkSlot f s = 0 ∧ (0 ≤ a ∧ a ≤ 40 ∧ (l.length : Int) ≤ 40 - a) ∧ fillS f s a l = programF f (68 + 64 * s + a) l := by
  unfold fillS at h ⊢
  by_cases c : checkSlot f s = 0
  · rw [if_pos c] at h ⊢
    by_cases c2 : 0 ≤ a ∧ a ≤ 40 ∧ (l.length : Int) ≤ 40 - a
    · rw [if_pos c2]; exact ⟨c, c2, rfl⟩
    · rw [if_neg c2] at h; simp at h
  · rw [if_neg c] at h
    exact absurd h (checkSlot_not c)
theorem programF_out {f : Flash} {a : Int} {l : List Int} (h : (programF f a l).2 = 0 ∨ (programF f a l).2 = 7) : programF f a l = power (doCh f (burnCh a l)) := by
  obtain ⟨h1, h2, h3, h4, h5, h6, h7⟩ := programF_inv h
  exact programF_ok h1 h2 h3 h4 h5 h6 h7
theorem doCh_weak (es m : List Int) (a : Int) (q : Nat) : doCh ⟨es, (q : Int)⟩ (burnCh a m) = (⟨applyCh es (burnCh a (m.take q)), if m.length ≤ q then (q : Int) - m.length else 0⟩, decide (m.length ≤ q)) := by
  unfold doCh
  rw [if_neg (by simp only; omega), burnCh_len]
  by_cases c : m.length ≤ q
  · rw [if_pos (by simp only; omega), List.take_of_length_le c, if_pos c]; simp [c]
  · rw [if_neg (by simp only; omega), burnCh_take, toNat_nat, if_neg c]; simp [c]
theorem beginS_nat (t : Nat) : beginS (t : Int) = 64 + 64 * t := by unfold beginS; omega
theorem image_alike {xs ws : List Int} {t : Nat} (hl : xs.length = ws.length) (h : ∀ i, 64 + 64 * t ≤ i → i < 128 + 64 * t → xs.getD i 0 = ws.getD i 0) :
    sealedAt xs (beginS t) = sealedAt ws (beginS t) ∧ imageR xs t = imageR ws t := by
  have e0 := h (64 + 64 * t) (by omega) (by omega)
  have e1 := h (64 + 64 * t + 1) (by omega) (by omega)
  have e2 := h (64 + 64 * t + 2) (by omega) (by omega)
  have e3 := h (64 + 64 * t + 3) (by omega) (by omega)
  have es : sealedAt xs (beginS t) = sealedAt ws (beginS t) := by
    rw [beginS_nat]; unfold sealedAt; rw [e0, e1, e2, e3]
  refine ⟨es, ?_⟩
  unfold imageR
  rw [es]
  cases c : sealedAt ws (beginS t)
  · rfl
  · have := sealedAt_ok c
    rw [beginS_nat] at this ⊢
    rw [e0, e1]
    simp only [if_true]
    congr 1
    exact slc_alike _ _ hl (fun i h1 h2 => h i (by omega) (by omega))
theorem imageS_alike {xs ws : List Int} {fx fw : Int} {t : Nat} (h1 : checkSlot ⟨xs, fx⟩ t = 0) (h2 : checkSlot ⟨ws, fw⟩ t = 0) (hl : xs.length = ws.length) (h : ∀ i, 64 + 64 * t ≤ i → i < 128 + 64 * t → xs.getD i 0 = ws.getD i 0) :
    imageS ⟨xs, fx⟩ t = imageS ⟨ws, fw⟩ t := by
  obtain ⟨e1, e2⟩ := image_alike hl h
  unfold imageS
  rw [if_pos h1, if_pos h2, e1, e2]
theorem checkSlot_mk {ws : List Int} {fu : Int} {t : Nat} (h1 : ws.length = 192) (h2 : -1 ≤ fu) (h3 : fu ≤ 100000) (h4 : okWords ws = true) (ht : t ≤ 1) : checkSlot ⟨ws, fu⟩ t = 0 := by
  unfold checkSlot
  rw [if_pos (checkFlash_mk (by simp only; rw [h1]; rfl) h2 h3 h4), if_pos h1, if_pos (by omega)]
theorem take_piece (m : List Int) (k : Nat) (hk : k ≤ m.length) : m.take (k + 8) = m.take k ++ slc m k (min m.length (k + 8)) := by
  unfold slc
  rw [List.take_eq_take_min (i := k + 8), Nat.min_comm]
  conv => lhs; rw [← List.take_append_drop k (m.take (min m.length (k + 8)))]
  rw [List.take_take, Nat.min_eq_left (by omega)]
/-- A slot that was cleared. -/
theorem clear_at {ws : List Int} {t : Nat} (hl : ws.length = 192) (ht : t ≤ 1) (hw : okWords ws = true) :
    okWords (applyCh ws (clearCh t)) = true ∧ (∀ i, 64 + 64 * t ≤ i → i < 128 + 64 * t → (applyCh ws (clearCh t)).getD i 0 = 65535) ∧ ∀ i, i < 64 + 64 * t ∨ 128 + 64 * t ≤ i → (applyCh ws (clearCh t)).getD i 0 = ws.getD i 0 := by
  have e : applyCh ws (clearCh t) = applyCh (applyCh ws (wipeCh (2 + 2 * (t : Int)))) (wipeCh (3 + 2 * (t : Int))) := applyCh_append _ _ _
  have l1 : (applyCh ws (wipeCh (2 + 2 * (t : Int)))).length = 192 := (applyCh_len _ _).trans hl
  refine ⟨?_, fun i h1 h2 => ?_, fun i hi => ?_⟩
  · rw [e]
    exact wipe_ok (by omega) (by omega) (wipe_ok (by omega) (by omega) hw)
  · rw [e]
    unfold wipeCh at l1 ⊢
    rw [wipe_at _ _ _ (by omega) (by omega)]
    split
    · rfl
    · rw [wipe_at _ _ _ (by omega) (by omega), if_pos (by omega)]
  · refine applyCh_out (a := 64 + 64 * (t : Int)) (b := 128 + 64 * (t : Int)) (by omega) _ _ ?_ i (by omega)
    unfold clearCh wipeCh
    exact within_append (within_wipe _ _ _ _ (by omega) (by omega)) (within_wipe _ _ _ _ (by omega) (by omega))
end Vm
end Go.Proofs.Ytlbppjmekiemiaa
