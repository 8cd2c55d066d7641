/- Plain answers of the functions, and plain lemmas on them. No condition. -/
import Derived.Test.YtlbppjmekiemiacDoorVmd
import Derived.IntWalk
import Derived.Lib.ItoaNum
import Derived.Lib.Join
import Derived.KernelRfl
import Derived.Lib.SplitLaws
import Derived.Lib.AtoiAll
import Derived.Lib.ParseIntB
import Derived.Lib.IndexMore
/- Plain answers: flash. No condition. -/
namespace Go.Proofs.YtlbppjmekiemiacDoor
namespace Vm

def okWord (w : Int) : Bool := decide (0 ≤ w) && decide (w ≤ 65535)
def okWords (l : List Int) : Bool := l.all okWord
/-- The place of the first word that is none; -1. -/
def firstBadFrom (k : Int) : List Int → Int
  | [] => -1
  | w :: l => if okWord w then firstBadFrom (k + 1) l else k
def firstBad (l : List Int) : Int := firstBadFrom 0 l
end Vm
end Go.Proofs.YtlbppjmekiemiacDoor

/- Plain lemmas for the conditions of runs. No condition. -/
namespace Go.Proofs.YtlbppjmekiemiacDoor
namespace Vm

theorem w64_id {n : Int} (h1 : -9223372036854775808 ≤ n) (h2 : n ≤ 9223372036854775807) : w64 n = n := by
  unfold w64 IntKind.wrap
  simp only [IntKind.signed, IntKind.bits]
  simp
  omega

theorem lti_true {a b : Int} : lti a b = true ↔ a < b := by simp [lti]
theorem lti_false {a b : Int} : lti a b = false ↔ b ≤ a := by simp [lti]
theorem lei_true {a b : Int} : lei a b = true ↔ a ≤ b := by simp [lei]
theorem lei_false {a b : Int} : lei a b = false ↔ b < a := by simp [lei]
theorem eqi_true {a b : Int} : eqi a b = true ↔ a = b := by simp [eqi]
theorem eqi_false {a b : Int} : eqi a b = false ↔ a ≠ b := by simp [eqi]
theorem eqs_true {a b : List UInt8} : eqs a b = true ↔ a = b := by simp [eqs]
theorem eqs_false {a b : List UInt8} : eqs a b = false ↔ a ≠ b := by simp [eqs]
theorem not_true {b : Bool} : (!b) = true ↔ b = false := by cases b <;> simp
theorem not_false {b : Bool} : (!b) = false ↔ b = true := by cases b <;> simp
theorem br_t {b : Bool} {p q : Prop} (h : b = true) (hp : p) : br b p q := by subst h; exact hp
theorem br_f {b : Bool} {p q : Prop} (h : b = false) (hq : q) : br b p q := by subst h; exact hq
theorem br_split {b : Bool} {p q : Prop} (hp : b = true → p) (hq : b = false → q) : br b p q := by cases b; exact hq rfl; exact hp rfl
theorem len_eq {α : Type} (l : List α) : len l = l.length := rfl
theorem lt_t {a b : Int} {p q : Prop} (h : a < b) (hp : p) : br (lti a b) p q := br_t (lti_true.2 h) hp
theorem lt_f {a b : Int} {p q : Prop} (h : b ≤ a) (hq : q) : br (lti a b) p q := br_f (lti_false.2 h) hq
theorem lt_s {a b : Int} {p q : Prop} (hp : a < b → p) (hq : b ≤ a → q) : br (lti a b) p q := br_split (fun h => hp (lti_true.1 h)) (fun h => hq (lti_false.1 h))
theorem eq_t {a b : Int} {p q : Prop} (h : a = b) (hp : p) : br (eqi a b) p q := br_t (eqi_true.2 h) hp
theorem eq_s {a b : Int} {p q : Prop} (hp : a = b → p) (hq : a ≠ b → q) : br (eqi a b) p q := br_split (fun h => hp (eqi_true.1 h)) (fun h => hq (eqi_false.1 h))
theorem ne_t {a b : Int} {p q : Prop} (h : a ≠ b) (hp : p) : br (!eqi a b) p q := br_t (not_true.2 (eqi_false.2 h)) hp
theorem ne_f {a b : Int} {p q : Prop} (h : a = b) (hq : q) : br (!eqi a b) p q := br_f (not_false.2 (eqi_true.2 h)) hq
theorem ne_s {a b : Int} {p q : Prop} (hp : a ≠ b → p) (hq : a = b → q) : br (!eqi a b) p q := br_split (fun h => hp (eqi_false.1 (not_true.1 h))) (fun h => hq (eqi_true.1 (not_false.1 h)))
theorem nt_s {b : Bool} {p q : Prop} (hp : b = false → p) (hq : b = true → q) : br (!b) p q := br_split (fun h => hp (not_true.1 h)) (fun h => hq (not_false.1 h))
theorem nt_t {b : Bool} {p q : Prop} (h : b = false) (hp : p) : br (!b) p q := br_t (not_true.2 h) hp
theorem nt_f {b : Bool} {p q : Prop} (h : b = true) (hq : q) : br (!b) p q := br_f (not_false.2 h) hq
theorem drop_step {α : Type} {l : List α} {k : Nat} (h : k < l.length) (d : α) : l.drop k = nth l k d :: l.drop (k + 1) := by
  rw [List.drop_eq_getElem_cons h]
  simp [nth, List.getD_eq_getElem?_getD, h]
/-- No longer than memory holds. -/
def Sm {α : Type} (l : List α) : Prop := l.length ≤ 140737488355328
theorem toNat_nat (n : Nat) : Int.toNat (n : Int) = n := rfl
theorem w64_succ {k : Nat} (h : k < 9223372036854775807) : w64 ((k : Int) + 1) = ((k + 1 : Nat) : Int) := by rw [w64_id (by omega) (by omega)]; omega
theorem take_step {α : Type} {l : List α} {k : Nat} (h : k < l.length) (d : α) : l.take (k + 1) = l.take k ++ [nth l k d] := by
  rw [List.take_succ_eq_append_getElem h]
  simp [nth, List.getD_eq_getElem?_getD, h]
theorem all_take_step {α : Type} {p : α → Bool} {l : List α} {k : Nat} (h : k < l.length) (d : α) (ht : (l.take k).all p = true) (hd : p (nth l k d) = true) : (l.take (k + 1)).all p = true := by
  rw [take_step h d, List.all_append, ht]; simp [hd]
theorem all_false {α : Type} {p : α → Bool} {l : List α} {k : Nat} (h : k < l.length) (d : α) (hd : p (nth l k d) = false) : l.all p = false := by
  rw [← List.take_append_drop k l, List.all_append, drop_step h d]; simp [hd]
end Vm
end Go.Proofs.YtlbppjmekiemiacDoor

/- Plain lemmas on flash. No condition. -/
namespace Go.Proofs.YtlbppjmekiemiacDoor
namespace Vm

theorem slc_take {α : Type} (l : List α) (k : Nat) : slc l 0 k = l.take k := by simp [slc]
end Vm
end Go.Proofs.YtlbppjmekiemiacDoor

/- Plain answers and lemmas: slots. No condition. -/
namespace Go.Proofs.YtlbppjmekiemiacDoor
namespace Vm

theorem okWord_range {w : Int} (h : okWord w = true) : 0 ≤ w ∧ w ≤ 65535 := by
  simpa only [okWord, Bool.and_eq_true, decide_eq_true_eq] using h
end Vm
end Go.Proofs.YtlbppjmekiemiacDoor

/- Plain lemmas: what changes leave alone. No condition. -/
namespace Go.Proofs.YtlbppjmekiemiacDoor
namespace Vm

end Vm
end Go.Proofs.YtlbppjmekiemiacDoor

/- Plain answers: the log. No condition. -/
namespace Go.Proofs.YtlbppjmekiemiacDoor
namespace Vm

end Vm
end Go.Proofs.YtlbppjmekiemiacDoor

/- Plain laws: the log, wherever the power goes. No condition. -/
namespace Go.Proofs.YtlbppjmekiemiacDoor
namespace Vm

/- scanning -/
/- what the log looks at -/
end Vm
end Go.Proofs.YtlbppjmekiemiacDoor

/- Plain laws: what appending leaves, wherever the power goes. No condition. -/
namespace Go.Proofs.YtlbppjmekiemiacDoor
namespace Vm

end Vm
end Go.Proofs.YtlbppjmekiemiacDoor

/- Plain laws: appending, joined. No condition. -/
namespace Go.Proofs.YtlbppjmekiemiacDoor
namespace Vm

end Vm
end Go.Proofs.YtlbppjmekiemiacDoor

/- Plain answers: texts. No condition. -/
namespace Go.Proofs.YtlbppjmekiemiacDoor
namespace Vm

/-- So many decimal digits at most. -/
def digs : Nat → Nat → List UInt8
  | 0, _ => []
  | f + 1, u => if u < 10 then [UInt8.ofNat (48 + u)] else digs f (u / 10) ++ [UInt8.ofNat (48 + u % 10)]
/-- The text of a number that is no less than 0. -/
def numT (n : Int) : List UInt8 := digs 20 n.toNat
theorem digs_eq : ∀ (f u : Nat), u < 10 ^ f → 0 < f → Go.Lib.decDigits u = digs f u
  | 0, _, _, h => absurd h (by omega)
  | f + 1, u, hu, _ => by
    rw [Go.Lib.decDigits]
    by_cases c : u < 10
    · rw [dif_pos c]; simp [digs, c]
    · rw [dif_neg c]
      have h1 : u / 10 < 10 ^ f := by
        rw [Nat.pow_succ] at hu
        exact Nat.div_lt_of_lt_mul (by omega)
      have h2 : 0 < f := by
        cases f with
        | zero => simp at h1; omega
        | succ f => omega
      rw [digs_eq f (u / 10) h1 h2]
      simp [digs, c]
theorem itoa_eq {n : Int} (h0 : 0 ≤ n) (h1 : n ≤ 9223372036854775807) : Go.Lib.itoa n = numT n := by
  unfold Go.Lib.itoa numT
  rw [if_neg (by omega)]
  exact digs_eq 20 _ (by omega) (by omega)
def joinT (sep : List UInt8) : List (List UInt8) → List UInt8
  | [] => []
  | x :: xs => match xs with
    | [] => x
    | _ :: _ => x ++ sep ++ joinT sep xs
theorem join_eq (sep : List UInt8) : ∀ xs, Go.Lib.join xs sep = joinT sep xs
  | [] => rfl
  | [x] => by simp [Go.Lib.join, List.intercalate, joinT]
  | x :: y :: xs => by
    have := join_eq sep (y :: xs)
    simp only [Go.Lib.join, List.intercalate, joinT] at this ⊢
    rw [← this]
    simp [List.intersperse]
def indexFrom (k : Int) (s : List UInt8) : List (List UInt8) → Int
  | [] => -1
  | x :: r => if x = s then k else indexFrom (k + 1) s r
def indexS (s : List UInt8) (l : List (List UInt8)) : Int := indexFrom 0 s l
def hasS (s : List UInt8) (l : List (List UInt8)) : Bool := l.any fun x => decide (x = s)
/-- What speaks against a book, of which these texts were looked at. -/
def bookFrom (seen : List (List UInt8)) : List (List UInt8) → Int
  | [] => 0
  | s :: r => if 2000 < s.length then 2 else if hasS s seen then 6 else bookFrom (seen ++ [s]) r
def checkBook (l : List (List UInt8)) : Int := if 60 < l.length then 2 else bookFrom [] l
def nameB (l : List (List UInt8)) (s : List UInt8) : Int × Int := if checkBook l = 0 then (indexS s l + 1, 0) else (0, checkBook l)
def nums (l : List Int) : Bool := l.all fun n => decide (0 ≤ n) && decide (n ≤ 9223372036854775807)
def listT (l : List Int) : List UInt8 := joinT [32] (l.map numT)
theorem digs_len : ∀ f u, (digs f u).length ≤ f
  | 0, _ => by simp [digs]
  | f + 1, u => by
    simp only [digs]
    split
    · simp
    · have := digs_len f (u / 10)
      simp; omega
theorem numT_len (n : Int) : (numT n).length ≤ 20 := digs_len _ _
theorem joinT_len (sep : List UInt8) (m : Nat) : ∀ xs : List (List UInt8), (∀ x ∈ xs, x.length ≤ m) → (joinT sep xs).length ≤ xs.length * (m + sep.length)
  | [], _ => by simp [joinT]
  | [x], h => by have := h x (by simp); simp [joinT]; omega
  | x :: y :: xs, h => by
    have h1 := h x (by simp)
    have h2 := joinT_len sep m (y :: xs) (fun z hz => h z (by simp at hz ⊢; exact .inr hz))
    simp only [joinT, List.length_append, List.length_cons] at h2 ⊢
    rw [Nat.add_mul (xs.length + 1) 1]
    omega
theorem listT_len (l : List Int) : (listT l).length ≤ l.length * 21 := by
  have := joinT_len [32] 20 (l.map numT) (fun x hx => by
    obtain ⟨n, _, rfl⟩ := List.mem_map.1 hx
    exact numT_len n)
  simpa [listT] using this
theorem indexFrom_range (s : List UInt8) : ∀ (l : List (List UInt8)) (k : Int), 0 ≤ k → indexFrom k s l = -1 ∨ (k ≤ indexFrom k s l ∧ indexFrom k s l < k + (l.length : Nat))
  | [], _, _ => .inl rfl
  | x :: r, k, hk => by
    simp only [indexFrom]
    split
    · exact .inr ⟨by omega, by simp only [List.length_cons]; omega⟩
    · rcases indexFrom_range s r (k + 1) (by omega) with h | h
      · exact .inl h
      · exact .inr ⟨by omega, by simp only [List.length_cons]; omega⟩
theorem indexS_has (s : List UInt8) (l : List (List UInt8)) : decide (0 ≤ indexS s l) = hasS s l := by
  have key : ∀ (l : List (List UInt8)) (k : Int), 0 ≤ k → decide (0 ≤ indexFrom k s l) = hasS s l := by
    intro l
    induction l with
    | nil => intro k _; rfl
    | cons x r ih =>
      intro k hk
      have ih' := ih (k + 1) (by omega)
      simp only [hasS, List.any_cons]
      by_cases c : x = s
      · have e : indexFrom k s (x :: r) = k := if_pos c
        rw [show decide (0 ≤ indexFrom k s (x :: r)) = true from decide_eq_true (by rw [e]; exact hk)]; simp [c]
      · have e : indexFrom k s (x :: r) = indexFrom (k + 1) s r := if_neg c
        rw [show decide (0 ≤ indexFrom k s (x :: r)) = decide (0 ≤ indexFrom (k + 1) s r) from by simp only [e], ih']; simp [c, hasS]
  exact key l 0 (by omega)
/-- The key is not behind the last one. -/
def notBehind (last : Option Int) (k : Int) : Bool := match last with
  | some p => decide (k ≤ p)
  | none => false
def rootEnd (e t n : Int) : Int := if e = 0 then (if t < 1 ∨ n < t then 4 else 0) else e
def keysFrom (last : Option Int) : List Int → Int
  | [] => 0
  | k :: r => if k < 1 ∨ 50 < k then 3 else if notBehind last k then 6 else keysFrom (some k) r
def checkRoot (v : Int) (ks : List Int) (t : Int) : Int :=
  if v < 1 ∨ 1000 < v then 3 else if ks.length = 0 ∨ 6 < ks.length then 2 else rootEnd (keysFrom none ks) t ks.length
def okTarget (i : Int) (t : Target) : Bool := decide (t.unit = i) && decide (1 ≤ t.image) && decide (t.image ≤ 60) && decide (1 ≤ t.long) && decide (t.long ≤ 40)
def okTargets (i : Int) : List Target → Bool
  | [] => true
  | t :: r => okTarget i t && okTargets (i + 1) r
def checkRelease (v u : Int) (ts : List Target) : Int :=
  if v < 1 ∨ 1000 < v ∨ u < 0 ∨ 100000 < u then 3 else if ts.length = 0 ∨ 4 < ts.length then 2 else if okTargets 0 ts then 0 else 3
def checkImage (w : List Int) : Int := if w.length = 0 ∨ 40 < w.length then 2 else if okWords w then 0 else 3
def rootText (v : Int) (ks : List Int) (t : Int) : List UInt8 := [114, 111, 111, 116, 32] ++ numT v ++ [32] ++ numT t ++ [32, 111, 102, 32] ++ listT ks
def targetT (t : Target) : List UInt8 := [59, 32] ++ listT [t.unit, t.image, t.long]
def targetsT (ts : List Target) : List UInt8 := ts.flatMap targetT
def releaseText (v u : Int) (ts : List Target) : List UInt8 := [114, 101, 108, 101, 97, 115, 101, 32] ++ numT v ++ [32, 117, 110, 116, 105, 108, 32] ++ numT u ++ targetsT ts
def imageText (w : List Int) : List UInt8 := [105, 109, 97, 103, 101, 32] ++ listT w
def rootTextE (v : Int) (ks : List Int) (t : Int) : List UInt8 × Int := if checkRoot v ks t = 0 then (rootText v ks t, 0) else ([], checkRoot v ks t)
def releaseTextE (v u : Int) (ts : List Target) : List UInt8 × Int := if checkRelease v u ts = 0 then (releaseText v u ts, 0) else ([], checkRelease v u ts)
def imageTextE (w : List Int) : List UInt8 × Int := if checkImage w = 0 then (imageText w, 0) else ([], checkImage w)
def imageName (l : List (List UInt8)) (w : List Int) : Int × Int := if checkImage w = 0 then nameB l (imageText w) else (0, checkImage w)
theorem keysFrom_ok : ∀ (ks : List Int) (last : Option Int), keysFrom last ks = 0 → nums ks = true
  | [], _, _ => rfl
  | k :: r, last, h => by
    simp only [keysFrom] at h
    by_cases c : k < 1 ∨ 50 < k
    · rw [if_pos c] at h; cases h
    · rw [if_neg c] at h
      by_cases c2 : notBehind last k = true
      · rw [if_pos c2] at h; cases h
      · rw [if_neg c2] at h
        have := keysFrom_ok r _ h
        unfold nums at this ⊢
        simp only [List.all_cons, this, Bool.and_true, Bool.and_eq_true, decide_eq_true_eq]; omega
theorem checkRoot_ok {v : Int} {ks : List Int} {t : Int} (h : checkRoot v ks t = 0) : 1 ≤ v ∧ v ≤ 1000 ∧ 1 ≤ t ∧ t ≤ (ks.length : Int) ∧ ks.length ≤ 6 ∧ nums ks = true := by
  unfold checkRoot at h
  by_cases c1 : v < 1 ∨ 1000 < v
  · rw [if_pos c1] at h; cases h
  rw [if_neg c1] at h
  by_cases c2 : ks.length = 0 ∨ 6 < ks.length
  · rw [if_pos c2] at h; cases h
  rw [if_neg c2] at h
  unfold rootEnd at h
  by_cases c3 : keysFrom none ks = 0
  · rw [if_pos c3] at h
    by_cases c4 : t < 1 ∨ (ks.length : Int) < t
    · rw [if_pos c4] at h; cases h
    · exact ⟨by omega, by omega, by omega, by omega, by omega, keysFrom_ok _ _ c3⟩
  · rw [if_neg c3] at h; exact absurd h c3
theorem okTargets_ok : ∀ (ts : List Target) (i : Int), okTargets i ts = true → 0 ≤ i → i + ts.length ≤ 1000 → ∀ t ∈ ts, 0 ≤ t.unit ∧ t.unit ≤ 1000 ∧ 0 ≤ t.image ∧ t.image ≤ 1000 ∧ 0 ≤ t.long ∧ t.long ≤ 1000
  | [], _, _, _, _, t, ht => by simp at ht
  | x :: r, i, h, h0, h1, t, ht => by
    simp only [okTargets, Bool.and_eq_true] at h
    simp only [List.length_cons] at h1
    rcases List.mem_cons.1 ht with rfl | ht
    · have := h.1
      simp only [okTarget, Bool.and_eq_true, decide_eq_true_eq] at this
      omega
    · exact okTargets_ok r (i + 1) h.2 (by omega) (by omega) t ht
theorem checkRelease_ok {v u : Int} {ts : List Target} (h : checkRelease v u ts = 0) : 1 ≤ v ∧ v ≤ 1000 ∧ 0 ≤ u ∧ u ≤ 100000 ∧ 1 ≤ ts.length ∧ ts.length ≤ 4 ∧ ∀ t ∈ ts, 0 ≤ t.unit ∧ t.unit ≤ 1000 ∧ 0 ≤ t.image ∧ t.image ≤ 1000 ∧ 0 ≤ t.long ∧ t.long ≤ 1000 := by
  unfold checkRelease at h
  by_cases c1 : v < 1 ∨ 1000 < v ∨ u < 0 ∨ 100000 < u
  · rw [if_pos c1] at h; cases h
  rw [if_neg c1] at h
  by_cases c2 : ts.length = 0 ∨ 4 < ts.length
  · rw [if_pos c2] at h; cases h
  rw [if_neg c2] at h
  by_cases c3 : okTargets 0 ts = true
  · exact ⟨by omega, by omega, by omega, by omega, by omega, by omega, okTargets_ok ts 0 c3 (by omega) (by omega)⟩
  · rw [if_neg c3] at h; cases h
theorem checkImage_ok {w : List Int} (h : checkImage w = 0) : 1 ≤ w.length ∧ w.length ≤ 40 ∧ okWords w = true := by
  unfold checkImage at h
  by_cases c1 : w.length = 0 ∨ 40 < w.length
  · rw [if_pos c1] at h; cases h
  rw [if_neg c1] at h
  by_cases c2 : okWords w = true
  · exact ⟨by omega, by omega, c2⟩
  · rw [if_neg c2] at h; cases h
theorem nums_of_words {w : List Int} (h : okWords w = true) : nums w = true := List.all_eq_true.2 fun n hn => by
  have := okWord_range (List.all_eq_true.1 h n hn)
  simp only [Bool.and_eq_true, decide_eq_true_eq]; omega
end Vm
end Go.Proofs.YtlbppjmekiemiacDoor

/- Plain laws: texts, further. No condition. -/
namespace Go.Proofs.YtlbppjmekiemiacDoor
namespace Vm

theorem joinT_snoc (sep y : List UInt8) : ∀ xs : List (List UInt8), xs ≠ [] → joinT sep (xs ++ [y]) = joinT sep xs ++ sep ++ y
  | [], h => absurd rfl h
  | [x], _ => by simp [joinT]
  | x :: z :: xs, _ => by
    have := joinT_snoc sep y (z :: xs) (by simp)
    simp only [List.cons_append, joinT] at this ⊢
    rw [this]; simp
theorem joinT_flat (sep : List UInt8) : ∀ (x : List UInt8) (xs : List (List UInt8)), joinT sep (x :: xs) = x ++ xs.flatMap (fun y => sep ++ y)
  | x, [] => by simp [joinT]
  | x, y :: ys => by
    have := joinT_flat sep y ys
    rw [show joinT sep (x :: y :: ys) = x ++ sep ++ joinT sep (y :: ys) from rfl, this]; simp
theorem listT_one (n : Int) : listT [n] = numT n := rfl
theorem listT_two (n m : Int) : listT [n, m] = numT n ++ [32] ++ numT m := rfl
theorem listT_snoc {l : List Int} {n : Int} (h : l ≠ []) : listT (l ++ [n]) = listT l ++ [32] ++ numT n := by
  unfold listT
  rw [List.map_append, List.map_cons, List.map_nil]
  exact joinT_snoc _ _ _ (by simpa using h)
theorem release_join (pre : List UInt8) (ts : List Target) : joinT [59, 32] (pre :: ts.map fun t => listT [t.unit, t.image, t.long]) = pre ++ targetsT ts := by
  rw [joinT_flat, List.flatMap_map]
  rfl
end Vm
end Go.Proofs.YtlbppjmekiemiacDoor

/- Plain answers: trust. No condition. -/
namespace Go.Proofs.YtlbppjmekiemiacDoor
namespace Vm

end Vm
end Go.Proofs.YtlbppjmekiemiacDoor

/- Plain laws: trust. No condition. -/
namespace Go.Proofs.YtlbppjmekiemiacDoor
namespace Vm

end Vm
end Go.Proofs.YtlbppjmekiemiacDoor

/- Plain answers: a unit. No condition. -/
namespace Go.Proofs.YtlbppjmekiemiacDoor
namespace Vm

end Vm
end Go.Proofs.YtlbppjmekiemiacDoor

/- Plain laws: a unit. No condition. -/
namespace Go.Proofs.YtlbppjmekiemiacDoor
namespace Vm

end Vm
end Go.Proofs.YtlbppjmekiemiacDoor

/- Plain laws: what a unit hears. No condition. -/
namespace Go.Proofs.YtlbppjmekiemiacDoor
namespace Vm

end Vm
end Go.Proofs.YtlbppjmekiemiacDoor

/- Plain laws: what a unit hears, once and again. No condition. -/
namespace Go.Proofs.YtlbppjmekiemiacDoor
namespace Vm

end Vm
end Go.Proofs.YtlbppjmekiemiacDoor

/- Plain laws: what a unit hears twice; a unit that is ready. No condition. -/
namespace Go.Proofs.YtlbppjmekiemiacDoor
namespace Vm

end Vm
end Go.Proofs.YtlbppjmekiemiacDoor

/- Plain laws: an image that comes in pieces. No condition. -/
namespace Go.Proofs.YtlbppjmekiemiacDoor
namespace Vm

end Vm
end Go.Proofs.YtlbppjmekiemiacDoor

/- Plain answers: a gateway. No condition. -/
namespace Go.Proofs.YtlbppjmekiemiacDoor
namespace Vm

end Vm
end Go.Proofs.YtlbppjmekiemiacDoor

/- Plain laws: a gateway. No condition. -/
namespace Go.Proofs.YtlbppjmekiemiacDoor
namespace Vm

end Vm
end Go.Proofs.YtlbppjmekiemiacDoor

/- Plain laws: what is due. No condition. -/
namespace Go.Proofs.YtlbppjmekiemiacDoor
namespace Vm

end Vm
end Go.Proofs.YtlbppjmekiemiacDoor

/- Plain answers: the document's unit. No condition. -/
namespace Go.Proofs.YtlbppjmekiemiacDoor
namespace Vm

end Vm
end Go.Proofs.YtlbppjmekiemiacDoor

/- Plain laws: the factory's unit, the document's. No condition. -/
namespace Go.Proofs.YtlbppjmekiemiacDoor
namespace Vm

end Vm
end Go.Proofs.YtlbppjmekiemiacDoor

/- Plain laws: the gateway, as the document has it. No condition. -/
namespace Go.Proofs.YtlbppjmekiemiacDoor
namespace Vm

end Vm
end Go.Proofs.YtlbppjmekiemiacDoor

/- Plain answers: a vehicle. No condition. -/
namespace Go.Proofs.YtlbppjmekiemiacDoor
namespace Vm

end Vm
end Go.Proofs.YtlbppjmekiemiacDoor

/- Plain laws: a vehicle that is one. No condition. -/
namespace Go.Proofs.YtlbppjmekiemiacDoor
namespace Vm

theorem nth_mem {α : Type} {l : List α} {k : Nat} (h : k < l.length) (d : α) : nth l k d ∈ l := by
  have : nth l k d = l[k] := by simp [nth, List.getD_eq_getElem?_getD, h]
  rw [this]; exact List.getElem_mem h
end Vm
end Go.Proofs.YtlbppjmekiemiacDoor

/- Plain laws: what begins a campaign; what a vehicle's steps keep. No condition. -/
namespace Go.Proofs.YtlbppjmekiemiacDoor
namespace Vm

end Vm
end Go.Proofs.YtlbppjmekiemiacDoor

/- Plain answers: vehicles compared; the rest of the vehicle's laws. No condition. -/
namespace Go.Proofs.YtlbppjmekiemiacDoor
namespace Vm

def eqL {α : Type} (f : α → α → Bool) : List α → List α → Bool
  | [], [] => true
  | a :: as, b :: bs => f a b && eqL f as bs
  | _, _ => false
theorem eqL_len {α : Type} (f : α → α → Bool) : ∀ (a b : List α), a.length ≠ b.length → eqL f a b = false
  | [], [], h => absurd rfl h
  | [], _ :: _, _ => rfl
  | _ :: _, [], _ => rfl
  | x :: a, y :: b, h => by
    simp only [eqL, eqL_len f a b (by simpa using h), Bool.and_false]
def eqT (a b : Vm.Target) : Bool := eqi a.unit b.unit && (eqi a.image b.image && eqi a.long b.long)
end Vm
end Go.Proofs.YtlbppjmekiemiacDoor

/- Plain laws: the vehicle's net. No condition. -/
namespace Go.Proofs.YtlbppjmekiemiacDoor
namespace Vm

end Vm
end Go.Proofs.YtlbppjmekiemiacDoor

/- Plain answers: offers in a script; the tour. No condition. -/
namespace Go.Proofs.YtlbppjmekiemiacDoor
namespace Vm

end Vm
end Go.Proofs.YtlbppjmekiemiacDoor

/- Plain laws: what each step of a vehicle keeps. No condition. -/
namespace Go.Proofs.YtlbppjmekiemiacDoor
namespace Vm

end Vm
end Go.Proofs.YtlbppjmekiemiacDoor

/- Plain laws: a campaign begins only by a proposal; how many records a log holds. No condition. -/
namespace Go.Proofs.YtlbppjmekiemiacDoor
namespace Vm

end Vm
end Go.Proofs.YtlbppjmekiemiacDoor

/- Plain laws for VehicleTakes: what stays along a script; the third release is never taken up. No condition. -/
namespace Go.Proofs.YtlbppjmekiemiacDoor
namespace Vm

end Vm
end Go.Proofs.YtlbppjmekiemiacDoor

/- Plain laws: a note in a log, in full: what fails leaves what was; with power it is there; generations rise by one at most. What a unit's hearing comes to, case by case. No condition. -/
namespace Go.Proofs.YtlbppjmekiemiacDoor
namespace Vm

end Vm
end Go.Proofs.YtlbppjmekiemiacDoor

/- Plain laws: unlike numbers, lists of numbers and images have unlike texts; an image's name is its own. No condition. -/
namespace Go.Proofs.YtlbppjmekiemiacDoor
namespace Vm

def valT (l : List UInt8) : Nat := l.foldl (fun a d => a * 10 + (d.toNat - 48)) 0
theorem digs_val : ∀ (f u : Nat), 0 < f → u < 10 ^ f → valT (digs f u) = u
  | 0, _, h, _ => absurd h (by omega)
  | f + 1, u, _, hu => by
    unfold digs
    by_cases c : u < 10
    · rw [if_pos c]
      have : (UInt8.ofNat (48 + u)).toNat = 48 + u := by simp; omega
      show 0 * 10 + ((UInt8.ofNat (48 + u)).toNat - 48) = u
      rw [this]; omega
    · rw [if_neg c]
      have h1 : u / 10 < 10 ^ f := by
        rw [Nat.pow_succ] at hu
        exact Nat.div_lt_of_lt_mul (by omega)
      have h2 : 0 < f := by
        cases f with
        | zero => simp at h1; omega
        | succ f => omega
      have ih := digs_val f (u / 10) h2 h1
      have : (UInt8.ofNat (48 + u % 10)).toNat = 48 + u % 10 := by simp; omega
      unfold valT at ih ⊢
      rw [List.foldl_append, ih]
      simp only [List.foldl_cons, List.foldl_nil, this]
      omega
theorem digs_digit : ∀ (f u : Nat), ∀ d ∈ digs f u, 48 ≤ d.toNat ∧ d.toNat ≤ 57
  | 0, _, d, hd => by cases hd
  | f + 1, u, d, hd => by
    unfold digs at hd
    by_cases c : u < 10
    · rw [if_pos c] at hd
      rw [List.mem_singleton.1 hd]
      have : (UInt8.ofNat (48 + u)).toNat = 48 + u := by simp; omega
      omega
    · rw [if_neg c] at hd
      rcases List.mem_append.1 hd with h | h
      · exact digs_digit f _ d h
      · rw [List.mem_singleton.1 h]
        have : (UInt8.ofNat (48 + u % 10)).toNat = 48 + u % 10 := by simp; omega
        omega
end Vm
end Go.Proofs.YtlbppjmekiemiacDoor

/- Plain laws: what lasts of a vehicle, whatever happens: units. No condition. -/
namespace Go.Proofs.YtlbppjmekiemiacDoor
namespace Vm

end Vm
end Go.Proofs.YtlbppjmekiemiacDoor

/- Plain laws: what lasts of a vehicle, whatever happens. No condition. -/
namespace Go.Proofs.YtlbppjmekiemiacDoor
namespace Vm

variable {first : List (List Int)} {c : Int} {v : Vehicle}
end Vm
end Go.Proofs.YtlbppjmekiemiacDoor

/- Plain laws: what lasts of a vehicle lasts through each happening. No condition. -/
namespace Go.Proofs.YtlbppjmekiemiacDoor
namespace Vm

variable {first : List (List Int)} {c : Int} {v : Vehicle}
end Vm
end Go.Proofs.YtlbppjmekiemiacDoor

/- Plain laws for VehicleHolds: a vehicle in which what lasts holds is a right one; the factory's is one. No condition. -/
namespace Go.Proofs.YtlbppjmekiemiacDoor
namespace Vm

variable {first : List (List Int)} {c : Int} {v : Vehicle}
end Vm
end Go.Proofs.YtlbppjmekiemiacDoor

/- Plain laws for the tour: all are up, and have power; a message comes. No condition. -/
namespace Go.Proofs.YtlbppjmekiemiacDoor
namespace Vm

variable {first : List (List Int)} {c : Int} {v : Vehicle} {B : Int}
end Vm
end Go.Proofs.YtlbppjmekiemiacDoor

/- Plain laws for the tour: a unit is asked, and told what is due. No condition. -/
namespace Go.Proofs.YtlbppjmekiemiacDoor
namespace Vm

variable {first : List (List Int)} {c : Int} {v : Vehicle} {B : Int}
end Vm
end Go.Proofs.YtlbppjmekiemiacDoor

/- Plain laws for the tour: a unit is told what is due; a visit. No condition. -/
namespace Go.Proofs.YtlbppjmekiemiacDoor
namespace Vm

variable {first : List (List Int)} {c : Int} {v : Vehicle} {B : Int}
end Vm
end Go.Proofs.YtlbppjmekiemiacDoor

/- Plain laws for the tour: rounds; the whole of it. No condition. -/
namespace Go.Proofs.YtlbppjmekiemiacDoor
namespace Vm

variable {first : List (List Int)} {c : Int} {v : Vehicle} {B : Int}
end Vm
end Go.Proofs.YtlbppjmekiemiacDoor

/- Plain laws for VehicleEnds: a script keeps what lasts; generations stay low; behind a tour all run the same. No condition. -/
namespace Go.Proofs.YtlbppjmekiemiacDoor
namespace Vm

variable {first : List (List Int)} {c : Int} {v : Vehicle} {B : Int}
end Vm
end Go.Proofs.YtlbppjmekiemiacDoor

/- Plain laws for VehicleGoes: the second release is taken up behind the tour, and comes to run everywhere. No condition. -/
namespace Go.Proofs.YtlbppjmekiemiacDoor
namespace Vm

variable {first : List (List Int)} {c : Int} {v : Vehicle} {B : Int}
end Vm
end Go.Proofs.YtlbppjmekiemiacDoor

/- Plain laws: texts that are cut, numbers that are read; a release's text, and back. No condition. -/
namespace Go.Proofs.YtlbppjmekiemiacDoor
namespace Vm

open Go.Lib (index split splitK count itoa atoiAll NumEnd)
theorem idx_no {c : UInt8} {t : List UInt8} : ∀ {s : List UInt8}, c ∉ s → index s (c :: t) = -1
  | [], _ => rfl
  | b :: l, h => by
    have hb : c ≠ b := fun e => h (e ▸ List.mem_cons_self ..)
    have ih := idx_no (t := t) (s := l) fun m => h (List.mem_cons_of_mem _ m)
    unfold index
    rw [if_neg (by simp [List.isPrefixOf, hb]), ih]
    rfl
theorem idx_at {c : UInt8} {t b : List UInt8} : ∀ {a : List UInt8}, c ∉ a → index (a ++ (c :: t) ++ b) (c :: t) = a.length
  | [], _ => by
    show index (c :: (t ++ b)) (c :: t) = 0
    unfold index
    rw [if_pos (by simp [List.isPrefixOf_iff_prefix])]
  | x :: a, h => by
    have hb : c ≠ x := fun e => h (e ▸ List.mem_cons_self ..)
    have ih := idx_at (t := t) (b := b) (a := a) fun m => h (List.mem_cons_of_mem _ m)
    show index (x :: (a ++ (c :: t) ++ b)) (c :: t) = _
    unfold index
    rw [if_neg (by simp [List.isPrefixOf, hb]), ih, if_neg (by simp)]
    simp
theorem idx_room : ∀ {s sub : List UInt8}, index s sub ≠ -1 → 0 ≤ index s sub ∧ (index s sub).toNat ≤ s.length ∧ s = s.take (index s sub).toNat ++ sub ++ s.drop ((index s sub).toNat + sub.length)
  | [], sub, h => by
    unfold index at h ⊢
    by_cases e : sub.isEmpty = true
    · rw [if_pos e]
      rw [List.isEmpty_iff.1 e]; simp
    · rw [if_neg e] at h; exact absurd rfl h
  | b :: l, sub, h => by
    unfold index at h ⊢
    by_cases e : sub.isPrefixOf (b :: l) = true
    · rw [if_pos e]
      obtain ⟨r, hr⟩ := List.isPrefixOf_iff_prefix.1 e
      refine ⟨Int.le_refl _, by simp, ?_⟩
      rw [← hr]; simp
    · rw [if_neg e] at h ⊢
      by_cases q : (index l sub == -1) = true
      · rw [if_pos q] at h; exact absurd rfl h
      · rw [if_neg q]
        obtain ⟨h1, h2, h3⟩ := idx_room (s := l) (sub := sub) (by simpa using q)
        have e1 : (index l sub + 1).toNat = (index l sub).toNat + 1 := by omega
        rw [e1]
        refine ⟨by omega, by simp; omega, ?_⟩
        rw [show (index l sub).toNat + 1 + sub.length = ((index l sub).toNat + sub.length) + 1 by omega, List.take_succ_cons, List.drop_succ_cons, List.cons_append, List.cons_append, ← h3]
theorem idx_free {c : UInt8} : ∀ {s : List UInt8}, c ∉ s.take (index s [c]).toNat ∧ (index s [c] = -1 → c ∉ s)
  | [] => by simp
  | b :: l => by
    obtain ⟨h1, h2⟩ := idx_free (c := c) (s := l)
    unfold index
    by_cases e : c = b
    · subst e
      rw [if_pos (by simp [List.isPrefixOf])]
      exact ⟨by simp, fun h => by cases h⟩
    · rw [if_neg (by simp [List.isPrefixOf, e])]
      by_cases q : (index l [c] == -1) = true
      · rw [if_pos q]
        have := h2 (by simpa using q)
        exact ⟨by simp, fun _ m => by rcases List.mem_cons.1 m with m | m; exact e m; exact this m⟩
      · rw [if_neg q]
        have q : index l [c] ≠ -1 := by simpa using q
        have := (idx_room q).1
        refine ⟨?_, fun h => by omega⟩
        rw [show (index l [c] + 1).toNat = (index l [c]).toNat + 1 by omega, List.take_succ_cons]
        intro m
        rcases List.mem_cons.1 m with m | m
        · exact e m
        · exact h1 m
theorem splitK_join {sep : List UInt8} : ∀ (k : Nat) (s : List UInt8), splitK sep 0 k s ≠ [] ∧ joinT sep (splitK sep 0 k s) = s
  | 0, s => ⟨by simp [splitK], rfl⟩
  | k + 1, s => by
    unfold splitK
    by_cases q : (index s sep == -1) = true
    · rw [if_pos q]; exact ⟨by simp, rfl⟩
    · rw [if_neg q]
      obtain ⟨h1, h2⟩ := splitK_join (sep := sep) k (s.drop ((index s sep).toNat + sep.length))
      refine ⟨by simp, ?_⟩
      have r := (idx_room (s := s) (sub := sep) (by simpa using q)).2.2
      cases hx : splitK sep 0 k (s.drop ((index s sep).toNat + sep.length)) with
      | nil => exact absurd hx h1
      | cons y ys =>
        rw [hx] at h2
        show s.take ((index s sep).toNat + 0) ++ sep ++ joinT sep (y :: ys) = s
        rw [h2, Nat.add_zero]
        exact r.symm
theorem split_join (s sep : List UInt8) : split s sep ≠ [] ∧ joinT sep (split s sep) = s := splitK_join _ _
theorem split_no {c : UInt8} {t s : List UInt8} (h : c ∉ s) : split s (c :: t) = [s] := by
  unfold split
  rw [Go.Lib.count_miss (idx_no h)]
  rfl
theorem splitK_hit {sep s : List UInt8} {i k : Nat} (h : index s sep = i) : splitK sep 0 (k + 1) s = s.take i :: splitK sep 0 k (s.drop (i + sep.length)) := by
  have hn : ((i : Nat) : Int).toNat = i := by omega
  show (if index s sep == -1 then [s] else s.take ((index s sep).toNat + 0) :: splitK sep 0 k (s.drop ((index s sep).toNat + sep.length))) = _
  rw [h, if_neg (by simp), hn, Nat.add_zero]
theorem split_at {c : UInt8} {t a b : List UInt8} (h : c ∉ a) : split (a ++ (c :: t) ++ b) (c :: t) = a :: split b (c :: t) := by
  have hi := idx_at (t := t) (b := b) h
  have hd : (a ++ (c :: t) ++ b).drop (a.length + (c :: t).length) = b := by
    rw [List.append_assoc, ← List.drop_drop, List.drop_left, List.drop_left]
  unfold split
  rw [Go.Lib.count_hit (by simp) hi, hd, Nat.add_comm, splitK_hit hi, hd, List.append_assoc, List.take_left]
theorem splitK_free {c : UInt8} : ∀ (k : Nat) (s : List UInt8), count s [c] = k → ∀ p ∈ splitK [c] 0 k s, c ∉ p
  | 0, s, hk, p, hp => by
    rw [List.mem_singleton.1 hp]
    refine idx_free.2 ?_
    by_cases q : index s [c] = -1
    · exact q
    · have r := (idx_room q).1
      have := Go.Lib.count_hit (s := s) (sub := [c]) (i := (index s [c]).toNat) (by simp) (by omega)
      omega
  | k + 1, s, hk, p, hp => by
    by_cases q : index s [c] = -1
    · rw [Go.Lib.count_miss q] at hk; omega
    · have r := (idx_room q).1
      have ch := Go.Lib.count_hit (s := s) (sub := [c]) (i := (index s [c]).toNat) (by simp) (by omega)
      unfold splitK at hp
      rw [if_neg (by simpa using q)] at hp
      rcases List.mem_cons.1 hp with rfl | hp
      · rw [Nat.add_zero]; exact idx_free.1
      · exact splitK_free k _ (by omega) p hp
theorem split_free {c : UInt8} {s p : List UInt8} (h : p ∈ split s [c]) : c ∉ p := splitK_free _ _ rfl p h
/- numbers -/
def valF (a : Nat) (l : List UInt8) : Nat := l.foldl (fun a d => a * 10 + (d.toNat - 48)) a
theorem valF_ge : ∀ (l : List UInt8) (a : Nat), a ≤ valF a l
  | [], a => Nat.le_refl _
  | d :: l, a => by
    have := valF_ge l (a * 10 + (d.toNat - 48))
    show a ≤ valF (a * 10 + (d.toNat - 48)) l
    omega
theorem parseUint_digits : ∀ (l : List UInt8) (a : Nat), (∀ d ∈ l, 48 ≤ d.toNat ∧ d.toNat ≤ 57) → valF a l < 18446744073709551616 → Go.Lib.parseUint10 a l = .ok (valF a l)
  | [], a, _, _ => rfl
  | d :: l, a, h, hv => by
    have hd := h d (List.mem_cons_self ..)
    have hg := valF_ge l (a * 10 + (d.toNat - 48))
    have hv : valF (a * 10 + (d.toNat - 48)) l < 18446744073709551616 := hv
    unfold Go.Lib.parseUint10
    rw [if_pos hd, if_neg (by omega), if_neg (by omega)]
    exact parseUint_digits l _ (fun x hx => h x (List.mem_cons_of_mem _ hx)) hv
def In64 (n : Int) : Prop := -9223372036854775808 ≤ n ∧ n ≤ 9223372036854775807
theorem dec_digits {u : Nat} (h : u < 100000000000000000000) : Go.Lib.decDigits u = digs 20 u := digs_eq 20 u (by omega) (by omega)
theorem dec_ne (u : Nat) : Go.Lib.decDigits u ≠ [] := by
  rw [Go.Lib.decDigits]
  split <;> simp
theorem itoa_bytes {n : Int} (h : In64 n) : ∀ d ∈ itoa n, 45 ≤ d.toNat ∧ d.toNat ≤ 57 := fun d hd => by
  obtain ⟨h1, h2⟩ := h
  unfold itoa at hd
  split at hd
  · rcases List.mem_cons.1 hd with rfl | hd
    · decide
    · rw [dec_digits (by omega)] at hd
      have := digs_digit _ _ _ hd
      omega
  · rw [dec_digits (by omega)] at hd
    have := digs_digit _ _ _ hd
    omega
theorem itoa_no {n : Int} (h : In64 n) : (32 : UInt8) ∉ itoa n ∧ (59 : UInt8) ∉ itoa n :=
  ⟨fun m => absurd (itoa_bytes h _ m).1 (by decide), fun m => absurd (itoa_bytes h _ m).2 (by decide)⟩
theorem mag_dec {u : Nat} (h : u < 18446744073709551616) : Go.Lib.parseMag (Go.Lib.decDigits u) = .ok u := by
  unfold Go.Lib.parseMag
  rw [if_neg (dec_ne u), dec_digits (by omega)]
  have hv : valF 0 (digs 20 u) = u := digs_val 20 u (by omega) (by omega)
  rw [parseUint_digits _ _ (digs_digit _ _) (by rw [hv]; exact h), hv]
theorem atoi_itoa {n : Int} (h : In64 n) : atoiAll (itoa n) = .ok n := by
  obtain ⟨h1, h2⟩ := h
  unfold itoa
  by_cases c : n < 0
  · rw [if_pos c]
    unfold atoiAll
    simp only
    rw [if_pos (by decide), mag_dec (by omega)]
    simp only
    rw [if_neg (by rintro ⟨q, _⟩; exact q (by decide)), if_neg (by rintro ⟨_, q⟩; omega), if_pos (by decide)]
    congr 1
    omega
  · rw [if_neg c]
    have hd := mag_dec (u := n.toNat) (by omega)
    have hdig : ∀ d ∈ Go.Lib.decDigits n.toNat, 48 ≤ d.toNat ∧ d.toNat ≤ 57 := by
      rw [dec_digits (by omega)]; exact digs_digit _ _
    cases hl : Go.Lib.decDigits n.toNat with
    | nil => exact absurd hl (dec_ne _)
    | cons x l =>
      rw [hl] at hd hdig
      have hx := hdig x (List.mem_cons_self ..)
      unfold atoiAll
      simp only
      rw [if_neg (by omega), hd]
      simp only
      rw [if_neg (by rintro ⟨_, q⟩; omega), if_neg (by rintro ⟨q, _⟩; omega), if_neg (by omega)]
      congr 1
      omega
/-- A number, if a text is written as one. -/
def numW (w : List UInt8) : Option Int := match atoiAll w with
  | .ok v => if itoa v = w then some v else none
  | _ => none
theorem atoi_in {w : List UInt8} {v : Int} (h : atoiAll w = .ok v) : In64 v := by
  unfold atoiAll at h
  split at h
  · cases h
  · simp only at h
    split at h
    · cases h
    · cases h
    · split at h
      · cases h
      · split at h
        · cases h
        · rename_i c1 c2
          injection h with h
          rw [← h]
          unfold In64
          split <;> omega
theorem numW_some {w : List UInt8} {v : Int} (h : numW w = some v) : w = itoa v ∧ In64 v := by
  unfold numW at h
  split at h
  · rename_i v' e
    split at h
    · rename_i e2
      injection h with h
      subst h
      exact ⟨e2.symm, atoi_in e⟩
    · cases h
  · cases h
theorem numW_itoa {v : Int} (h : In64 v) : numW (itoa v) = some v := by
  unfold numW
  rw [atoi_itoa h]
  simp
theorem parseUintM_is : ∀ (l : List UInt8) (a : Nat), Go.Lib.parseUintM (2 ^ 64 - 1) a l = Go.Lib.parseUint10 a l
  | [], _ => rfl
  | c :: l, a => by
    unfold Go.Lib.parseUintM Go.Lib.parseUint10
    rw [parseUintM_is l]
    by_cases q : 18446744073709551616 ≤ a * 10 + (c.toNat - 48)
    · rw [if_pos q, if_pos (show 2 ^ 64 - 1 < a * 10 + (c.toNat - 48) by omega)]
    · rw [if_neg q, if_neg (show ¬ 2 ^ 64 - 1 < a * 10 + (c.toNat - 48) by omega)]
theorem parseInt_is (l : List UInt8) : Go.Lib.parseIntB 64 l = atoiAll l := by
  have h : ∀ m : List UInt8, Go.Lib.parseUintB 64 m = Go.Lib.parseMag m := fun m => by
    unfold Go.Lib.parseUintB Go.Lib.parseMag
    rw [parseUintM_is]
  cases l with
  | nil => rfl
  | cons c r =>
    unfold Go.Lib.parseIntB atoiAll
    simp only [h]
    rfl
end Vm
end Go.Proofs.YtlbppjmekiemiacDoor

/- Plain laws: a release's text read back, in the program's way and in the document's. No condition. -/
namespace Go.Proofs.YtlbppjmekiemiacDoor
namespace Vm

open Go.Lib (index split splitK count itoa atoiAll NumEnd)
def numsW : List (List UInt8) → Option (List Int)
  | [] => some []
  | w :: r => match numW w with
    | some n => (match numsW r with | some l => some (n :: l) | none => none)
    | none => none
def tgtL : Option (List Int) → Option Target
  | some [a, b, c] => some ⟨a, b, c⟩
  | _ => none
def tgtW (p : List UInt8) : Option Target := tgtL (numsW (split p [32]))
def tgtsW : List (List UInt8) → Option (List Target)
  | [] => some []
  | p :: r => match tgtW p with
    | some t => (match tgtsW r with | some l => some (t :: l) | none => none)
    | none => none
def releaseB : List UInt8 := [114, 101, 108, 101, 97, 115, 101]
def untilB : List UInt8 := [117, 110, 116, 105, 108]
def headL : List (List UInt8) → Option (Int × Int)
  | [a, b, c, d] => if a = releaseB ∧ c = untilB then (match numW b, numW d with | some x, some y => some (x, y) | _, _ => none) else none
  | _ => none
def pairO : Option (Int × Int) → Option (List Target) → Option (Int × Int × List Target)
  | some (a, b), some ts => some (a, b, ts)
  | _, _ => none
def parseP (s : List UInt8) : Option (Int × Int × List Target) := pairO (headL (split ((split s [59, 32]).headD []) [32])) (tgtsW (split s [59, 32]).tail)
theorem pairO_some {p : Option (Int × Int)} {q : Option (List Target)} {a b : Int} {ts : List Target} (h : pairO p q = some (a, b, ts)) : p = some (a, b) ∧ q = some ts := by
  unfold pairO at h
  split at h
  · injection h with h
    injection h with h1 h
    injection h with h2 h3
    subst h1 h2 h3
    exact ⟨rfl, rfl⟩
  · cases h
/-- A release's text, of whatever numbers. -/
def tgtI (t : Target) : List UInt8 := itoa t.unit ++ [32] ++ itoa t.image ++ [32] ++ itoa t.long
def tgtsI (ts : List Target) : List UInt8 := ts.flatMap fun t => [59, 32] ++ tgtI t
def headI (a b : Int) : List UInt8 := releaseB ++ [32] ++ itoa a ++ [32] ++ untilB ++ [32] ++ itoa b
def relI (a b : Int) (ts : List Target) : List UInt8 := headI a b ++ tgtsI ts
def TgtIn (t : Target) : Prop := In64 t.unit ∧ In64 t.image ∧ In64 t.long
theorem split_sp {a b : List UInt8} (h : (32 : UInt8) ∉ a) : split (a ++ [32] ++ b) [32] = a :: split b [32] := split_at (t := []) h
theorem split_one {a : List UInt8} (h : (32 : UInt8) ∉ a) : split a [32] = [a] := split_no (t := []) h
theorem numsW_some : ∀ {l : List (List UInt8)} {ns : List Int}, numsW l = some ns → l = ns.map itoa ∧ ∀ n ∈ ns, In64 n
  | [], ns, h => by
    injection h with h
    subst h
    exact ⟨rfl, fun n hn => by cases hn⟩
  | w :: r, ns, h => by
    unfold numsW at h
    split at h
    · rename_i n hn
      split at h
      · rename_i l hl
        injection h with h
        subst h
        obtain ⟨e1, e2⟩ := numW_some hn
        obtain ⟨e3, e4⟩ := numsW_some hl
        refine ⟨by rw [e1, e3]; rfl, fun x hx => ?_⟩
        rcases List.mem_cons.1 hx with rfl | hx
        · exact e2
        · exact e4 x hx
      · cases h
    · cases h
theorem tgtW_some {p : List UInt8} {t : Target} (h : tgtW p = some t) : p = tgtI t ∧ TgtIn t := by
  unfold tgtW tgtL at h
  split at h
  · rename_i a b c e
    injection h with h
    subst h
    obtain ⟨e1, e2⟩ := numsW_some e
    have j := (split_join p [32]).2
    rw [e1] at j
    refine ⟨?_, e2 a (by simp), e2 b (by simp), e2 c (by simp)⟩
    rw [← j]
    simp [joinT, tgtI]
  · cases h
theorem tgtW_tgtI {t : Target} (h : TgtIn t) : tgtW (tgtI t) = some t := by
  obtain ⟨h1, h2, h3⟩ := h
  have e : split (tgtI t) [32] = [itoa t.unit, itoa t.image, itoa t.long] := by
    unfold tgtI
    rw [show itoa t.unit ++ [32] ++ itoa t.image ++ [32] ++ itoa t.long = itoa t.unit ++ [32] ++ (itoa t.image ++ [32] ++ itoa t.long) by simp, split_sp (itoa_no h1).1, split_sp (itoa_no h2).1, split_one (itoa_no h3).1]
  unfold tgtW
  rw [e]
  simp only [numsW, numW_itoa h1, numW_itoa h2, numW_itoa h3]
  rfl
theorem tgtI_no {t : Target} (h : TgtIn t) : (59 : UInt8) ∉ tgtI t := by
  obtain ⟨h1, h2, h3⟩ := h
  unfold tgtI
  have := (itoa_no h1).2
  have := (itoa_no h2).2
  have := (itoa_no h3).2
  simp_all
theorem headI_no {a b : Int} (ha : In64 a) (hb : In64 b) : (59 : UInt8) ∉ headI a b := by
  unfold headI releaseB untilB
  have := (itoa_no ha).2
  have := (itoa_no hb).2
  simp_all
theorem tgtsW_some : ∀ {l : List (List UInt8)} {ts : List Target}, tgtsW l = some ts → l = ts.map tgtI ∧ ∀ t ∈ ts, TgtIn t
  | [], ts, h => by
    injection h with h
    subst h
    exact ⟨rfl, fun n hn => by cases hn⟩
  | w :: r, ts, h => by
    unfold tgtsW at h
    split at h
    · rename_i n hn
      split at h
      · rename_i l hl
        injection h with h
        subst h
        obtain ⟨e1, e2⟩ := tgtW_some hn
        obtain ⟨e3, e4⟩ := tgtsW_some hl
        refine ⟨by rw [e1, e3]; rfl, fun x hx => ?_⟩
        rcases List.mem_cons.1 hx with rfl | hx
        · exact e2
        · exact e4 x hx
      · cases h
    · cases h
theorem tgtsW_map : ∀ {ts : List Target}, (∀ t ∈ ts, TgtIn t) → tgtsW (ts.map tgtI) = some ts
  | [], _ => rfl
  | t :: ts, h => by
    show tgtsW (tgtI t :: ts.map tgtI) = _
    unfold tgtsW
    rw [tgtW_tgtI (h t (List.mem_cons_self ..)), tgtsW_map fun x hx => h x (List.mem_cons_of_mem _ hx)]
/-- The pieces of a release's text. -/
theorem split_rel : ∀ {ts : List Target} {p : List UInt8}, (59 : UInt8) ∉ p → (∀ t ∈ ts, TgtIn t) → split (p ++ tgtsI ts) [59, 32] = p :: ts.map tgtI
  | [], p, h, _ => by
    rw [show p ++ tgtsI [] = p by simp [tgtsI]]
    exact split_no h
  | t :: ts, p, h, ht => by
    have e : p ++ tgtsI (t :: ts) = p ++ [59, 32] ++ (tgtI t ++ tgtsI ts) := by simp [tgtsI]
    rw [e, split_at h, split_rel (tgtI_no (ht t (List.mem_cons_self ..))) fun x hx => ht x (List.mem_cons_of_mem _ hx)]
    rfl
theorem rel_join (p : List UInt8) (ts : List Target) : joinT [59, 32] (p :: ts.map tgtI) = p ++ tgtsI ts := by
  rw [joinT_flat, List.flatMap_map]
  rfl
theorem parseP_rel {a b : Int} {ts : List Target} (ha : In64 a) (hb : In64 b) (ht : ∀ t ∈ ts, TgtIn t) : parseP (relI a b ts) = some (a, b, ts) := by
  unfold parseP relI
  rw [split_rel (headI_no ha hb) ht]
  have e : split (headI a b) [32] = [releaseB, itoa a, untilB, itoa b] := by
    unfold headI
    rw [show releaseB ++ [32] ++ itoa a ++ [32] ++ untilB ++ [32] ++ itoa b = releaseB ++ [32] ++ (itoa a ++ [32] ++ (untilB ++ [32] ++ itoa b)) by simp, split_sp (by decide), split_sp (itoa_no ha).1, split_sp (by decide), split_one (itoa_no hb).1]
  rw [List.headD_cons, List.tail_cons, e, tgtsW_map ht]
  simp only [headL, true_and, and_true, if_true, numW_itoa ha, numW_itoa hb, pairO]
theorem parseP_some {s : List UInt8} {a b : Int} {ts : List Target} (h : parseP s = some (a, b, ts)) : s = relI a b ts ∧ In64 a ∧ In64 b ∧ ∀ t ∈ ts, TgtIn t := by
  unfold parseP at h
  obtain ⟨e1, e2⟩ := pairO_some h
  obtain ⟨t1, t2⟩ := tgtsW_some e2
  obtain ⟨j1, j2⟩ := split_join s [59, 32]
  cases hs : split s [59, 32] with
  | nil => exact absurd hs j1
  | cons p r =>
      rw [hs] at e1 t1 j2
      rw [List.tail_cons] at t1
      rw [List.headD_cons] at e1
      have hp : p = headI a b ∧ In64 a ∧ In64 b := by
        unfold headL at e1
        split at e1
        · rename_i q1 q2 q3 q4 eq
          split at e1
          · rename_i hq
            split at e1
            · rename_i x' y' n1 n2
              injection e1 with e1
              injection e1 with e3 e4
              subst e3 e4
              obtain ⟨k1, k2⟩ := numW_some n1
              obtain ⟨k3, k4⟩ := numW_some n2
              have j := (split_join p [32]).2
              rw [eq, hq.1, hq.2, k1, k3] at j
              refine ⟨?_, k2, k4⟩
              rw [← j]
              simp [joinT, headI]
            · cases e1
          · cases e1
        · cases e1
      refine ⟨?_, hp.2.1, hp.2.2, t2⟩
      unfold relI
      rw [← hp.1, ← rel_join, ← t1, j2]
/- the document's way -/
def cutN (p : List UInt8) : Option (Int × Int) :=
  match Go.Lib.cut p ([32] ++ untilB ++ [32]) with
  | (v, u, true) => (match numW v, numW u with | some x, some y => some (x, y) | _, _ => none)
  | _ => none
def readP (s : List UInt8) : Option (Int × Int × List Target) :=
  if Go.Lib.hasPrefix s (releaseB ++ [32]) = true then
    pairO (cutN ((split (Go.Lib.trimPrefix s (releaseB ++ [32])) [59, 32]).headD [])) (tgtsW (split (Go.Lib.trimPrefix s (releaseB ++ [32])) [59, 32]).tail)
  else none
theorem trim_pre (p r : List UInt8) : Go.Lib.hasPrefix (p ++ r) p = true ∧ Go.Lib.trimPrefix (p ++ r) p = r := by
  have h : Go.Lib.hasPrefix (p ++ r) p = true := by
    unfold Go.Lib.hasPrefix
    rw [List.isPrefixOf_iff_prefix]
    exact List.prefix_append _ _
  refine ⟨h, ?_⟩
  unfold Go.Lib.trimPrefix
  rw [if_pos h, List.drop_left]
theorem pre_is {s p : List UInt8} (h : Go.Lib.hasPrefix s p = true) : s = p ++ Go.Lib.trimPrefix s p := by
  unfold Go.Lib.trimPrefix
  rw [if_pos h]
  unfold Go.Lib.hasPrefix at h
  obtain ⟨r, hr⟩ := List.isPrefixOf_iff_prefix.1 h
  rw [← hr, List.drop_left]
theorem readP_rel {a b : Int} {ts : List Target} (ha : In64 a) (hb : In64 b) (ht : ∀ t ∈ ts, TgtIn t) : readP (relI a b ts) = some (a, b, ts) := by
  have e0 : relI a b ts = (releaseB ++ [32]) ++ ((itoa a ++ [32] ++ untilB ++ [32] ++ itoa b) ++ tgtsI ts) := by simp [relI, headI]
  obtain ⟨t1, t2⟩ := trim_pre (releaseB ++ [32]) ((itoa a ++ [32] ++ untilB ++ [32] ++ itoa b) ++ tgtsI ts)
  have n59 : (59 : UInt8) ∉ itoa a ++ [32] ++ untilB ++ [32] ++ itoa b := by
    have := (itoa_no ha).2
    have := (itoa_no hb).2
    unfold untilB
    simp_all
  have hi : index (itoa a ++ (32 :: (untilB ++ [32])) ++ itoa b) (32 :: (untilB ++ [32])) = (itoa a).length := idx_at (itoa_no ha).1
  have ec : Go.Lib.cut (itoa a ++ [32] ++ untilB ++ [32] ++ itoa b) ([32] ++ untilB ++ [32]) = (itoa a, itoa b, true) := by
    have e1 : itoa a ++ [32] ++ untilB ++ [32] ++ itoa b = itoa a ++ (32 :: (untilB ++ [32])) ++ itoa b := by simp
    have e2 : [32] ++ untilB ++ [32] = 32 :: (untilB ++ [32]) := by simp
    rw [e1, e2]
    unfold Go.Lib.cut
    have hn : (((itoa a).length : Nat) : Int).toNat = (itoa a).length := by omega
    rw [hi, if_pos (by omega), hn, List.append_assoc, List.take_left, ← List.drop_drop, List.drop_left, List.drop_left]
  unfold readP
  rw [e0, t1, if_pos rfl, t2, split_rel n59 ht]
  rw [List.headD_cons, List.tail_cons, tgtsW_map ht]
  unfold cutN
  rw [ec]
  simp only [numW_itoa ha, numW_itoa hb]
  rfl
theorem readP_some {s : List UInt8} {a b : Int} {ts : List Target} (h : readP s = some (a, b, ts)) : s = relI a b ts ∧ In64 a ∧ In64 b ∧ ∀ t ∈ ts, TgtIn t := by
  unfold readP at h
  split at h
  case isFalse => cases h
  rename_i hp
  have es := pre_is hp
  generalize Go.Lib.trimPrefix s (releaseB ++ [32]) = r at *
  obtain ⟨e1, e2⟩ := pairO_some h
  obtain ⟨t1, t2⟩ := tgtsW_some e2
  obtain ⟨j1, j2⟩ := split_join r [59, 32]
  cases hs : split r [59, 32] with
  | nil => exact absurd hs j1
  | cons p q =>
      rw [hs] at e1 t1 j2
      rw [List.tail_cons] at t1
      rw [List.headD_cons] at e1
      have hp2 : p = itoa a ++ [32] ++ untilB ++ [32] ++ itoa b ∧ In64 a ∧ In64 b := by
        unfold cutN at e1
        split at e1
        · rename_i v u ec
          split at e1
          · rename_i x' y' n1 n2
            injection e1 with e1
            injection e1 with e3 e4
            subst e3 e4
            obtain ⟨k1, k2⟩ := numW_some n1
            obtain ⟨k3, k4⟩ := numW_some n2
            refine ⟨?_, k2, k4⟩
            unfold Go.Lib.cut at ec
            split at ec
            · rename_i hi
              injection ec with c1 c2
              injection c2 with c2 _
              have rm := (idx_room (s := p) (sub := [32] ++ untilB ++ [32]) (by omega)).2.2
              rw [c1, c2, k1, k3] at rm
              rw [rm]; simp
            · injection ec with c1 c2
              injection c2 with c2 c3
              cases c3
          · cases e1
        · cases e1
      refine ⟨?_, hp2.2.1, hp2.2.2, t2⟩
      rw [es, ← j2, t1, rel_join, hp2.1]
      simp [relI, headI]
theorem read_parse (s : List UInt8) : readP s = parseP s := by
  cases h : parseP s with
  | none =>
    cases h2 : readP s with
    | none => rfl
    | some x =>
      obtain ⟨a, b, ts⟩ := x
      obtain ⟨e, q1, q2, q3⟩ := readP_some h2
      rw [e, parseP_rel q1 q2 q3] at h
      cases h
  | some x =>
    obtain ⟨a, b, ts⟩ := x
    obtain ⟨e, q1, q2, q3⟩ := parseP_some h
    rw [e]
    exact readP_rel q1 q2 q3
/-- What the program gives, errors too. -/
def noRel : Release := ⟨0, 0, []⟩
def endR : Option (Int × Int × List Target) → Release × Int
  | none => (noRel, 1)
  | some (a, b, ts) => if checkRelease a b ts = 0 then (⟨a, b, ts⟩, 0) else (noRel, checkRelease a b ts)
def parseE (s : List UInt8) : Release × Int := if 2000 < s.length then (noRel, 2) else endR (parseP s)
end Vm
end Go.Proofs.YtlbppjmekiemiacDoor

/- Plain answers: texts read, as the library's readers give them; releases that are parsed. No condition. -/
namespace Go.Proofs.YtlbppjmekiemiacDoor
namespace Vm

open Go.Lib (index split splitK count itoa atoiAll NumEnd)
def atoiE (s : List UInt8) : Bool := match atoiAll s with | .ok _ => true | _ => false
def atoiV (s : List UInt8) : Int := match atoiAll s with | .ok v => v | .range => Go.Lib.atoiSat s | _ => 0
def intV (s : List UInt8) : Int := match Go.Lib.parseIntB 64 s with | .ok v => v | .range => Go.Lib.intSat 64 s | _ => 0
def numE (w : List UInt8) : Bool := (numW w).isSome
def numbersE (s : List UInt8) : List Int × Bool := match numsW (split s [32]) with | some l => (l, true) | none => ([], false)
theorem atoi_ok {w : List UInt8} (h : atoiE w = true) : ∃ v, atoiAll w = .ok v ∧ atoiV w = v ∧ intV w = v ∧ In64 v := by
  unfold atoiE at h
  split at h
  · rename_i v e
    exact ⟨v, e, by unfold atoiV; rw [e], by unfold intV; rw [parseInt_is, e], atoi_in e⟩
  · cases h
theorem numW_e {w : List UInt8} (h : atoiE w = true) : In64 (atoiV w) ∧ In64 (intV w) ∧ intV w = atoiV w ∧ numW w = if itoa (atoiV w) = w then some (atoiV w) else none := by
  obtain ⟨v, e, e1, e2, hv⟩ := atoi_ok h
  rw [e1, e2]
  refine ⟨hv, hv, rfl, ?_⟩
  unfold numW
  rw [e]
theorem numW_ne {w : List UInt8} (h : atoiE w = false) : numW w = none := by
  unfold atoiE at h
  unfold numW
  cases e : atoiAll w with
  | ok v => rw [e] at h; cases h
  | range => rfl
  | _ => rfl
theorem numE_is (w : List UInt8) : numE w = (atoiE w && decide (itoa (intV w) = w)) := by
  cases h : atoiE w with
  | false => unfold numE; rw [numW_ne h]; rfl
  | true =>
    obtain ⟨_, _, e, e2⟩ := numW_e h
    unfold numE
    rw [e2, e]
    by_cases q : itoa (atoiV w) = w <;> simp [q]
theorem numE_val {w : List UInt8} (h : numE w = true) : numW w = some (intV w) := by
  rw [numE_is] at h
  rw [Bool.and_eq_true] at h
  obtain ⟨_, _, e, e2⟩ := numW_e h.1
  rw [e2, ← e, if_pos (of_decide_eq_true h.2)]
theorem numE_none {w : List UInt8} (h : numE w = false) : numW w = none := by
  unfold numE at h
  cases e : numW w with
  | none => rfl
  | some v => rw [e] at h; cases h
end Vm
end Go.Proofs.YtlbppjmekiemiacDoor

/- Plain laws: a release comes back out of its text, and a text out of its release; unlike ones have unlike texts. No condition. -/
namespace Go.Proofs.YtlbppjmekiemiacDoor
namespace Vm

open Go.Lib (index split splitK count itoa atoiAll)
theorem eqT_iff {a b : Target} : eqT a b = true ↔ a = b := by
  obtain ⟨a1, a2, a3⟩ := a
  obtain ⟨b1, b2, b3⟩ := b
  simp [eqT, eqi]
theorem eqL_iff {α : Type} {f : α → α → Bool} (h : ∀ {x y}, f x y = true ↔ x = y) : ∀ {a b : List α}, eqL f a b = true ↔ a = b
  | [], [] => by simp [eqL]
  | [], _ :: _ => by simp [eqL]
  | _ :: _, [] => by simp [eqL]
  | a :: as, b :: bs => by simp [eqL, h, eqL_iff h (a := as) (b := bs)]
/-- Whether two releases are one. -/
def sameR (a b : Int) (ts : List Target) (c d : Int) (us : List Target) : Bool := eqi a c && eqi b d && eqL eqT ts us
theorem sameR_iff {a b : Int} {ts : List Target} {c d : Int} {us : List Target} : sameR a b ts c d us = true ↔ a = c ∧ b = d ∧ ts = us := by
  unfold sameR
  rw [Bool.and_eq_true, Bool.and_eq_true, eqL_iff eqT_iff]
  simp [eqi, and_assoc]
theorem parseE_read {s : List UInt8} (h : ¬ 2000 < s.length) : parseE s = endR (readP s) := by
  unfold parseE
  rw [if_neg h, read_parse]
theorem endR_len (o : Option (Int × Int × List Target)) : (endR o).1.targets.length ≤ 4 := by
  unfold endR
  split
  · exact Nat.zero_le _
  · rename_i a b ts
    by_cases c : checkRelease a b ts = 0
    · rw [if_pos c]; exact (checkRelease_ok c).2.2.2.2.2.1
    · rw [if_neg c]; exact Nat.zero_le _
/- lengths of pieces -/
theorem joinT_mem {sep : List UInt8} : ∀ {l : List (List UInt8)} {p : List UInt8}, p ∈ l → p.length ≤ (joinT sep l).length
  | [], _, h => by cases h
  | [x], p, h => by rw [List.mem_singleton.1 h]; exact Nat.le_refl _
  | x :: y :: r, p, h => by
    have e : joinT sep (x :: y :: r) = x ++ sep ++ joinT sep (y :: r) := rfl
    rw [e, List.length_append, List.length_append]
    rcases List.mem_cons.1 h with rfl | h
    · omega
    · have := joinT_mem (sep := sep) h
      omega
theorem split_len {s sep p : List UInt8} (h : p ∈ split s sep) : p.length ≤ s.length := by
  have := joinT_mem (sep := sep) h
  rw [(split_join s sep).2] at this
  exact this
theorem joinT_count {sep : List UInt8} (hs : 1 ≤ sep.length) : ∀ l : List (List UInt8), l.length ≤ (joinT sep l).length + 1
  | [] => Nat.zero_le _
  | [x] => by simp
  | x :: y :: r => by
    have e : joinT sep (x :: y :: r) = x ++ sep ++ joinT sep (y :: r) := rfl
    have := joinT_count hs (y :: r)
    rw [e, List.length_append, List.length_append]
    simp only [List.length_cons] at this ⊢
    omega
theorem split_count {s sep : List UInt8} (hs : 1 ≤ sep.length) : 1 ≤ (split s sep).length ∧ (split s sep).length ≤ s.length + 1 := by
  have h := split_join s sep
  have := joinT_count hs (split s sep)
  rw [h.2] at this
  refine ⟨?_, this⟩
  cases e : split s sep with
  | nil => exact absurd e h.1
  | cons a l => simp
theorem numsW_snoc : ∀ {l : List (List UInt8)} {ns : List Int} {w : List UInt8} {n : Int}, numsW l = some ns → numW w = some n → numsW (l ++ [w]) = some (ns ++ [n])
  | [], ns, w, n, h, k => by
    injection h with h
    subst h
    unfold numsW
    simp only [List.nil_append, k, numsW]
  | x :: r, ns, w, n, h, k => by
    unfold numsW at h
    split at h
    · rename_i y hy
      split at h
      · rename_i l hl
        injection h with h
        subst h
        have := numsW_snoc hl k
        rw [List.cons_append]
        unfold numsW
        simp only [hy, this, List.cons_append]
      · cases h
    · cases h
theorem numsW_bad : ∀ {l : List (List UInt8)} {w : List UInt8}, w ∈ l → numW w = none → numsW l = none
  | [], _, h, _ => by cases h
  | x :: r, w, h, k => by
    unfold numsW
    rcases List.mem_cons.1 h with rfl | h
    · simp only [k]
    · simp only [numsW_bad h k]
      split <;> rfl
theorem numsW_len {l : List (List UInt8)} {ns : List Int} (h : numsW l = some ns) : ns.length = l.length := by
  rw [(numsW_some h).1, List.length_map]
theorem tgtsW_snoc : ∀ {l : List (List UInt8)} {ns : List Target} {w : List UInt8} {n : Target}, tgtsW l = some ns → tgtW w = some n → tgtsW (l ++ [w]) = some (ns ++ [n])
  | [], ns, w, n, h, k => by
    injection h with h
    subst h
    unfold tgtsW
    simp only [List.nil_append, k, tgtsW]
  | x :: r, ns, w, n, h, k => by
    unfold tgtsW at h
    split at h
    · rename_i y hy
      split at h
      · rename_i l hl
        injection h with h
        subst h
        have := tgtsW_snoc hl k
        rw [List.cons_append]
        unfold tgtsW
        simp only [hy, this, List.cons_append]
      · cases h
    · cases h
theorem tgtsW_bad : ∀ {l : List (List UInt8)} {w : List UInt8}, w ∈ l → tgtW w = none → tgtsW l = none
  | [], _, h, _ => by cases h
  | x :: r, w, h, k => by
    unfold tgtsW
    rcases List.mem_cons.1 h with rfl | h
    · simp only [k]
    · simp only [tgtsW_bad h k]
      split <;> rfl
/-- Numbers that are read, or none. -/
def numR : Option (List Int) → List Int × Bool
  | some l => (l, true)
  | none => ([], false)
theorem numbersE_is (s : List UInt8) : numbersE s = numR (numsW (split s [32])) := by
  unfold numbersE numR
  split <;> simp_all
theorem tgtL_len {l : List Int} (h : l.length ≠ 3) : tgtL (some l) = none := by
  unfold tgtL
  split
  · rename_i a b c e
    injection e with e
    subst e
    exact absurd rfl h
  · rfl
theorem three {l : List Int} (h : l.length = 3) : ∃ a b c, l = [a, b, c] := by
  match l, h with
  | [a, b, c], _ => exact ⟨a, b, c, rfl⟩
theorem four {α : Type} {l : List α} (h : l.length = 4) : ∃ a b c d, l = [a, b, c, d] := by
  match l, h with
  | [a, b, c, d], _ => exact ⟨a, b, c, d, rfl⟩
theorem headL_len {l : List (List UInt8)} (h : l.length ≠ 4) : headL l = none := by
  unfold headL
  split
  · exact absurd rfl h
  · rfl
theorem headL_four {a b c d : List UInt8} (h : a = releaseB ∧ c = untilB) : headL [a, b, c, d] = match numW b, numW d with | some x, some y => some (x, y) | _, _ => none := if_pos h
theorem headL_no {a b c d : List UInt8} (h : ¬ (a = releaseB ∧ c = untilB)) : headL [a, b, c, d] = none := if_neg h
theorem numbers_two {b d : List UInt8} (hb : (32 : UInt8) ∉ b) (hd : (32 : UInt8) ∉ d) : numbersE (b ++ [32] ++ d) = numR (numsW [b, d]) := by
  rw [numbersE_is, split_sp hb, split_one hd]
theorem nums_two {b d : List UInt8} : (numsW [b, d] = none ∧ (match numW b, numW d with | some x, some y => some (x, y) | _, _ => none) = (none : Option (Int × Int))) ∨ ∃ x y, numsW [b, d] = some [x, y] ∧ (match numW b, numW d with | some x, some y => some (x, y) | _, _ => none) = some (x, y) := by
  cases hb : numW b with
  | none => exact .inl ⟨numsW_bad (List.mem_cons_self ..) hb, rfl⟩
  | some x =>
    cases hd : numW d with
    | none => exact .inl ⟨numsW_bad (List.mem_cons_of_mem _ (List.mem_cons_self ..)) hd, rfl⟩
    | some y => exact .inr ⟨x, y, by simp only [numsW, hb, hd], rfl⟩
theorem nth3_0 (a b c d : Int) : nth [a, b, c] (Int.toNat 0) d = a := rfl
theorem nth3_1 (a b c d : Int) : nth [a, b, c] (Int.toNat 1) d = b := rfl
theorem nth3_2 (a b c d : Int) : nth [a, b, c] (Int.toNat 2) d = c := rfl
theorem numR_1 (l : List Int) : (numR (some l)).1 = l := rfl
theorem headD_nth (l : List (List UInt8)) : l.headD [] = nth l 0 (Ty.dflt .str) := by
  cases l <;> rfl
theorem slc_tail {α : Type} (l : List α) : slc l 1 l.length = l.tail := by
  cases l with
  | nil => rfl
  | cons a l => simp [slc]
theorem pairO_bad {q : Option (List Target)} : pairO none q = none := by
  unfold pairO
  split
  · rename_i h; cases h
  · rfl
theorem pairO_none {p : Option (Int × Int)} : pairO p none = none := by
  unfold pairO
  split
  · rename_i h; cases h
  · rfl
end Vm
end Go.Proofs.YtlbppjmekiemiacDoor
