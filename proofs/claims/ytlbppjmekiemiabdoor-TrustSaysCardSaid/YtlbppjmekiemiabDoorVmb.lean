/- The executor on data: part 2 of 4. No condition. -/
import Derived.Test.YtlbppjmekiemiabDoorVma
import Derived.MapKept
/- The executor on data: pieces of slices. No condition. -/
namespace Go.Proofs.YtlbppjmekiemiabDoor
namespace Vm
section
variable {P : Program} {tab : Tab} {μ μ' : Mu} {mem mem' : MemF} {w w' : World} {S S' : Nat → Prop}

def iv (o : Option Int) : Option Value := o.map (Value.int .i64)

theorem run_sliceAt {T : Nat} {t : Ty} {nb e : Nat} {i : TypeInfo} {z : Value} (hs : SlT P tab T t nb e i z) (ad : Option Addr) (n cap : Nat) (lo hi : Option Int) (h0 : 0 ≤ lo.getD 0) (h1 : lo.getD 0 ≤ hi.getD (n : Nat)) (h2 : hi.getD (n : Nat) ≤ (cap : Nat)) :
    (Instr.sliceAt T (.slice ad n cap) (iv lo) (iv hi) none).run P w =
      .ok (.slice (if cap = (lo.getD 0).toNat then ad else ad.map (·.add ((lo.getD 0).toNat * t.width))) ((hi.getD (n : Nat)).toNat - (lo.getD 0).toNat) (cap - (lo.getD 0).toNat)) w := by
  cases lo <;> cases hi <;> simp only [Option.getD_some, Option.getD_none] at h0 h1 h2 ⊢
  · simp [Instr.sliceAt, Instr.slice, Instr.sliceBounds, iv, run_underlying hs.und, run_sizeOf hs.info]
  · rename_i h
    have hh : h ≤ ((cap : Nat) : Int) := h2
    have : 0 ≤ h := by omega
    simp [Instr.sliceAt, Instr.slice, Instr.sliceBounds, Instr.sliceBound, asIntOf, iv, run_underlying hs.und, run_sizeOf hs.info, this, hh]
  · rename_i l
    have hl : l ≤ ((n : Nat) : Int) := h1
    simp [Instr.sliceAt, Instr.slice, Instr.sliceBounds, Instr.sliceBound, asIntOf, iv, run_underlying hs.und, run_sizeOf hs.info, hs.size, h0, hl]
  · rename_i l h
    have hh : h ≤ ((cap : Nat) : Int) := h2
    have h0' : 0 ≤ h := by omega
    have hl : l ≤ max h 0 := by omega
    simp [Instr.sliceAt, Instr.slice, Instr.sliceBounds, Instr.sliceBound, asIntOf, iv, run_underlying hs.und, run_sizeOf hs.info, hs.size, h0, hh, h0', hl]

theorem run_sliceAt3 {T : Nat} {t : Ty} {nb e : Nat} {i : TypeInfo} {z : Value} (hs : SlT P tab T t nb e i z) (ad : Option Addr) (n cap : Nat) (lo : Option Int) (h m : Int) (h0 : 0 ≤ lo.getD 0) (h1 : lo.getD 0 ≤ h) (h2 : h ≤ m) (h3 : m ≤ (cap : Nat)) :
    (Instr.sliceAt T (.slice ad n cap) (iv lo) (iv (some h)) (iv (some m))).run P w =
      .ok (.slice (if m.toNat = (lo.getD 0).toNat then ad else ad.map (·.add ((lo.getD 0).toNat * t.width))) (h.toNat - (lo.getD 0).toNat) (m.toNat - (lo.getD 0).toNat)) w := by
  have a1 : 0 ≤ h := by omega
  have a2 : 0 ≤ m := by omega
  have a3 : h ≤ max m 0 := by omega
  cases lo <;> simp only [Option.getD_some, Option.getD_none] at h0 h1 ⊢
  · simp [Instr.sliceAt, Instr.slice, Instr.sliceBounds, Instr.sliceBound, asIntOf, iv, run_underlying hs.und, run_sizeOf hs.info, a1, a2, a3, h3]
  · rename_i l
    have hl : l ≤ max h 0 := by omega
    simp [Instr.sliceAt, Instr.slice, Instr.sliceBounds, Instr.sliceBound, asIntOf, iv, run_underlying hs.und, run_sizeOf hs.info, hs.size, a1, a2, a3, h0, h3, hl]

theorem slc_get' {α : Type} (l : List α) (lo hi i : Nat) (d : α) (h : i < hi - lo) : nth (slc l lo hi) i d = nth l (lo + i) d := by
  have h1 : (slc l lo hi)[i]? = l[lo + i]? := by
    unfold slc
    simp only [List.getElem?_drop, List.getElem?_take]
    rw [if_pos (by omega)]
  simp only [nth, List.getD, h1]

theorem slc_len' {α : Type} (l : List α) (lo hi : Nat) (h : hi ≤ l.length) : (slc l lo hi).length = hi - lo := by
  unfold slc
  simp; omega

/-- A piece of a list reads as a piece. -/
theorem rep_slc {t : Ty} {l : List t.den} {ad : Option Addr} {n cap lo hi : Nat} (h : RepC tab w S (.dat (.list t) l) (.slice ad n cap)) (h1 : lo ≤ hi) (h2 : hi ≤ l.length) :
    RepC tab w S (.dat (.list t) (slc l lo hi)) (.slice (if cap = lo then ad else ad.map (·.add (lo * t.width))) (hi - lo) (cap - lo)) := by
  have hlen := slc_len' l lo hi h2
  by_cases he : hi - lo = 0
  · have : slc l lo hi = [] := List.eq_nil_of_length_eq_zero (by omega)
    rw [this, he]
    exact .empty t _ _
  · cases h with
    | empty t a cap => simp at h2; omega
    | list t l b off cap cs hS hcap hc hr =>
      have hne : ¬ cap = lo := by omega
      rw [if_neg hne, Option.map_some, at0, Addr.add_lit, ← hlen]
      refine .list t (slc l lo hi) b (off + lo * t.width) (cap - lo) (fun i j => cs (lo + i) j) hS (by omega) (fun i j hi' hj => ?_) (fun i j c hi' hj => ?_)
      · have := hc (lo + i) j (by omega) hj
        rw [Nat.add_mul] at this
        rw [← this]
        congr 2
        omega
      · rw [slc_get' l lo hi i t.dflt (by omega)] at hj
        exact hr (lo + i) j c (by omega) hj

theorem optAt_val {lo : Option Operand} {vs vs' : List V} {l : Option Int} {a : Act} (h : optAt lo vs = some (l, vs')) : ∀ {xs : List Value}, (∀ op, lo = some op → ∃ y ys, xs = y :: ys ∧ a.eval op = y) → RelVs tab μ mem w S vs xs →
    lo.map a.eval = iv l ∧ ∃ xs', RelVs tab μ mem w S vs' xs' ∧ xs' = (match lo with | none => xs | some _ => xs.tail) := by
  intro xs hx hr
  cases lo with
  | none => simp only [optAt] at h; cases h; exact ⟨rfl, xs, hr, rfl⟩
  | some op =>
    simp only [optAt] at h
    split at h <;> try cases h
    rename_i n rest
    obtain ⟨y, ys, rfl, e⟩ := hx op rfl
    obtain ⟨h1, h2⟩ := hr
    have := rel_int h1
    exact ⟨by simp [iv, e, this], ys, h2, rfl⟩

theorem op_slice {o : Oper} {a : Act} {T : Nat} {ti : TI} {x : Operand} {lo hi mx : Option Operand} {c : C} {l h m : Option Int} {lm : Mem} {p : Option Prop} {v : V} {mm : Mem} (hT : TabOk P tab) (ho : o.op = .slice T x lo hi mx) (ht : tyAt tab T = some ti)
    (I : Inv tab μ mem w S) (hs : Sees lm mem) (hx : RelV tab μ mem w S (.one c) (a.eval x)) (hl : lo.map a.eval = iv l) (hh : hi.map a.eval = iv h) (hm : mx.map a.eval = iv m) (hX : sliceX ti lm c l h m = some (p, v, mm)) (hp : under p True) :
    Runs P o a w (After tab μ mem w S mm v) := by
  have fin : ∀ y, (Instr.sliceAt T (a.eval x) (iv l) (iv h) (iv m)).run P w = .ok y w → RelV tab μ mem w S v y → mm = [] → Runs P o a w (After tab μ mem w S mm v) := fun y hr hv e => by
    subst e
    exact runs_of (s := Instr.sliceAt T (a.eval x) (lo.map a.eval) (hi.map a.eval) (mx.map a.eval)) (by simp only [execOp, ho]) (by rw [hl, hh, hm]; exact hr) (after_same I hv)
  cases c with
  | dat t' d =>
    cases t' with
    | list t =>
      simp only [sliceX] at hX
      split at hX <;> try cases hX
      rename_i hk
      obtain ⟨g0, g1, g2⟩ : 0 ≤ l.getD 0 ∧ l.getD 0 ≤ h.getD ((d : List t.den).length : Nat) ∧ h.getD ((d : List t.den).length : Nat) ≤ ((d : List t.den).length : Nat) := hp.1
      obtain ⟨e, i, z, hsl⟩ := und_slice hT ht hk
      obtain ⟨ad, cap, ex, hcap⟩ := rep_slice hx.2
      rw [ex] at hx
      refine fin _ (by rw [ex]; exact run_sliceAt hsl ad _ cap l h g0 g1 (by omega)) ⟨rfl, ?_⟩ rfl
      exact rep_slc (lo := (l.getD 0).toNat) (hi := (h.getD (((d : List t.den).length : Nat) : Int)).toNat) hx.2 (by omega) (by omega)
    | _ => simp only [sliceX] at hX; cases hX
  | nil t =>
    simp only [sliceX] at hX
    split at hX <;> try cases hX
    rename_i hk
    obtain ⟨g0, g1⟩ := hp.1
    obtain ⟨e, i, z, hsl⟩ := und_slice hT ht hk
    obtain ⟨_, ex⟩ := hx
    refine fin (.slice none 0 0) ?_ ⟨rfl, rfl⟩ rfl
    rw [ex]
    have := run_sliceAt (P := P) (w := w) hsl none 0 0 l h (by omega) (by rw [g0]; simpa using Int.le_of_eq g1.symm) (by simpa using Int.le_of_eq g1)
    rw [g0] at this
    simp only [Int.toNat_zero] at this
    simpa [iv, g1] using this
  | own r =>
    simp only [sliceX] at hX
    split at hX <;> try cases hX
    rename_i t ll hll
    split at hX <;> try cases hX
    rename_i hk
    obtain ⟨e, i, z, hsl⟩ := und_slice hT ht hk
    obtain ⟨hmem, hμ, hrel⟩ := own_arr hs I hll hx
    -- what the value is
    obtain ⟨ad, cap, ex, hcap, had⟩ : ∃ ad cap, a.eval x = .slice ad ll.length cap ∧ ll.length ≤ cap ∧ (∀ k, ad.map (·.add k) = ad.map fun q => at0 q.block (q.off + k)) := by
      rcases hrel with ⟨ex, rfl⟩ | ⟨b, cap, cur, e', ex, hb, h3, _⟩
      · exact ⟨none, 0, ex, Nat.le_refl _, fun _ => rfl⟩
      · exact ⟨_, cap, ex, h3, fun k => by simp [at0, Addr.add_lit]⟩
    have done : ∀ (lo' hi' mx' : Nat), lo' ≤ hi' → hi' ≤ mx' → mx' ≤ cap →
        RelV tab μ mem w S (.one (.view r lo' (hi' - lo'))) (.slice (if mx' = lo' then ad else ad.map (·.add (lo' * t.width))) (hi' - lo') (mx' - lo')) := fun lo' hi' mx' q1 q2 q3 => by
      refine ⟨rfl, by rw [hmem]; exact (fun h => by cases h), fun t' l' hl' => ?_⟩
      rw [hmem] at hl'; cases hl'
      refine ⟨_, hμ, ad, ll.length, cap, _, mx' - lo', ex, rfl, fun h0 => ?_, fun hpos => ?_, by omega, by omega⟩
      · subst h0
        split
        · rfl
        · cases ad with
          | none => rfl
          | some q => simp [Addr.add_zero']
      · rw [if_neg (by omega), had]
    cases m with
    | none =>
      cases hX
      obtain ⟨g0, g1, g2⟩ : 0 ≤ l.getD 0 ∧ l.getD 0 ≤ h.getD (ll.length : Nat) ∧ h.getD (ll.length : Nat) ≤ (ll.length : Nat) := hp.1
      refine fin _ (by rw [ex]; exact run_sliceAt hsl ad _ cap l h g0 g1 (by omega)) ?_ rfl
      have := done (l.getD 0).toNat (h.getD (ll.length : Nat)).toNat cap (by omega) (by omega) (Nat.le_refl _)
      have e1 : (h.getD ((len ll : Nat) : Int) - l.getD 0).toNat = (h.getD (ll.length : Nat)).toNat - (l.getD 0).toNat := by
        show (h.getD (ll.length : Nat) - l.getD 0).toNat = _
        omega
      rw [e1]
      exact this
    | some m =>
      simp only at hX
      split at hX <;> try cases hX
      rename_i h
      obtain ⟨g0, g1, g2, g3⟩ : 0 ≤ l.getD 0 ∧ l.getD 0 ≤ h ∧ h ≤ m ∧ m ≤ (ll.length : Nat) := hp.1
      refine fin _ (by rw [ex]; exact run_sliceAt3 hsl ad _ cap l h m g0 g1 g2 (by omega)) ?_ rfl
      have := done (l.getD 0).toNat h.toNat m.toNat (by omega) (by omega) (by omega)
      have e1 : (h - l.getD 0).toNat = h.toNat - (l.getD 0).toNat := by omega
      rw [e1]
      exact this
  | _ => simp only [sliceX] at hX; cases hX
end
end Vm
end Go.Proofs.YtlbppjmekiemiabDoor

/- The executor on data: structs and slices that are written out. No condition. -/
namespace Go.Proofs.YtlbppjmekiemiabDoor
namespace Vm
section
variable {P : Program} {tab : Tab} {μ μ' : Mu} {mem mem' : MemF} {w w' : World} {S S' : Nat → Prop}

/-- Cells that are these data, one by one. -/
def RelL (R : C → Value → Prop) (cs : List C) (xs : List Value) : Prop := xs.length = cs.length ∧ ∀ (i : Nat) c, cs[i]? = some c → ∃ y, xs[i]? = some y ∧ R c y

theorem fill_fold (off : Nat) : ∀ (ys : List Value) (k : Nat) (cells : Array Value), off + k + ys.length ≤ cells.size →
    ((ys.zipIdx k).foldl (fun cs (c, j) => cs.setIfInBounds (off + j) c) cells).toList = cells.toList.take (off + k) ++ ys ++ cells.toList.drop (off + k + ys.length) := by
  intro ys
  induction ys with
  | nil => intro k cells _; simp
  | cons y ys ih =>
    intro k cells h
    simp only [List.length_cons] at h
    simp only [List.zipIdx_cons, List.foldl_cons]
    rw [ih (k + 1) _ (by simp; omega)]
    apply List.ext_getElem?
    intro i
    have e1 : (List.take (off + (k + 1)) (cells.setIfInBounds (off + k) y).toList).length = off + (k + 1) := by simp; omega
    have e2 : (List.take (off + k) cells.toList).length = off + k := by simp; omega
    simp only [List.append_assoc]
    by_cases h1 : i < off + k
    · rw [List.getElem?_append_left (by omega), List.getElem?_append_left (by omega), List.getElem?_take_of_lt (by omega), List.getElem?_take_of_lt h1]
      simp only [Array.toList_setIfInBounds]
      rw [List.getElem?_set_ne (by omega)]
    · by_cases h2 : i = off + k
      · subst h2
        rw [List.getElem?_append_left (by omega), List.getElem?_take_of_lt (by omega), List.getElem?_append_right (by omega), e2]
        simp [show off + k < cells.size by omega]
      · have L : (List.take (off + (k + 1)) (cells.setIfInBounds (off + k) y).toList ++ (ys ++ List.drop (off + (k + 1) + ys.length) (cells.setIfInBounds (off + k) y).toList))[i]? =
            (ys ++ List.drop (off + (k + 1) + ys.length) (cells.setIfInBounds (off + k) y).toList)[i - (off + (k + 1))]? := by
          rw [List.getElem?_append_right (by omega), e1]
        have R : (List.take (off + k) cells.toList ++ (y :: ys ++ List.drop (off + k + (y :: ys).length) cells.toList))[i]? =
            (ys ++ List.drop (off + k + (y :: ys).length) cells.toList)[i - (off + (k + 1))]? := by
          rw [List.getElem?_append_right (by omega), e2, show i - (off + k) = (i - (off + (k + 1))) + 1 by omega, List.cons_append, List.getElem?_cons_succ]
        rw [L, R]
        by_cases h3 : i - (off + (k + 1)) < ys.length
        · rw [List.getElem?_append_left h3, List.getElem?_append_left h3]
        · rw [List.getElem?_append_right (by omega), List.getElem?_append_right (by omega), List.getElem?_drop, List.getElem?_drop]
          simp only [Array.toList_setIfInBounds]
          rw [List.getElem?_set_ne (by omega)]
          congr 1
          simp only [List.length_cons]
          omega

theorem put_RelL {R : C → Value → Prop} {old cs : List C} {cur ys : List Value} {o : Nat} (ho : o + cs.length ≤ old.length) (h1 : RelL R old cur) (h2 : RelL R cs ys) :
    RelL R (put old o cs) (cur.take o ++ ys ++ cur.drop (o + ys.length)) := by
  refine ⟨?_, put_rel ho h2.1 (by rw [h1.1]; exact ho) h1.2 h2.2⟩
  simp [put, h1.1, h2.1]

theorem fill_rel {R : C → Value → Prop} {place : Nat → Option (Nat × Nat)} : ∀ (fs : List (Nat × List C)) (ixs : List Nat) (vs : List (Nat × Value)) (old new : List C) (cells : Array Value),
    RelL R old cells.toList → placeAll old fs = some new → vs.map (·.1) = ixs → fs.length = vs.length →
    (∀ (i : Nat) f v, fs[i]? = some f → vs[i]? = some v → place v.1 = some (f.1, f.2.length) ∧ RelL R f.2 v.2.cells.toList) →
    ∃ cells', Instr.fill place cells vs = some cells' ∧ RelL R new cells'.toList := by
  intro fs
  induction fs with
  | nil =>
    intro ixs vs old new cells hr hp _ hl _
    cases vs with
    | nil => simp only [placeAll] at hp; cases hp; exact ⟨cells, rfl, hr⟩
    | cons v vs => simp at hl
  | cons f fs ih =>
    intro ixs vs old new cells hr hp hix hl hall
    cases vs with
    | nil => simp at hl
    | cons v vs =>
      obtain ⟨off, cs⟩ := f
      simp only [placeAll] at hp
      split at hp <;> try cases hp
      rename_i hle
      have hle' := Nat.le_of_ble_eq_true hle
      obtain ⟨e1, e2⟩ := hall 0 _ _ rfl rfl
      have hcs : v.2.cells.size = cs.length := by have := e2.1; simpa using this
      have hfit : off + v.2.cells.toList.length ≤ cells.size := by
        have := hr.1
        simp at this ⊢
        omega
      have hset := fill_fold off v.2.cells.toList 0 cells (by simpa using hfit)
      simp only [Nat.add_zero] at hset
      have hrel := put_RelL hle' hr e2
      rw [← hset] at hrel
      obtain ⟨cells', k1, k2⟩ := ih (vs.map (·.1)) vs (put old off cs) new _ hrel hp rfl (by simpa using hl) (fun i f v hf hv => hall (i + 1) f v hf hv)
      refine ⟨cells', ?_, k2⟩
      have hz : (v.2.cells.zipIdx).foldl (fun cs (c, j) => cs.setIfInBounds (off + j) c) cells = (v.2.cells.toList.zipIdx 0).foldl (fun cs (c, j) => cs.setIfInBounds (off + j) c) cells := by
        rw [← Array.foldl_toList]
        simp
      simp only [Instr.fill, e1, hcs]
      rw [if_neg (by
        have := hfit
        simp at this
        simp; omega), hz]
      exact k1

theorem placeAll_len : ∀ {fs : List (Nat × List C)} {z new : List C}, placeAll z fs = some new → new.length = z.length := by
  intro fs
  induction fs with
  | nil => intro z new h; simp only [placeAll] at h; cases h; rfl
  | cons f fs ih =>
    intro z new h
    obtain ⟨off, cs⟩ := f
    simp only [placeAll] at h
    split at h <;> try cases h
    rename_i hle
    have hle' := Nat.le_of_ble_eq_true hle
    rw [ih h]
    simp [put]; omega

theorem fieldsAt_get : ∀ {offs sizes ixs : List Nat} {vs : List V} {fs : List (Nat × List C)}, fieldsAt offs sizes ixs vs = some fs →
    fs.length = ixs.length ∧ ixs.length = vs.length ∧ ∀ (j : Nat) f, fs[j]? = some f → ∃ i v, ixs[j]? = some i ∧ vs[j]? = some v ∧ offs[i]? = some f.1 ∧ sizes[i]? = some f.2.length ∧ v.cells = some f.2 := by
  intro offs sizes ixs
  induction ixs with
  | nil =>
    intro vs fs h
    cases vs with
    | nil => simp only [fieldsAt] at h; cases h; exact ⟨rfl, rfl, fun j f hj => by simp at hj⟩
    | cons v vs => simp only [fieldsAt] at h; cases h
  | cons i ixs ih =>
    intro vs fs h
    cases vs with
    | nil => simp only [fieldsAt] at h; cases h
    | cons v vs =>
      simp only [fieldsAt] at h
      split at h <;> try cases h
      rename_i o n cs r h1 h2 h3 h4
      split at h <;> try cases h
      rename_i hb
      have hb' := Nat.eq_of_beq_eq_true hb
      obtain ⟨e1, e2, e3⟩ := ih h4
      refine ⟨by simp [e1], by simp [e2], fun j f hj => ?_⟩
      cases j with
      | zero => simp at hj; subst hj; exact ⟨i, v, rfl, rfl, h1, by rw [hb']; exact h2, h3⟩
      | succ j => simp at hj; simpa using e3 j f hj

theorem relVs_get : ∀ {vs : List V} {xs : List Value}, RelVs tab μ mem w S vs xs → ∀ (i : Nat) v, vs[i]? = some v → ∃ x, xs[i]? = some x ∧ RelV tab μ mem w S v x
  | [], [], _, i, v, h => by simp at h
  | _ :: vs, x :: xs, hr, 0, v, h => by simp at h; subst h; exact ⟨x, rfl, hr.1⟩
  | _ :: vs, _ :: xs, hr, i + 1, v, h => by simpa using relVs_get hr.2 i v (by simpa using h)
  | [], _ :: _, hr, _, _, _ => hr.elim
  | _ :: _, [], hr, _, _, _ => hr.elim

theorem op_build {o : Oper} {a : Act} {T : Nat} {ti : TI} {ps : Array (Nat × Operand)} {vs : List V} {fs : List (Nat × List C)} {cs : List C} (hT : TabOk P tab) (ho : o.op = .build T ps) (ht : tyAt tab T = some ti) (hk : ti.agg = true)
    (I : Inv tab μ mem w S) (hv : RelVs tab μ mem w S vs (ps.toList.map fun p => a.eval p.2)) (hf : fieldsAt ti.offs ti.sizes (ps.toList.map (·.1)) vs = some fs) (hp : placeAll ti.zero fs = some cs) :
    Runs P o a w (After tab μ mem w S [] (.agg cs)) := by
  obtain ⟨i, z, h1, h2, h3, h4, _⟩ := (hT.ok T ti ht).info
  have hkind := (hT.ok T ti ht).kind
  obtain ⟨q1, q2⟩ := zero_rel (tab := tab) (μ := μ) (mem := mem) (w := w) (S := S) h4
  obtain ⟨e1, e2, e3⟩ := fieldsAt_get hf
  have hmap : (ps.map fun p => (p.1, a.eval p.2)).toList.map (·.1) = ps.toList.map (·.1) := by simp
  have key : ∀ place : Nat → Option (Nat × Nat), (∀ (j o' n : Nat), ti.offs[j]? = some o' → ti.sizes[j]? = some n → place j = some (o', n)) →
      ∃ cells', Instr.fill place z.cells (ps.map fun p => (p.1, a.eval p.2)).toList = some cells' ∧ RelL (fun c y => y.oneCell' = true ∧ RelC tab μ mem w S c y) cs cells'.toList := fun place hpl => by
    refine fill_rel fs _ _ ti.zero cs z.cells ⟨q1, q2⟩ hp hmap (by simp [e1]) (fun j f v hf' hv' => ?_)
    obtain ⟨ix, v', g1, g2, g3, g4, g5⟩ := e3 j f hf'
    obtain ⟨x, k1, k2⟩ := relVs_get hv j v' g2
    simp only [List.getElem?_map, Option.map_eq_some_iff] at g1 k1
    obtain ⟨p1, r1, r2⟩ := g1
    obtain ⟨p2, r3, r4⟩ := k1
    rw [r1] at r3; cases r3
    have hv2 : v = (p1.1, a.eval p1.2) := by
      simp only [Array.toList_map, List.getElem?_map, r1, Option.map_some] at hv'
      exact (Option.some.inj hv').symm
    subst hv2
    refine ⟨by rw [r2]; exact hpl ix f.1 f.2.length g3 g4, ?_⟩
    obtain ⟨c1, c2⟩ := relV_cells (r4 ▸ k2) g5
    exact ⟨by simpa using c1, fun i c hi => by obtain ⟨y, y1, y2, y3⟩ := c2 i c hi; exact ⟨y, by simpa using y1, y2, y3⟩⟩
  have fin : ∀ cells', P.built T (ps.map fun p => (p.1, a.eval p.2)).toList = some cells' → RelL (fun c y => y.oneCell' = true ∧ RelC tab μ mem w S c y) cs cells'.toList → Runs P o a w (After tab μ mem w S [] (.agg cs)) := fun cells' hb hr => by
    refine runs_of (s := Instr.build T (ps.map fun p => (p.1, a.eval p.2))) (x := .agg cells') (w' := w) (by simp only [execOp, ho]) (run_build w T _ cells' hb) (after_same I ⟨cells', rfl, by have := hr.1; simpa using this, fun i c hi => ?_⟩)
    obtain ⟨y, y1, y2, y3⟩ := hr.2 i c hi
    exact ⟨y, by simpa using y1, y2, y3⟩
  unfold TI.agg at hk
  cases hkd : ti.kd with
  | struct =>
    rw [hkd] at hkind
    obtain ⟨ff, k1, k2, k3, k4⟩ := hkind
    obtain ⟨cells', g1, g2⟩ := key (fun j => (ti.offs.zip ti.sizes).toArray[j]?) (fun j o' n g1 g2 => by
      simp only [List.getElem?_toArray]
      rw [List.getElem?_zip_eq_some]
      exact ⟨g1, g2⟩)
    refine fin cells' ?_ g2
    simp only [Program.built, h1, k1, h3, k2]
    exact g1
  | array n sz =>
    rw [hkd] at hkind
    obtain ⟨e, ie, k1, k2, k3, k4, k5, k6, _⟩ := hkind
    have hlen : ti.offs.length = n ∧ ti.sizes.length = n := by rw [k5, k6]; simp
    obtain ⟨cells', g1, g2⟩ := key (fun j => some (j * ie.size, ie.size)) (fun j o' n' g1 g2 => by
      rw [k5] at g1; rw [k6] at g2
      have hj : j < n := by have := (List.getElem?_eq_some_iff.1 g1).1; simpa using this
      simp [hj] at g1
      simp [hj] at g2
      rw [k3, ← g1, ← g2])
    refine fin cells' ?_ g2
    simp only [Program.built, h1, k1, h3, k2]
    exact g1
  | _ => rw [hkd] at hk; cases hk
end
end Vm
end Go.Proofs.YtlbppjmekiemiabDoor

/- The executor on data: slices that are written out. No condition. -/
namespace Go.Proofs.YtlbppjmekiemiabDoor
namespace Vm
section
variable {P : Program} {tab : Tab} {μ μ' : Mu} {mem mem' : MemF} {w w' : World} {S S' : Nat → Prop}

def rep (n : Nat) (zc : List C) : List C := (List.replicate n zc).flatten

theorem rep_len (n : Nat) (zc : List C) : (rep n zc).length = n * zc.length := by simp [rep]

theorem rep_succ (n : Nat) (zc : List C) : rep (n + 1) zc = zc ++ rep n zc := by simp [rep, List.replicate_succ]

theorem flat_get {α β : Type} {wd : Nat} {f : α → List β} (hf : ∀ a, (f a).length = wd) : ∀ (l : List α) (q j : Nat) (h : q < l.length), j < wd → (l.flatMap f)[q * wd + j]? = (f l[q])[j]?
  | [], q, j, h, _ => by simp at h
  | a :: l, 0, j, _, hj => by simp [List.flatMap_cons, List.getElem?_append_left, hf, hj]
  | a :: l, q + 1, j, h, hj => by
    have := flat_get hf l q j (by simpa using h) hj
    rw [List.flatMap_cons, List.getElem?_append_right (by rw [hf, Nat.add_mul]; omega), hf, show (q + 1) * wd + j - wd = q * wd + j by rw [Nat.add_mul]; omega]
    simpa using this

theorem elems_le {lm : Mem} {t : Ty} : ∀ {n i : Nat} {ixs : List Nat} {vs : List V} {l : List t.den} {ns : List Nat}, elemsAt tab lm t n i ixs vs = some (l, ns) → vs.length ≤ n := by
  intro n
  induction n with
  | zero => intro i ixs vs l ns h; cases ixs <;> cases vs <;> simp only [elemsAt] at h <;> first | cases h; done | simp
  | succ n ih =>
    intro i ixs vs l ns h
    cases ixs with
    | nil => cases vs with
      | nil => simp
      | cons v us => simp only [elemsAt] at h; cases h
    | cons j js => cases vs with
      | nil => simp
      | cons v us =>
        simp only [elemsAt] at h
        split at h
        · split at h <;> try cases h
          split at h <;> try cases h
          split at h <;> try cases h
          split at h <;> try cases h
          rename_i h'
          have := ih h'
          simp; omega
        · split at h <;> try cases h
          rename_i h'
          have := ih h'
          omega

theorem elems_place {lm : Mem} {t : Ty} {zc : List C} (hz : zc.length = t.width) : ∀ (n i : Nat) (ixs : List Nat) (vs : List V) (l : List t.den) (ns : List Nat),
    elemsAt tab lm t n i ixs vs = some (l, ns) → (vs.length = n ∨ zc = t.cells t.dflt) → ∀ pre : List C, pre.length = i * t.width →
    ∃ fs : List (Nat × List C), placeAll (pre ++ rep n zc) fs = some (pre ++ l.flatMap t.cells) ∧ fs.length = vs.length ∧ ixs.length = vs.length ∧ l.length = n ∧
      ∀ (k : Nat) f, fs[k]? = some f → ∃ ix v cs ds nk, ixs[k]? = some ix ∧ vs[k]? = some v ∧ f = (ix * t.width, ds) ∧ ds.length = t.width ∧ v.cells = some cs ∧ toDats tab lm cs = some (ds, nk) ∧ ∀ r ∈ nk, r ∈ ns := by
  intro n
  induction n with
  | zero =>
    intro i ixs vs l ns h _ pre _
    cases ixs <;> cases vs <;> simp only [elemsAt] at h <;> cases h
    exact ⟨[], by simp [placeAll, rep], rfl, rfl, rfl, fun k f hf => by simp at hf⟩
  | succ n ih =>
    intro i ixs vs l ns h hm pre hpre
    have miss : ∀ l', elemsAt tab lm t n (i + 1) ixs vs = some (l', ns) → l = t.dflt :: l' → ∃ fs : List (Nat × List C), placeAll (pre ++ rep (n + 1) zc) fs = some (pre ++ l.flatMap t.cells) ∧ fs.length = vs.length ∧ ixs.length = vs.length ∧ l.length = n + 1 ∧
      ∀ (k : Nat) f, fs[k]? = some f → ∃ ix v cs ds nk, ixs[k]? = some ix ∧ vs[k]? = some v ∧ f = (ix * t.width, ds) ∧ ds.length = t.width ∧ v.cells = some cs ∧ toDats tab lm cs = some (ds, nk) ∧ ∀ r ∈ nk, r ∈ ns := fun l' h' e => by
      subst e
      have hle := elems_le h'
      have hzc : zc = t.cells t.dflt := hm.resolve_left (by omega)
      obtain ⟨fs, g1, g2, g3, g4, g6⟩ := ih (i + 1) ixs vs l' ns h' (.inr hzc) (pre ++ zc) (by simp [hpre, hz, Nat.add_mul])
      refine ⟨fs, ?_, g2, g3, by simp [g4], g6⟩
      rw [rep_succ, ← List.append_assoc, g1]
      simp [hzc]
    cases ixs with
    | nil => cases vs with
      | nil =>
        simp only [elemsAt] at h
        split at h <;> try cases h
        rename_i h'
        exact miss _ h' rfl
      | cons v us => simp only [elemsAt] at h; cases h
    | cons j js => cases vs with
      | nil => simp only [elemsAt] at h; cases h
      | cons v us =>
        simp only [elemsAt] at h
        split at h
        · rename_i hij
          have hij' := Nat.eq_of_beq_eq_true hij
          split at h <;> try cases h
          rename_i cs hcs
          split at h <;> try cases h
          rename_i ds nk hds
          split at h <;> try cases h
          rename_i d hd
          split at h <;> try cases h
          rename_i l' ms h'
          have hdl : ds.length = t.width := by rw [← ofCells_cells hd, cells_len]
          obtain ⟨fs, g1, g2, g3, g4, g6⟩ := ih (i + 1) js us l' ms h' (hm.imp (fun e => by simpa using e) id) (pre ++ t.cells d) (by simp [hpre, cells_len, Nat.add_mul])
          refine ⟨(i * t.width, ds) :: fs, ?_, by simp [g2], by simp [g3], by simp [g4], fun k f hf => ?_⟩
          · simp only [placeAll]
            have hb : Nat.ble (i * t.width + ds.length) (pre ++ rep (n + 1) zc).length = true := by
              rw [Nat.ble_eq]
              simp [hpre, rep_len, hz, hdl, Nat.add_mul] <;> omega
            rw [hb]
            have hput : put (pre ++ rep (n + 1) zc) (i * t.width) ds = pre ++ t.cells d ++ rep n zc := by
              rw [ofCells_cells hd, rep_succ, ← hpre]
              unfold put
              have e1 : (pre ++ (zc ++ rep n zc)).take pre.length = pre := by simp
              have e2 : (pre ++ (zc ++ rep n zc)).drop (pre.length + ds.length) = rep n zc := by
                rw [hdl, ← hz, ← List.append_assoc]
                have : (pre ++ zc).length = pre.length + zc.length := by simp
                rw [← this, List.drop_left]
              rw [e1, e2]
            simp only [hput]
            rw [g1]
            simp
          · cases k with
            | zero => simp at hf; subst hf; exact ⟨j, v, cs, ds, nk, rfl, rfl, by rw [hij'], hdl, hcs, hds, fun r hr => by simp [hr]⟩
            | succ k =>
              simp at hf
              obtain ⟨ix, v', cs', ds', nk', q1, q2, q3, q4, q5, q6, q7⟩ := g6 k f hf
              exact ⟨ix, v', cs', ds', nk', by simpa using q1, by simpa using q2, q3, q4, q5, q6, fun r hr => by simp [q7 r hr]⟩
        · split at h <;> try cases h
          rename_i h'
          exact miss _ h' rfl

theorem run_buildSlice {T : Nat} {t : Ty} {nb e : Nat} {i : TypeInfo} {z : Value} (hs : SlT P tab T t nb e i z) (n : Nat) (hn : n * t.width ≤ 16777216) (parts : Array (Nat × Value)) (cells : Array Value)
    (h : Instr.fill (fun j => some (j * t.width, t.width)) (madeCells (if n * t.width = 0 then #[] else z.cells) (n * t.width)) parts.toList = some cells) :
    (Instr.buildSlice T n parts).run P w = .ok (.slice (some (at0 w.heap.size 0)) n n) (w.alloc (.cells cells e)) := by
  have hn' : ¬ 2 ^ 24 < n * t.width := by omega
  by_cases hz : n * t.width = 0
  · simp only [hz, if_true] at h
    simp only [Instr.buildSlice, Sem.run_bind, run_underlying hs.und, Result.andThen_ok, run_sizeOf hs.info, hs.size]
    simp [hz, madeCells] at h ⊢
    simp [h, newRow, at0]
  · simp only [hz, if_false] at h
    simp only [Instr.buildSlice, Sem.run_bind, run_underlying hs.und, Result.andThen_ok, run_sizeOf hs.info, hs.size]
    simp [hz, hn', run_zero hs.info hs.zero]
    simp only [madeCells] at h
    simp [h, newRow, at0]

theorem op_buildSlice {o : Oper} {a : Act} {T n base : Nat} {ti : TI} {t : Ty} {ps : Array (Nat × Operand)} {vs : List V} {l : List t.den} {ns : List Nat} {lm : Mem} (hT : TabOk P tab) (ho : o.op = .buildSlice T n ps) (ht : tyAt tab T = some ti) (hk : ti.isSlice t = true)
    (I : Inv tab μ mem w S) (hs : Sees lm mem) (hv : RelVs tab μ mem w S vs (ps.toList.map fun p => a.eval p.2)) (he : elemsAt tab lm t n 0 (ps.toList.map (·.1)) vs = some (l, ns)) (hn : n * t.width ≤ 16777216) (hm : vs.length = n ∨ t.noFn = true)
    (hb : mem base = none) (hne : base ∉ ns) : Runs P o a w (After tab μ mem w S ((base, .arr t l) :: deads ns) (.one (.own base))) := by
  obtain ⟨e, i, z, hsl⟩ := und_slice hT ht hk
  -- the row of cells that is there first
  obtain ⟨zc, hz1, hz2, hz3⟩ : ∃ zc : List C, zc.length = t.width ∧ (vs.length = n ∨ zc = t.cells t.dflt) ∧ RelL (fun c y => y.oneCell' = true ∧ (c = .undef ∨ RepC tab w (Froz μ mem S ns) c y)) zc z.cells.toList := by
    by_cases hf : t.noFn = true
    · refine ⟨t.cells t.dflt, cells_len _ _, .inr rfl, by simp [cells_len, hsl.zs], fun j c hj => ?_⟩
      obtain ⟨y, h1, h2, h3⟩ := hsl.zok hf j c hj
      exact ⟨y, h1, h2, .inr (h3 _ _)⟩
    · refine ⟨List.replicate t.width .undef, by simp, .inl (hm.resolve_right hf), by simp [hsl.zs], fun j c hj => ?_⟩
      have hjw : j < t.width := by have := (List.getElem?_eq_some_iff.1 hj).1; simpa using this
      simp [hjw] at hj
      have hjz : j < z.cells.toList.length := by simp [hsl.zs, hjw]
      exact ⟨z.cells.toList[j], List.getElem?_eq_getElem hjz, List.all_eq_true.1 hsl.zone _ (List.getElem_mem hjz), .inl hj.symm⟩
  obtain ⟨fs, g1, g2, g3, g4, g5⟩ := elems_place (lm := lm) hz1 n 0 _ vs l ns he hz2 [] (by simp)
  simp only [List.nil_append] at g1
  have hrow : RelL (fun c y => y.oneCell' = true ∧ (c = .undef ∨ RepC tab w (Froz μ mem S ns) c y)) (rep n zc) (madeCells (if n * t.width = 0 then #[] else z.cells) (n * t.width)).toList := by
    refine ⟨by simp [rep_len, hz1, size_madeCells], fun q c hq => ?_⟩
    have hql : q < n * t.width := by have := (List.getElem?_eq_some_iff.1 hq).1; rwa [rep_len, hz1] at this
    have hpos := hsl.pos
    have hne : ¬ n * t.width = 0 := by omega
    have hqd : q = q / t.width * t.width + q % t.width := by rw [Nat.mul_comm]; exact (Nat.div_add_mod q t.width).symm
    have hqm : q % t.width < t.width := Nat.mod_lt _ hpos
    have hqn : q / t.width < n := Nat.div_lt_of_lt_mul (by rw [Nat.mul_comm]; exact hql)
    have hc : zc[q % t.width]? = some c := by
      have := flat_get (f := fun (_ : Unit) => zc) (wd := t.width) (fun _ => hz1) (List.replicate n ()) (q / t.width) (q % t.width) (by simpa using hqn) hqm
      rw [← hqd] at this
      have hfl : (List.replicate n ()).flatMap (fun _ => zc) = rep n zc := by
        unfold rep
        rw [List.flatMap_def, List.map_replicate]
      rw [hfl, hq] at this
      exact this.symm
    obtain ⟨y, h1, h2⟩ := hz3.2 _ c hc
    have hget : z.cells[q % t.width]? = some y := by simpa using h1
    have hbang : z.cells[q % z.cells.size]! = y := by rw [hsl.zs, getElem!_def, hget]
    exact ⟨y, by simp [madeCells, hne, hql, hbang], h2⟩
  obtain ⟨cells, f1, f2⟩ := fill_rel (place := fun j => some (j * t.width, t.width)) fs _ (ps.map fun p => (p.1, a.eval p.2)).toList (rep n zc) _ _ hrow g1 (by simp : _ = ps.toList.map (·.1)) (by
      have := hv.len
      simp [g2, this]) (fun j f v hf' hv' => by
    obtain ⟨ix, v', cs, ds, nk, q1, q2, rfl, q4, q5, q6, q7⟩ := g5 j f hf'
    obtain ⟨x, k1, k2⟩ := relVs_get hv j v' q2
    simp only [List.getElem?_map, Option.map_eq_some_iff] at q1 k1
    obtain ⟨p1, r1, r2⟩ := q1
    obtain ⟨p2, r3, r4⟩ := k1
    rw [r1] at r3; cases r3
    have hv2 : v = (p1.1, a.eval p1.2) := by
      simp only [Array.toList_map, List.getElem?_map, r1, Option.map_some] at hv'
      exact (Option.some.inj hv').symm
    subst hv2
    obtain ⟨c1, c2⟩ := relV_cells (r4 ▸ k2) q5
    obtain ⟨_, d2, d3⟩ := toDats_rel I hs (fun i => (a.eval p1.2).cells.toList[i]?) (fun i c hi => by obtain ⟨y, y1, y2, y3⟩ := c2 i c hi; exact ⟨y, by simpa using y1, y2, y3⟩) q6
    refine ⟨by simp [r2, q4], by simp [c1, d2], fun i c hi => ?_⟩
    obtain ⟨y, y1, y2, y3⟩ := d3 i c hi
    exact ⟨y, y1, y2, .inr (y3.mono (fun b hb => hb.imp id fun ⟨r, hr, h⟩ => ⟨r, q7 r hr, h⟩) (fun _ _ => rfl))⟩)
  obtain ⟨E1, I1⟩ := kills_EI (ns := ns) I
  have hb1 : memU (deads ns) mem base = none := by
    rcases memU_deads (mem := mem) ns base with ⟨h1, _⟩ | ⟨_, h2⟩
    · exact absurd h1 hne
    · rw [h2]; exact hb
  have hl : (Loc.ar (.slice (some (at0 w.heap.size 0)) n n)).block = some w.heap.size ∨ (Loc.ar (.slice (some (at0 w.heap.size 0)) n n)).block = none := .inl rfl
  have E2 := alloc_E (μ := μ) (S := Froz μ mem S ns) (w := w) (o := .cells cells e) (B := .arr t l) hb1 hl
  have hsz : cells.size = n * t.width := by
    have := f2.1
    have h2 := placeAll_len g1
    rw [rep_len, hz1] at h2
    simp only [Array.length_toList] at this
    omega
  refine runs_of (s := Instr.buildSlice T n (ps.map fun p => (p.1, a.eval p.2))) (x := .slice (some (at0 w.heap.size 0)) n n) (w' := w.alloc (.cells cells e)) (by simp only [execOp, ho]) (run_buildSlice hsl n hn _ cells f1)
    ⟨muU base (.ar (.slice (some (at0 w.heap.size 0)) n n)) μ, Froz μ mem S ns, ?_, ?_, ?_⟩
  · rw [memU_cons]; exact E1.trans E2
  · rw [memU_cons]
    refine alloc_I hb1 hl I1 (.inr ⟨w.heap.size, n, cells, e, by rw [g4], heap_alloc_new w _, by omega, ?_, by omega, fun q j c hq hj => ?_⟩)
    · have hpos := hsl.pos
      have : n * 1 ≤ n * t.width := Nat.mul_le_mul_left n hpos
      unfold maxLen; omega
    · have hjw : j < t.width := by rw [← cells_len t (nth l q t.dflt)]; exact (List.getElem?_eq_some_iff.1 hj).1
      have hfl := flat_get (f := t.cells) (wd := t.width) (fun a => cells_len t a) l q j hq hjw
      rw [nth_get l q t.dflt hq] at hj
      rw [hj] at hfl
      obtain ⟨y, y1, y2, y3⟩ := f2.2 _ c hfl
      refine ⟨y, by simpa using y1, y2, (y3.resolve_left fun e => ?_).mono E2.sub (E2.keeps I1)⟩
      subst e
      have := List.mem_of_getElem? hj
      revert this
      cases t <;> simp [Ty.cells]
  · refine ⟨rfl, by rw [memU_cons, memU_eq]; exact (fun h => by cases h), fun t' l' _ => muU_eq⟩
end
end Vm
end Go.Proofs.YtlbppjmekiemiabDoor

/- The executor on data: what is read out of a slice; append. No condition. -/
namespace Go.Proofs.YtlbppjmekiemiabDoor
namespace Vm
section
variable {P : Program} {tab : Tab} {μ μ' : Mu} {mem mem' : MemF} {w w' : World} {S S' : Nat → Prop}

/-- A list's cells, as values. -/
def Cells (tab : Tab) (w : World) (S : Nat → Prop) (t : Ty) (l : List t.den) (ys : List Value) : Prop :=
  ys.length = l.length * t.width ∧ (∀ u ∈ ys, u.oneCell' = true) ∧ ∀ i j c, i < l.length → (t.cells (nth l i t.dflt))[j]? = some c → ∃ y, ys[i * t.width + j]? = some y ∧ RepC tab w S c y

theorem Cells.mono {t : Ty} {l : List t.den} {ys : List Value} (h : Cells tab w S t l ys) (hs : ∀ b, S b → S' b) (hh : ∀ b, S b → w'.heap[b]? = w.heap[b]?) : Cells tab w' S' t l ys :=
  ⟨h.1, h.2.1, fun i j c hi hj => by obtain ⟨y, h1, h2⟩ := h.2.2 i j c hi hj; exact ⟨y, h1, h2.mono hs hh⟩⟩

theorem cells_of {t : Ty} {l : List t.den} (f : Nat → Value) (hpos : 0 < t.width) (h : ∀ i j c, i < l.length → (t.cells (nth l i t.dflt))[j]? = some c → (f (i * t.width + j)).oneCell' = true ∧ RepC tab w S c (f (i * t.width + j))) :
    Cells tab w S t l ((List.range (l.length * t.width)).map f) := by
  have idx : ∀ q, q < l.length * t.width → q / t.width < l.length ∧ q % t.width < t.width ∧ q / t.width * t.width + q % t.width = q := fun q hq =>
    ⟨Nat.div_lt_of_lt_mul (by rw [Nat.mul_comm]; exact hq), Nat.mod_lt _ hpos, by rw [Nat.mul_comm]; exact Nat.div_add_mod q t.width⟩
  have cell : ∀ i j, i < l.length → j < t.width → ∃ c, (t.cells (nth l i t.dflt))[j]? = some c := fun i j _ hj => len_of_get (cells_len t _) j hj
  refine ⟨by simp, fun u hu => ?_, fun i j c hi hj => ?_⟩
  · simp only [List.mem_map, List.mem_range] at hu
    obtain ⟨q, hq, rfl⟩ := hu
    obtain ⟨h1, h2, h3⟩ := idx q hq
    obtain ⟨c, hc⟩ := cell _ _ h1 h2
    have := (h _ _ c h1 hc).1
    rwa [h3] at this
  · have hjw : j < t.width := by rw [← cells_len t (nth l i t.dflt)]; exact (List.getElem?_eq_some_iff.1 hj).1
    have hlt : i * t.width + j < l.length * t.width := by
      have : (i + 1) * t.width ≤ l.length * t.width := Nat.mul_le_mul_right _ (by omega)
      rw [Nat.add_mul] at this; omega
    exact ⟨f (i * t.width + j), by simp [hlt], (h i j c hi hj).2⟩

theorem width_pos (t : Ty) : 0 < t.width := by cases t <;> simp [Ty.width]

/-- What stands in an own array, at its begin. -/
theorem own_cells {t : Ty} {l : List t.den} {cap : Nat} {cur : Array Value} (hcap : l.length ≤ cap) (hsz : cap * t.width ≤ cur.size)
    (h : ∀ i j c, i < l.length → (t.cells (nth l i t.dflt))[j]? = some c → ∃ y, cur[i * t.width + j]? = some y ∧ y.oneCell' = true ∧ RepC tab w S c y) (lo hi : Nat) (h1 : lo ≤ hi) (h2 : hi ≤ l.length) :
    Cells tab w S t (slc l lo hi) ((cur.toList.drop (lo * t.width)).take ((hi - lo) * t.width)) := by
  have hlen := slc_len' l lo hi h2
  have hm1 : lo * t.width + (hi - lo) * t.width = hi * t.width := by rw [← Nat.add_mul]; congr 1; omega
  have hm2 : hi * t.width ≤ cap * t.width := Nat.mul_le_mul_right _ (by omega)
  refine ⟨by simp [hlen]; omega, fun u hu => ?_, fun i j c hi' hj => ?_⟩
  · obtain ⟨q, hq, rfl⟩ := List.getElem_of_mem hu
    simp at hq
    have hq1 : q < (hi - lo) * t.width := by omega
    have hpos := width_pos t
    have e1 : q / t.width < hi - lo := Nat.div_lt_of_lt_mul (by rw [Nat.mul_comm]; exact hq1)
    have e2 : q / t.width * t.width + q % t.width = q := by rw [Nat.mul_comm]; exact Nat.div_add_mod q t.width
    obtain ⟨c, hc⟩ := len_of_get (cells_len t (nth l (lo + q / t.width) t.dflt)) (q % t.width) (Nat.mod_lt _ hpos)
    obtain ⟨y, y1, y2, _⟩ := h _ _ c (by omega) hc
    have : ((cur.toList.drop (lo * t.width)).take ((hi - lo) * t.width))[q]? = some y := by
      rw [List.getElem?_take_of_lt hq1, List.getElem?_drop, ← y1, Nat.add_mul, Nat.add_assoc, e2]
      simp
    rw [List.getElem?_eq_getElem (by simp; omega)] at this
    rw [Option.some.inj this]
    exact y2
  · have hjw : j < t.width := by rw [← cells_len t (nth (slc l lo hi) i t.dflt)]; exact (List.getElem?_eq_some_iff.1 hj).1
    rw [slc_get' l lo hi i t.dflt (by omega)] at hj
    obtain ⟨y, y1, _, y3⟩ := h _ _ c (by omega) hj
    have hlt : i * t.width + j < (hi - lo) * t.width := by
      have : (i + 1) * t.width ≤ (hi - lo) * t.width := Nat.mul_le_mul_right _ (by omega)
      rw [Nat.add_mul] at this; omega
    refine ⟨y, ?_, y3⟩
    rw [List.getElem?_take_of_lt hlt, List.getElem?_drop, ← y1, Nat.add_mul, Nat.add_assoc]
    simp

/-- A source: its length, its cells; the first ones of them. -/
theorem readL_srcQ {lm : Mem} {c : C} {x : Value} {rd : RdL} (hs : Sees lm mem) (I : Inv tab μ mem w S) (hx : RelV tab μ mem w S (.one c) x) (h : readL lm c = some rd) (hp : under rd.pre True) :
    ∃ xa cap ys, x = .slice xa rd.l.length cap ∧ Cells tab w S rd.t rd.l ys ∧ ∀ q, q ≤ rd.l.length → ∀ k k', (Builtin.firstCells rd.t.width q (.slice xa k k')).run P w = .ok (ys.take (q * rd.t.width)).toArray w ∧ (Builtin.firstCells rd.t.width q (.slice xa k k')).run P w.drew = .ok (ys.take (q * rd.t.width)).toArray w.drew := by
  have empty : ∀ (xa : Option Addr) (cap : Nat) (t : Ty), ∃ ys, Cells tab w S t ([] : List t.den) ys ∧ ∀ q, q ≤ 0 → ∀ k k', (Builtin.firstCells t.width q (.slice xa k k')).run P w = .ok (ys.take (q * t.width)).toArray w ∧ (Builtin.firstCells t.width q (.slice xa k k')).run P w.drew = .ok (ys.take (q * t.width)).toArray w.drew := fun xa cap t => by
    refine ⟨[], ⟨by simp, fun u hu => by simp at hu, fun i j c hi => by simp at hi⟩, fun q hq k k' => ?_⟩
    have hq0 : q = 0 := by omega
    subst hq0
    cases xa <;> simp [Builtin.firstCells, loadCells, loadCellsFrom]
  have cellsRun : ∀ (b off n : Nat) (wd : Nat) (ys : List Value), ys.length = n * wd → (∀ (j : Nat) v, ys[j]? = some v → w.cell? (at0 b (off + j)) = some v) → ∀ q, q ≤ n → (loadCells (at0 b off) (q * wd)).run P w = .ok (ys.take (q * wd)).toArray w ∧ (loadCells (at0 b off) (q * wd)).run P w.drew = .ok (ys.take (q * wd)).toArray w.drew := fun b off n wd ys0 hn0 hc0 q hq => by
    have hle : q * wd ≤ n * wd := Nat.mul_le_mul_right _ hq
    have hc : ∀ (j : Nat) v, (ys0.take (q * wd))[j]? = some v → w.cell? (at0 b (off + j)) = some v := fun j v hj => by
      have hjl : j < q * wd := by have := (List.getElem?_eq_some_iff.1 hj).1; simp at this; omega
      rw [List.getElem?_take_of_lt hjl] at hj
      exact hc0 j v hj
    have hl : (ys0.take (q * wd)).length = q * wd := by simp; omega
    generalize ys0.take (q * wd) = ys at hc hl ⊢
    rw [← hl]
    have hc' : ∀ (j : Nat) v, ys[j]? = some v → w.cell? ((at0 b off).add j) = some v := fun j v hj => by rw [at0, Addr.add_lit]; exact hc j v hj
    exact ⟨run_loadCells_list w _ ys hc', run_loadCells_list w.drew _ ys (fun j v hj => by rw [World.cell?_drew]; exact hc' j v hj)⟩
  cases c with
  | dat t' d =>
    cases t' with
    | list t =>
      simp only [readL] at h; cases h
      simp only
      cases hx.2 with
      | empty t a cap =>
        obtain ⟨ys, h1, h2⟩ := empty a cap t
        exact ⟨a, cap, ys, rfl, h1, h2⟩
      | list t l b off cap cs hS hcap hc hr =>
        have hpos := width_pos t
        let f : Nat → Value := fun q => cs (q / t.width) (q % t.width)
        have hf : ∀ i j, j < t.width → f (i * t.width + j) = cs i j := fun i j hj => by
          simp only [f]
          rw [Nat.mul_comm, Nat.mul_add_div hpos, Nat.div_eq_of_lt hj, Nat.mul_add_mod, Nat.mod_eq_of_lt hj, Nat.add_zero]
        have hcells : Cells tab w S t d ((List.range ((d : List t.den).length * t.width)).map f) := cells_of f hpos fun i j c hi hj => by
          have hjw : j < t.width := by rw [← cells_len t (nth d i t.dflt)]; exact (List.getElem?_eq_some_iff.1 hj).1
          rw [hf i j hjw]
          exact ⟨(hr i j c hi hj).oneCell, hr i j c hi hj⟩
        refine ⟨_, cap, _, rfl, hcells, fun q hq k k' => ?_⟩
        have := cellsRun b off (d : List t.den).length t.width ((List.range ((d : List t.den).length * t.width)).map f) (by simp) (fun j v hj => by
          have hjl : j < (d : List t.den).length * t.width := by have := (List.getElem?_eq_some_iff.1 hj).1; simpa using this
          simp [hjl] at hj
          rw [← hj]
          have e1 : j / t.width < (d : List t.den).length := Nat.div_lt_of_lt_mul (by rw [Nat.mul_comm]; exact hjl)
          have e2 : j / t.width * t.width + j % t.width = j := by rw [Nat.mul_comm]; exact Nat.div_add_mod j t.width
          have := hc (j / t.width) (j % t.width) e1 (Nat.mod_lt _ hpos)
          rw [Nat.add_assoc, e2] at this
          exact this) q hq
        exact this
    | _ => simp only [readL] at h; cases h
  | nil t =>
    simp only [readL] at h; cases h
    obtain ⟨_, ex⟩ := hx
    obtain ⟨ys, h1, h2⟩ := empty none 0 t
    exact ⟨none, 0, ys, ex, h1, h2⟩
  | own r =>
    simp only [readL] at h
    split at h <;> try cases h
    rename_i t l hl
    simp only
    obtain ⟨_, _, hrel⟩ := own_arr hs I hl hx
    rcases hrel with ⟨ex, rfl⟩ | ⟨b, cap, cur, e, ex, hb, h3, h4, h5, h6⟩
    · obtain ⟨ys, h1, h2⟩ := empty none 0 t
      exact ⟨none, 0, ys, ex, h1, h2⟩
    · have hcells := own_cells h3 h5 h6 0 l.length (Nat.zero_le _) (Nat.le_refl _)
      have e0 : slc l 0 l.length = l := by simp [slc]
      rw [e0] at hcells
      refine ⟨_, cap, _, ex, hcells, fun q hq k k' => ?_⟩
      have hll := hcells.1
      exact cellsRun b 0 l.length t.width _ hll (fun j v hj => by
        have hjl : j < l.length * t.width := by rw [← hll]; exact (List.getElem?_eq_some_iff.1 hj).1
        refine cell?_at hb ?_
        simp only [Nat.zero_mul, List.drop_zero, Nat.sub_zero] at hj
        rw [List.getElem?_take_of_lt hjl] at hj
        simpa using hj) q hq
  | view r off n =>
    simp only [readL] at h
    split at h <;> try cases h
    rename_i t l hl
    simp only at hp ⊢
    have hle : off + n ≤ l.length := hp.1
    obtain ⟨_, y, _, ⟨a0, m0, cap0, a1, cap1, g1, g2, g3, g4, g5, g6⟩, hrel⟩ := view_arr hs I hl hx
    have hlen := slc_len l off n hle
    by_cases hn : n = 0
    · have he : slc l off (off + n) = [] := List.eq_nil_of_length_eq_zero (by omega)
      rw [he]
      subst hn
      obtain ⟨ys, h1, h2⟩ := empty a1 cap1 t
      exact ⟨a1, cap1, ys, g2, h1, h2⟩
    · rcases hrel with ⟨_, rfl⟩ | ⟨b, cap, cur, e, ey, hb, h3, h4, h5, h6⟩
      · simp at hle; omega
      · rw [ey] at g1; cases g1
        have ha := g4 (by omega)
        subst ha
        have hcells := own_cells h3 h5 h6 off (off + n) (by omega) hle
        have hll := hcells.1
        rw [hlen]
        refine ⟨_, cap1, _, g2, hcells, fun q hq k k' => ?_⟩
        rw [hlen] at hll
        have := cellsRun b (0 + off * t.width) n t.width _ hll (fun j v hj => by
          have hjl : j < n * t.width := by rw [← hll]; exact (List.getElem?_eq_some_iff.1 hj).1
          refine cell?_at hb ?_
          rw [List.getElem?_take_of_lt (by rw [show off + n - off = n by omega]; exact hjl), List.getElem?_drop] at hj
          simpa using hj) q hq
        simpa [Builtin.firstCells, at0] using this
  | _ => simp only [readL] at h; cases h

/-- A source: its length, its cells. -/
theorem readL_src {lm : Mem} {c : C} {x : Value} {rd : RdL} (hs : Sees lm mem) (I : Inv tab μ mem w S) (hx : RelV tab μ mem w S (.one c) x) (h : readL lm c = some rd) (hp : under rd.pre True) :
    ∃ xa cap ys, x = .slice xa rd.l.length cap ∧ Cells tab w S rd.t rd.l ys ∧ ∀ k k', (Builtin.firstCells rd.t.width rd.l.length (.slice xa k k')).run P w = .ok ys.toArray w ∧ (Builtin.firstCells rd.t.width rd.l.length (.slice xa k k')).run P w.drew = .ok ys.toArray w.drew := by
  obtain ⟨xa, cap, ys, h1, h2, h3⟩ := readL_srcQ (P := P) hs I hx h hp
  refine ⟨xa, cap, ys, h1, h2, fun k k' => ?_⟩
  have := h3 rd.l.length (Nat.le_refl _) k k'
  rwa [List.take_of_length_le (by rw [h2.1]; exact Nat.le_refl _)] at this
end
end Vm
end Go.Proofs.YtlbppjmekiemiabDoor

/- The executor on data: append. No condition. -/
namespace Go.Proofs.YtlbppjmekiemiabDoor
namespace Vm
section
variable {P : Program} {tab : Tab} {μ μ' : Mu} {mem mem' : MemF} {w w' : World} {S S' : Nat → Prop}

theorem run_append_fit {T U e e2 wd : Nat} {ty : TypeId} {i : TypeInfo} (hT : P.underlying T = some (.slice e)) (hU : P.underlying U = some (.slice e2)) (hi : P.info? e = some i) (hsz : i.size = wd) (base : Option Addr) (k cap m : Nat) (xa : Option Addr) (xc : Nat)
    (ys : List Value) (hf : (Builtin.firstCells wd m (.slice xa m xc)).run P w = .ok ys.toArray w) (hroom : k + m ≤ cap) (hst : match base with | some a => (storeCells (a.add (k * wd)) ys).run P w = .ok () w' | none => w' = w) :
    (Builtin.append_ #[T, U] ty #[.slice base k cap, .slice xa m xc]).run P w = .ok (.slice base (k + m) cap) w' := by
  subst hsz
  cases base with
  | none =>
    simp only at hst
    subst hst
    simp [Builtin.append_, run_underlying hT, run_underlying hU, sizeOf, typeInfo, hi, Builtin.lenOf, hroom, hf]
  | some a =>
    simp only at hst
    simp [Builtin.append_, run_underlying hT, run_underlying hU, sizeOf, typeInfo, hi, Builtin.lenOf, hroom, hf, hst]

theorem run_append_new {T U e e2 wd : Nat} {ty : TypeId} {i : TypeInfo} {z : Value} (hT : P.underlying T = some (.slice e)) (hU : P.underlying U = some (.slice e2)) (hi : P.info? e = some i) (hz : i.zero = some z) (hsz : i.size = wd) (base : Option Addr) (k cap m : Nat) (xa : Option Addr) (xc : Nat)
    (olds ys : List Value) (ho : (Builtin.firstCells wd k (.slice base k cap)).run P w.drew = .ok olds.toArray w.drew) (hf : (Builtin.firstCells wd m (.slice xa m xc)).run P w.drew = .ok ys.toArray w.drew) (hroom : ¬ k + m ≤ cap)
    (hbytes : (k + m) * i.bytes ≤ 140737488355328) (hpos : 0 < i.bytes) :
    (Builtin.append_ #[T, U] ty #[.slice base k cap, .slice xa m xc]).run P w = .ok (.slice (some (at0 w.heap.size 0)) (k + m) (grownCap w (k + m) cap e))
      (w.drew.alloc (.cells (olds.toArray ++ ys.toArray ++ Builtin.zeroCells z.cells (grownCap w (k + m) cap e - (k + m))) e)) := by
  subst hsz
  have h63 : k + m ≤ 140737488355328 := Nat.le_trans (Nat.le_mul_of_pos_right _ hpos) hbytes
  have h63' : ¬ (9223372036854775807 < ((k : Int) + (m : Int))) := by omega
  have hfit := growslice_fits (bytes := i.bytes) (show cap < k + m by omega) hbytes
  have h48' : ¬ (281474976710656 < Builtin.nextslicecap (k + m) cap * i.bytes) := by omega
  simp [Builtin.append_, run_underlying hT, run_underlying hU, sizeOf, typeInfo, zeroValue, hi, hz, Builtin.lenOf, hroom, h63', h48', Question.forced, ho, hf, newRow, grownCap, at0]
  congr 2
  apply Array.ext'
  simp [List.append_assoc]

/-- A new name for nothing. -/
theorem name_EI {r : Nat} {t : Ty} (I : Inv tab μ mem w S) (hr : mem r = none) :
    Ext μ mem w S (muU r (.ar (.slice none 0 0)) μ) (memU [(r, .arr t [])] mem) w S ∧ Inv tab (muU r (.ar (.slice none 0 0)) μ) (memU [(r, .arr t [])] mem) w S := by
  have E : Ext μ mem w S (muU r (.ar (.slice none 0 0)) μ) (memU [(r, .arr t [])] mem) w S := by
    refine ⟨fun q hq => ?_, fun q B1 B2 h1 h2 => ?_, fun _ h => h, Nat.le_refl _, fun _ _ _ => rfl, fun _ h => .inl h, fun b hb => ?_, rfl, rfl, rfl⟩
    · by_cases e : q = r
      · subst e; exact absurd hr hq
      · rw [memU_ne e]; exact hq
    · by_cases e : q = r
      · subst e; rw [hr] at h1; cases h1
      · rw [memU_ne e, h1] at h2; cases h2
        exact ⟨SameKind.refl _, fun _ => muU_ne e⟩
    · obtain ⟨q, l', h1, h2, h3⟩ := hb
      by_cases e : q = r
      · subst e; rw [muU_eq] at h2; cases h2; cases h3
      · rw [muU_ne e] at h2
        exact .inl ⟨q, l', (live_ne e).1 h1, h2, h3⟩
  refine ⟨E, fun q B' hB' ha => ?_, fun q q' hqq h1 h2 l1 l2 b e1 e2 hb hb' => ?_, fun q h1 l1 b e1 hb hS => ?_, I.lt, I.pow⟩
  · by_cases e : q = r
    · subst e
      rw [memU_eq] at hB'; cases hB'
      exact ⟨_, muU_eq, .inl ⟨rfl, rfl⟩⟩
    · rw [memU_ne e] at hB'
      obtain ⟨l', e1, e2⟩ := I.rel q B' hB' ha
      exact ⟨l', (muU_ne e).trans e1, e2.ext E I fun _ _ => rfl⟩
  · by_cases e : q = r
    · subst e; rw [muU_eq] at e1; cases e1; cases hb
    · by_cases e' : q' = r
      · subst e'; rw [muU_eq] at e2; cases e2; cases hb'
      · rw [muU_ne e] at e1; rw [muU_ne e'] at e2
        exact I.inj q q' hqq ((live_ne e).1 h1) ((live_ne e').1 h2) l1 l2 b e1 e2 hb hb'
  · by_cases e : q = r
    · subst e; rw [muU_eq] at e1; cases e1; cases hb
    · rw [muU_ne e] at e1
      exact I.sep q ((live_ne e).1 h1) l1 b e1 hb hS

theorem Cells.append {t : Ty} {l m : List t.den} {xs ys : List Value} (h1 : Cells tab w S t l xs) (h2 : Cells tab w S t m ys) : Cells tab w S t (cat l m) (xs ++ ys) := by
  refine ⟨by simp [cat, h1.1, h2.1, Nat.add_mul], fun u hu => ?_, fun i j c hi hj => ?_⟩
  · simp only [List.mem_append] at hu
    exact hu.elim (h1.2.1 u) (h2.2.1 u)
  · have hjw : j < t.width := by rw [← cells_len t (nth (cat l m) i t.dflt)]; exact (List.getElem?_eq_some_iff.1 hj).1
    by_cases hil : i < l.length
    · have e : nth (cat l m) i t.dflt = nth l i t.dflt := by simp [nth, cat, List.getD, List.getElem?_append_left hil]
      rw [e] at hj
      obtain ⟨y, y1, y2⟩ := h1.2.2 i j c hil hj
      have hlt : i * t.width + j < xs.length := (List.getElem?_eq_some_iff.1 y1).1
      exact ⟨y, by rw [List.getElem?_append_left hlt]; exact y1, y2⟩
    · have e : nth (cat l m) i t.dflt = nth m (i - l.length) t.dflt := by simp [nth, cat, List.getD, List.getElem?_append_right (Nat.le_of_not_lt hil)]
      rw [e] at hj
      obtain ⟨y, y1, y2⟩ := h2.2.2 (i - l.length) j c (by simp [cat] at hi; omega) hj
      have hm : l.length * t.width + (i - l.length) * t.width = i * t.width := by rw [← Nat.add_mul]; congr 1; omega
      refine ⟨y, ?_, y2⟩
      rw [List.getElem?_append_right (by rw [h1.1]; omega), h1.1, ← y1]
      congr 1; omega

/-- An array of one's own, by its cells. -/
theorem arr_of_cells {t : Ty} {l : List t.den} {xs : List Value} {b cap : Nat} {cur : Array Value} {e : TypeId} (h : Cells tab w S t l xs) (hb : w.heap[b]? = some (.cells cur e (0, 0))) (h1 : l.length ≤ cap) (h2 : cap ≤ maxLen) (h3 : cap * t.width ≤ cur.size)
    (h4 : ∀ q, q < xs.length → cur[q]? = xs[q]?) : BlkRel tab μ mem w S (.arr t l) (.ar (.slice (some (at0 b 0)) l.length cap)) := by
  refine .inr ⟨b, cap, cur, e, rfl, hb, h1, h2, h3, fun i j c hi hj => ?_⟩
  obtain ⟨y, y1, y2⟩ := h.2.2 i j c hi hj
  have hlt : i * t.width + j < xs.length := (List.getElem?_eq_some_iff.1 y1).1
  exact ⟨y, by rw [h4 _ hlt]; exact y1, y2.oneCell, y2⟩

theorem op_append {o : Oper} {a : Act} {s x : Operand} {T U base : Nat} {ti tj : TI} {c d : C} {lm : Mem} {p : Option Prop} {v : V} {m : Mem} {u : Ty} (hT : TabOk P tab) (ho : o.op = .call { callee := .builtin .append, args := #[s, x], argTypes := #[T, U] })
    (ht : tyAt tab T = some ti) (hu : tyAt tab U = some tj) (hju : tj.elem = some u) (I : Inv tab μ mem w S) (hs : Sees lm mem) (hb : mem base = none)
    (hS : RelV tab μ mem w S (.one c) (a.eval s)) (hX : RelV tab μ mem w S (.one d) (a.eval x)) (h : appendX ti base ti.bytes lm c d = some (p, v, m)) (hp : under p True) :
    Runs P o a w (After tab μ mem w S m v) := by
  unfold appendX at h
  split at h <;> try cases h
  rename_i pr t rl hrd
  split at h <;> try cases h
  rename_i hk
  obtain ⟨e, i, z, hsl⟩ := und_slice hT ht hk
  have hU : ∃ e2, P.underlying U = some (.slice e2) := by
    have hkind := (hT.ok U tj hu).kind
    unfold TI.elem at hju
    cases hkd : tj.kd with
    | slice t' e' => rw [hkd] at hkind; exact ⟨e', hkind.1⟩
    | _ => rw [hkd] at hju; cases hju
  obtain ⟨e2, hU⟩ := hU
  have wpos := width_pos t
  -- what remains, once it is known what is appended to
  have main : ∀ (l0 : List t.den) (ad : Option Addr) (cap : Nat), a.eval s = .slice ad l0.length cap → under pr True → (l0.length + rl.length) * ti.bytes ≤ 140737488355328 →
      ((ad = none ∧ l0 = [] ∧ cap = 0 ∧ (m = [(base, .arr t (cat l0 rl))] ∨ ∃ r l, mem r = some (.arr t l) ∧ μ r = some (.ar (.slice none 0 0)) ∧ m = [(r, .dead), (base, .arr t (cat l0 rl))])) ∨
       (∃ r l b cap0 cur e', mem r = some (.arr t l) ∧ μ r = some (.ar (.slice (some (at0 b 0)) l.length cap0)) ∧ m = [(r, .dead), (base, .arr t (cat l0 rl))] ∧ ad = some (at0 b 0) ∧ cap ≤ cap0 ∧ l0.length ≤ cap ∧ cap0 ≤ maxLen ∧
          w.heap[b]? = some (.cells cur e' (0, 0)) ∧ cap0 * t.width ≤ cur.size ∧ Cells tab w S t l0 (cur.toList.take (l0.length * t.width)))) →
      v = .one (.own base) → Runs P o a w (After tab μ mem w S m v) := by
    intro l0 ad cap es hpr hby hcase hv
    subst hv
    obtain ⟨xa, xc, ys, ex, hcells, hrun⟩ := readL_src (P := P) hs I hX hrd hpr
    simp only at ex hcells hrun
    have fin : ∀ (v' : Value) (w' : World), (Builtin.append_ #[T, U] o.type #[.slice ad l0.length cap, .slice xa rl.length xc]).run P w = .ok v' w' → After tab μ mem w S m (.one (.own base)) v' w' → Runs P o a w (After tab μ mem w S m (.one (.own base))) := fun v' w' hr ha =>
      runs_val (x := v') (w' := w') (by simp [execOp, ho, resolve, invoke, builtin, es, ex, hr]) ha
    have bound : l0.length + rl.length ≤ 140737488355328 := Nat.le_trans (Nat.le_mul_of_pos_right _ hsl.bpos) hby
    by_cases hroom : l0.length + rl.length ≤ cap
    · rcases hcase with ⟨rfl, rfl, rfl, hm⟩ | ⟨r, l, b, cap0, cur, e', hmr, hμ, rfl, rfl, hc0, hlc, hcm, hbk, hsz, hold⟩
      · -- nothing goes to nothing
        have hrl : rl = [] := List.eq_nil_of_length_eq_zero (by simpa using hroom)
        subst hrl
        have hr := run_append_fit (P := P) (w := w) (ty := o.type) hsl.und hU hsl.info hsl.size none 0 0 0 xa xc ys (hrun 0 xc).1 (by omega) rfl
        rcases hm with rfl | ⟨r, l, hmr, hμ, rfl⟩
        · obtain ⟨E, I'⟩ := name_EI (t := t) I hb
          exact fin _ _ hr ⟨_, S, E, I', rfl, by rw [memU_eq]; exact (fun h => by cases h), fun _ _ _ => muU_eq⟩
        · obtain ⟨E, hI⟩ := pass_EI (B' := .arr t (cat [] [])) (l' := .ar (.slice none 0 0)) (w' := w) hmr trivial hb hμ rfl rfl (fun _ _ => rfl) rfl rfl rfl I
          refine fin _ _ hr ⟨_, S, E, hI (.inl ⟨rfl, rfl⟩), rfl, ?_, fun _ _ _ => muU_eq⟩
          have hne : base ≠ r := fun e => by subst e; rw [hmr] at hb; cases hb
          rw [memU_cons, memU_ne hne, memU_eq]; exact (fun h => by cases h)
      · -- it fits
        have hfit : l0.length * t.width + ys.length ≤ cur.size := by
          rw [hcells.1, ← Nat.add_mul]
          exact Nat.le_trans (Nat.mul_le_mul_right _ (by omega)) hsz
        have hst := run_storeCells_at P b (l0.length * t.width) e' ys 0 cur w hbk (by simpa using hfit) hcells.2.1
        simp only [Nat.add_zero] at hst
        generalize hcur : (cur.toList.take (l0.length * t.width) ++ ys ++ cur.toList.drop (l0.length * t.width + ys.length)).toArray = cur' at hst
        obtain ⟨q1, q2, q3, q4⟩ := setRow_facts (w := w) b cur'
        have hr := run_append_fit (P := P) (w := w) (w' := w.setRow b cur') (ty := o.type) hsl.und hU hsl.info hsl.size (some (at0 b 0)) l0.length cap rl.length xa xc ys (hrun _ xc).1 hroom (by simpa [at0, Addr.add_lit] using hst)
        obtain ⟨E, hI⟩ := pass_EI (B' := .arr t (cat l0 rl)) (l' := .ar (.slice (some (at0 b 0)) (l0.length + rl.length) cap)) (w' := w.setRow b cur') hmr trivial hb hμ rfl q1 (fun k hk => setRow_other w b k cur' (fun e => hk (by rw [e]; rfl))) q2 q3 q4 I
        have hne : base ≠ r := fun e => by subst e; rw [hmr] at hb; cases hb
        refine fin _ _ hr ⟨_, S, E, hI ?_, rfl, ?_, fun _ _ _ => muU_eq⟩
        · have hc := (hold.append hcells).mono (S' := S) (w' := w.setRow b cur') E.sub (E.keeps I)
          have e3 : (cat l0 rl).length = l0.length + rl.length := by simp [cat]
          rw [← e3]
          refine arr_of_cells hc (setRow_heap w b cur cur' e' (0, 0) hbk) (by rw [e3]; exact hroom) (by omega) ?_ (fun q hq => ?_)
          · have : cur'.size = cur.size := by
              subst hcur
              have := hold.1
              simp at this ⊢
              omega
            rw [this]
            exact Nat.le_trans (Nat.mul_le_mul_right _ hc0) hsz
          · subst hcur
            rw [List.getElem?_toArray, List.getElem?_append_left hq]
        · rw [memU_cons, memU_ne hne, memU_eq]; exact (fun h => by cases h)
    · -- a new array
      obtain ⟨olds, hold, hor⟩ : ∃ olds, Cells tab w S t l0 olds ∧ (Builtin.firstCells t.width l0.length (.slice ad l0.length cap)).run P w.drew = .ok olds.toArray w.drew := by
        rcases hcase with ⟨rfl, rfl, rfl, _⟩ | ⟨r, l, b, cap0, cur, e', hmr, hμ, _, rfl, hc0, hlc, hcm, hbk, hsz, hold⟩
        · exact ⟨[], ⟨by simp, fun u hu => by simp at hu, fun i j c hi => by simp at hi⟩, by simp [Builtin.firstCells]⟩
        · refine ⟨_, hold, ?_⟩
          have := run_loadCells_list (P := P) w.drew (at0 b 0) (cur.toList.take (l0.length * t.width)) (fun j v hj => by
            rw [World.cell?_drew, at0, Addr.add_lit, Nat.zero_add]
            refine cell?_at hbk ?_
            have hjl : j < l0.length * t.width := by
              have := (List.getElem?_eq_some_iff.1 hj).1
              simp at this; omega
            rw [List.getElem?_take_of_lt hjl] at hj
            simpa using hj)
          rw [hold.1] at this
          simpa [Builtin.firstCells] using this
      have hr := run_append_new (P := P) (w := w) (ty := o.type) hsl.und hU hsl.info hsl.zero hsl.size ad l0.length cap rl.length xa xc olds ys hor (hrun _ xc).2 hroom (by rw [hsl.bytes]; exact hby) (by rw [hsl.bytes]; exact hsl.bpos)
      generalize hcur : olds.toArray ++ ys.toArray ++ Builtin.zeroCells z.cells (grownCap w (l0.length + rl.length) cap e - (l0.length + rl.length)) = cur' at hr
      have hge := grownCap_ge w (l0.length + rl.length) cap e
      have hgm := grownCap_le_maxLen w (l0.length + rl.length) cap e (by unfold maxLen; omega)
      generalize grownCap w (l0.length + rl.length) cap e = ncap at hr hge hgm hcur
      have e3 : (cat l0 rl).length = l0.length + rl.length := by simp [cat]
      have hcsz : cur'.size = ncap * t.width := by
        subst hcur
        simp only [Array.size_append, List.size_toArray, size_zeroCells, hsl.zs, hold.1, hcells.1, ← Nat.add_mul]
        congr 1; omega
      have hget : ∀ q, q < (olds ++ ys).length → cur'[q]? = (olds ++ ys)[q]? := fun q hq => by
        subst hcur
        rw [Array.getElem?_append_left (by simpa using hq)]
        simp
      -- the spent name, if there is one; then the new block
      have done : ∀ (S0 : Nat → Prop) (mem0 : MemF), Ext μ mem w S μ mem0 w S0 → Inv tab μ mem0 w S0 → mem0 base = none → memU m mem = memU [(base, .arr t (cat l0 rl))] mem0 → Runs P o a w (After tab μ mem w S m (.one (.own base))) := fun S0 mem0 E0 I0 hb0 hmm => by
        have hl : (Loc.ar (.slice (some (at0 w.heap.size 0)) (l0.length + rl.length) ncap)).block = some w.heap.size ∨ (Loc.ar (.slice (some (at0 w.heap.size 0)) (l0.length + rl.length) ncap)).block = none := .inl rfl
        have hsame : (w.drew.alloc (.cells cur' e)).heap = (w.alloc (.cells cur' e)).heap := rfl
        have Ed : Ext μ mem0 w S0 μ mem0 w.drew S0 := ⟨fun _ h => h, (Ext.refl (μ := μ) (mem := mem0) (w := w) (S := S0)).kinds, fun _ h => h, Nat.le_refl _, fun _ _ _ => rfl, fun _ h => .inl h, fun _ h => .inl h, rfl, rfl, rfl⟩
        have Id : Inv tab μ mem0 w.drew S0 := ⟨fun q B h1 h2 => by obtain ⟨l', e1, e2⟩ := I0.rel q B h1 h2; exact ⟨l', e1, e2.ext Ed I0 fun _ _ => rfl⟩, I0.inj, I0.sep, I0.lt, I0.pow⟩
        have E1 := alloc_E (μ := μ) (S := S0) (w := w.drew) (o := .cells cur' e) (B := .arr t (cat l0 rl)) hb0 hl
        refine fin _ _ hr ⟨_, S0, by rw [hmm]; exact (E0.trans Ed).trans E1, by
          rw [hmm]
          refine alloc_I hb0 hl Id ?_
          have hc := (((hold.append hcells).mono (S' := S0) (w' := w) E0.sub (E0.keeps I)).mono (S' := S0) (w' := w.drew) Ed.sub (Ed.keeps I0)).mono (S' := S0) (w' := w.drew.alloc (.cells cur' e)) E1.sub (E1.keeps Id)
          rw [← e3]
          exact arr_of_cells hc (heap_alloc_new w.drew _) (by rw [e3]; exact hge) hgm (by omega) hget, rfl, by rw [hmm, memU_eq]; exact (fun h => by cases h), fun _ _ _ => muU_eq⟩
      have spent : ∀ r l, mem r = some (.arr t l) → m = [(r, .dead), (base, .arr t (cat l0 rl))] → Runs P o a w (After tab μ mem w S m (.one (.own base))) := fun r l hmr hm => by
        have hne : base ≠ r := fun e => by subst e; rw [hmr] at hb; cases hb
        obtain ⟨E0, I0⟩ := kill_EI I (r := r) (by rw [hmr]; exact (fun h => by cases h)) False
        refine done _ _ E0 I0 (by rw [memU_ne hne]; exact hb) ?_
        subst hm
        funext q
        by_cases c1 : q = r
        · subst c1
          rw [memU_cons, memU_eq, memU_ne (Ne.symm hne), memU_eq]
        · by_cases c2 : q = base
          · subst c2
            rw [memU_cons, memU_ne c1, memU_eq, memU_eq]
          · rw [memU_cons, memU_ne c1, memU_ne c2, memU_ne c2, memU_ne c1]
      rcases hcase with ⟨_, _, _, hm⟩ | ⟨r, l, b, cap0, cur, e', hmr, hμ, hm, _⟩
      · rcases hm with hm | ⟨r, l, hmr, _, hm⟩
        · exact done S mem Ext.refl I hb (by rw [hm])
        · exact spent r l hmr hm
      · exact spent r l hmr hm
  have both_iff : ∀ {pr : Option Prop} {q : Prop}, under (some (both pr q)) True → under pr True ∧ q := fun {pr q} h => by
    cases pr with
    | none => exact ⟨trivial, h.1⟩
    | some p => exact ⟨⟨h.1.1, trivial⟩, h.1.2⟩
  cases c with
  | nil t' =>
    simp only at h
    split at h <;> try cases h
    rename_i ht'
    subst ht'
    obtain ⟨h1, h2⟩ := both_iff hp
    obtain ⟨_, es⟩ := hS
    exact main [] none 0 es h1 (by simpa [len] using h2) (.inl ⟨rfl, rfl, rfl, .inl rfl⟩) rfl
  | own r =>
    simp only at h
    split at h <;> try cases h
    rename_i t' l hl
    split at h <;> try cases h
    rename_i ht'
    subst ht'
    obtain ⟨h1, h2⟩ := both_iff hp
    obtain ⟨hmr, hμ, hrel⟩ := own_arr hs I hl hS
    rcases hrel with ⟨es, rfl⟩ | ⟨b, cap, cur, e', es, hbk, g3, g4, g5, g6⟩
    · exact main [] none 0 es h1 (by simpa [len] using h2) (.inl ⟨rfl, rfl, rfl, .inr ⟨r, [], hmr, by rw [hμ, es], rfl⟩⟩) rfl
    · have hc := own_cells g3 g5 g6 0 l.length (Nat.zero_le _) (Nat.le_refl _)
      have e0 : slc l 0 l.length = l := by simp [slc]
      rw [e0] at hc
      simp only [Nat.zero_mul, List.drop_zero, Nat.sub_zero] at hc
      exact main l _ cap es h1 (by simpa [len] using h2) (.inr ⟨r, l, b, cap, cur, e', hmr, by rw [hμ, es], rfl, rfl, Nat.le_refl _, g3, g4, hbk, g5, hc⟩) rfl
  | view r off n =>
    cases off with
    | succ off => simp only at h; cases h
    | zero =>
      simp only at h
      split at h <;> try cases h
      rename_i t' l hl
      split at h <;> try cases h
      rename_i ht'
      subst ht'
      obtain ⟨h1, h2, h3⟩ := both_iff hp
      have hnl : n ≤ l.length := h2
      obtain ⟨hmr, y, hμ, ⟨a0, m0, cap0, a1, cap1, k1, k2, k3, k4, k5, k6⟩, hrel⟩ := view_arr hs I hl hS
      have hlen : (slc l 0 n).length = n := by rw [slc_len' l 0 n hnl]; omega
      rcases hrel with ⟨ey, rfl⟩ | ⟨b, cap, cur, e', ey, hbk, g3, g4, g5, g6⟩
      · have hn0 : n = 0 := by simpa using hnl
        subst hn0
        rw [ey] at k1; cases k1
        have ha := k3 rfl
        subst ha
        have hc0 : cap1 = 0 := by omega
        subst hc0
        exact main [] none 0 (by simpa using k2) h1 (by simpa [len] using h3) (.inl ⟨rfl, rfl, rfl, .inr ⟨r, [], hmr, by rw [hμ, ey], rfl⟩⟩) rfl
      · rw [ey] at k1; cases k1
        have ha := k3 rfl
        subst ha
        have hc := own_cells g3 g5 g6 0 n (Nat.zero_le _) hnl
        simp only [Nat.zero_mul, List.drop_zero, Nat.sub_zero] at hc
        exact main _ _ cap1 (by rw [hlen]; exact k2) h1 (by rw [hlen]; exact h3) (.inr ⟨r, l, b, _, cur, e', hmr, by rw [hμ, ey], rfl, rfl, by omega, by rw [hlen]; exact k5, g4, hbk, g5, by rw [hlen]; exact hc⟩) rfl
  | _ => simp only at h; cases h
end
end Vm
end Go.Proofs.YtlbppjmekiemiabDoor

/- The executor on data: copy, clear. No condition. -/
namespace Go.Proofs.YtlbppjmekiemiabDoor
namespace Vm
section
variable {P : Program} {tab : Tab} {μ μ' : Mu} {mem mem' : MemF} {w w' : World} {S S' : Nat → Prop}

theorem run_copy_at {T e wd : Nat} {ts : Array TypeId} {ty : TypeId} {i : TypeInfo} (hts : ts[0]? = some T) (hT : P.underlying T = some (.slice e)) (hi : P.info? e = some i) (hsz : i.size = wd) (base : Option Addr) (dl dc : Nat) (xa : Option Addr) (m xc : Nat)
    (ys : List Value) (hf : (Builtin.firstCells wd (Nat.min m dl) (.slice xa m xc)).run P w = .ok ys.toArray w) (hst : match base with | some a => (storeCells a ys).run P w = .ok () w' | none => w' = w) :
    (Builtin.copy_ ts ty #[.slice base dl dc, .slice xa m xc]).run P w = .ok (.int .i64 ((Nat.min m dl : Nat) : Int)) w' := by
  subst hsz
  cases base with
  | none =>
    simp only at hst
    subst hst
    simp [Builtin.copy_, hts, run_underlying hT, sizeOf, typeInfo, hi, Builtin.lenOf, hf, goInt]
  | some a =>
    simp only at hst
    simp [Builtin.copy_, hts, run_underlying hT, sizeOf, typeInfo, hi, Builtin.lenOf, hf, hst, goInt]

theorem put_nth {α : Type} (l m : List α) (off i : Nat) (d : α) (h : off + m.length ≤ l.length) (hi : i < l.length) : nth (put l off m) i d = if off ≤ i ∧ i < off + m.length then nth m (i - off) d else nth l i d := by
  simp only [nth, List.getD_eq_getElem?_getD, put]
  congr 1
  by_cases c1 : i < off
  · rw [if_neg (by omega), List.append_assoc, List.getElem?_append_left (by simp; omega), List.getElem?_take_of_lt c1]
  · by_cases c2 : i < off + m.length
    · rw [if_pos ⟨by omega, c2⟩, List.append_assoc, List.getElem?_append_right (by simp; omega), List.getElem?_append_left (by simp; omega), show i - (l.take off).length = i - off by simp; omega]
    · rw [if_neg (by omega), List.getElem?_append_right (by simp; omega), List.getElem?_drop, show off + m.length + (i - (l.take off ++ m).length) = i by simp; omega]

theorem put_length {α : Type} (l m : List α) (off : Nat) (h : off + m.length ≤ l.length) : (put l off m).length = l.length := by simp [put]; omega

/-- Part of an array of one's own is written over. -/
theorem over_arr {r b off cap : Nat} {t : Ty} {l k : List t.den} {cur : Array Value} {e : TypeId} {ys : List Value} (hmr : mem r = some (.arr t l)) (hμ : μ r = some (.ar (.slice (some (at0 b 0)) l.length cap))) (hb : w.heap[b]? = some (.cells cur e (0, 0)))
    (h1 : l.length ≤ cap) (h2 : cap ≤ maxLen) (h3 : cap * t.width ≤ cur.size) (h4 : ∀ i j c, i < l.length → (t.cells (nth l i t.dflt))[j]? = some c → ∃ y, cur[i * t.width + j]? = some y ∧ y.oneCell' = true ∧ RepC tab w S c y)
    (hk : Cells tab w S t k ys) (hle : off + k.length ≤ l.length) (I : Inv tab μ mem w S) :
    ∃ w', (storeCells (at0 b (off * t.width)) ys).run P w = .ok () w' ∧ Ext μ mem w S μ (memU [(r, .arr t (put l off k))] mem) w' S ∧ Inv tab μ (memU [(r, .arr t (put l off k))] mem) w' S := by
  have hfit : off * t.width + ys.length ≤ cur.size := by
    rw [hk.1, ← Nat.add_mul]
    exact Nat.le_trans (Nat.mul_le_mul_right _ (by omega)) h3
  have hst := run_storeCells_at P b (off * t.width) e ys 0 cur w hb (by simpa using hfit) hk.2.1
  simp only [Nat.add_zero] at hst
  generalize hcur : (cur.toList.take (off * t.width) ++ ys ++ cur.toList.drop (off * t.width + ys.length)).toArray = cur' at hst
  obtain ⟨q1, q2, q3, q4⟩ := setRow_facts (w := w) b cur'
  have hother : ∀ k, k ≠ b → (w.setRow b cur').heap[k]? = w.heap[k]? := fun k hk => setRow_other w b k cur' hk
  have E := write_E (S := S) (B' := .arr t (put l off k)) hmr trivial hμ (b := b) rfl rfl q1 hother q2 q3 q4
  have hpl := put_length l k off hle
  have hsz : cur'.size = cur.size := by subst hcur; simp; omega
  refine ⟨_, hst, E, write_I hmr trivial hμ rfl q1 hother E I (.inr ⟨b, cap, cur', e, by rw [hpl], setRow_heap w b cur cur' e (0, 0) hb, by rw [hpl]; exact h1, h2, by rw [hsz]; exact h3, fun i j c hi hc => ?_⟩)⟩
  rw [hpl] at hi
  have hjw : j < t.width := by rw [← cells_len t (nth (put l off k) i t.dflt)]; exact (List.getElem?_eq_some_iff.1 hc).1
  rw [put_nth l k off i t.dflt hle hi] at hc
  have mono : ∀ {c'' : C} {u : Value}, RepC tab w S c'' u → RepC tab (w.setRow b cur') S c'' u := fun h => h.mono (fun _ h => h) (E.keeps I)
  have hget : ∀ q : Nat, cur'[q]? = (cur.toList.take (off * t.width) ++ ys ++ cur.toList.drop (off * t.width + ys.length))[q]? := fun q => by subst hcur; simp
  rw [hget]
  have hyl := hk.1
  by_cases hin : off ≤ i ∧ i < off + k.length
  · rw [if_pos hin] at hc
    obtain ⟨y, g1, g2⟩ := hk.2.2 (i - off) j c (by omega) hc
    have hrep : (i - off) * t.width + j < ys.length := (List.getElem?_eq_some_iff.1 g1).1
    have e1 : off * t.width + ((i - off) * t.width + j) = i * t.width + j := by
      rw [← Nat.add_assoc, ← Nat.add_mul]; congr 2; omega
    refine ⟨y, ?_, hk.2.1 y (List.mem_of_getElem? g1), mono g2⟩
    have hoff : off * t.width ≤ cur.size := by omega
    rw [← e1, List.append_assoc, List.getElem?_append_right (by simp; omega), List.getElem?_append_left (by simp; omega)]
    rw [← g1]; congr 1; simp; omega
  · rw [if_neg hin] at hc
    obtain ⟨y, g1, g2, g3⟩ := h4 i j c hi hc
    refine ⟨y, ?_, g2, mono g3⟩
    have hlt : i * t.width + j < cur.size := (Array.getElem?_eq_some_iff.1 g1).1
    by_cases c1 : i < off
    · have : (i + 1) * t.width ≤ off * t.width := Nat.mul_le_mul_right _ (by omega)
      rw [Nat.add_mul] at this
      rw [List.append_assoc, List.getElem?_append_left (by simp; omega), List.getElem?_take_of_lt (by omega)]
      simpa using g1
    · have : (off + k.length) * t.width ≤ i * t.width := Nat.mul_le_mul_right _ (by omega)
      rw [Nat.add_mul] at this
      rw [List.getElem?_append_right (by simp; omega), List.getElem?_drop]
      have e1 : off * t.width + ys.length + (i * t.width + j - (cur.toList.take (off * t.width) ++ ys).length) = i * t.width + j := by simp; omega
      rw [e1]
      simpa using g1

theorem Cells.take {t : Ty} {m : List t.den} {ys : List Value} (h : Cells tab w S t m ys) (q : Nat) (hq : q ≤ m.length) : Cells tab w S t (slc m 0 q) (ys.take (q * t.width)) := by
  obtain ⟨h1, h2, h3⟩ := h
  have hl := slc_len' m 0 q hq
  have hle : q * t.width ≤ m.length * t.width := Nat.mul_le_mul_right _ hq
  refine ⟨by rw [hl]; simp; omega, fun u hu => h2 u (List.mem_of_mem_take hu), fun i j c hi hc => ?_⟩
  rw [hl] at hi
  rw [slc_get' m 0 q i t.dflt (by omega), Nat.zero_add] at hc
  have hjw : j < t.width := by rw [← cells_len t (nth m i t.dflt)]; exact (List.getElem?_eq_some_iff.1 hc).1
  obtain ⟨y, g1, g2⟩ := h3 i j c (by omega) hc
  have hlt : i * t.width + j < q * t.width := by
    have : (i + 1) * t.width ≤ q * t.width := Nat.mul_le_mul_right _ (by omega)
    rw [Nat.add_mul] at this; omega
  exact ⟨y, by rw [List.getElem?_take_of_lt hlt]; exact g1, g2⟩

theorem slc_nil' {α : Type} (l : List α) (lo : Nat) : slc l lo 0 = [] := by simp [slc]
theorem put_nil {α : Type} (l : List α) (off : Nat) : put l off [] = l := by simp [put]

theorem op_copy {o : Oper} {a : Act} {s x : Operand} {T U : Nat} {ti : TI} {c d : C} {lm : Mem} {p : Option Prop} {v : V} {m : Mem} (hT : TabOk P tab) (ho : o.op = .call { callee := .builtin .copy, args := #[s, x], argTypes := #[T, U] })
    (ht : tyAt tab T = some ti) (I : Inv tab μ mem w S) (hs : Sees lm mem)
    (hS : RelV tab μ mem w S (.one c) (a.eval s)) (hX : RelV tab μ mem w S (.one d) (a.eval x)) (h : copyX ti lm c d = some (p, v, m)) (hp : under p True) :
    Runs P o a w (After tab μ mem w S m v) := by
  unfold copyX at h
  split at h <;> try cases h
  rename_i pr t rl hrd
  split at h <;> try cases h
  rename_i hk
  obtain ⟨e, i, z, hsl⟩ := und_slice hT ht hk
  have main : ∀ (r off n : Nat) (l : List t.den) (ad : Option Addr) (cap : Nat), a.eval s = .slice ad n cap → under pr True → mem r = some (.arr t l) → off + n ≤ l.length →
      ((min n rl.length = 0) ∨ ∃ b cap0 cur e', μ r = some (.ar (.slice (some (at0 b 0)) l.length cap0)) ∧ ad = some (at0 b (off * t.width)) ∧ l.length ≤ cap0 ∧ cap0 ≤ maxLen ∧ w.heap[b]? = some (.cells cur e' (0, 0)) ∧ cap0 * t.width ≤ cur.size ∧
        ∀ i j c, i < l.length → (t.cells (nth l i t.dflt))[j]? = some c → ∃ y, cur[i * t.width + j]? = some y ∧ y.oneCell' = true ∧ RepC tab w S c y) →
      Runs P o a w (After tab μ mem w S [(r, .arr t (put l off (slc rl 0 (min n rl.length))))] (.one (.dat .int ((min n rl.length : Nat) : Int)))) := by
    intro r off n l ad cap es hpr hmr hle hcase
    obtain ⟨xa, xc, ys, ex, hcells, hrun⟩ := readL_srcQ (P := P) hs I hX hrd hpr
    simp only at ex hcells hrun
    have hmin : Nat.min rl.length n = min n rl.length := Nat.min_comm _ _
    have fin : ∀ (w' : World), (Builtin.copy_ #[T, U] o.type #[.slice ad n cap, .slice xa rl.length xc]).run P w = .ok (.int .i64 ((Nat.min rl.length n : Nat) : Int)) w' →
        Ext μ mem w S μ (memU [(r, .arr t (put l off (slc rl 0 (min n rl.length))))] mem) w' S → Inv tab μ (memU [(r, .arr t (put l off (slc rl 0 (min n rl.length))))] mem) w' S →
        Runs P o a w (After tab μ mem w S [(r, .arr t (put l off (slc rl 0 (min n rl.length))))] (.one (.dat .int ((min n rl.length : Nat) : Int)))) := fun w' hr E I' =>
      runs_val (x := .int .i64 ((Nat.min rl.length n : Nat) : Int)) (w' := w') (by simp [execOp, ho, resolve, invoke, builtin, es, ex, hr]) ⟨μ, S, E, I', by rw [hmin]; exact mk_int _⟩
    have hf := (hrun (Nat.min rl.length n) (Nat.min_le_left _ _) rl.length xc).1
    by_cases hz : min n rl.length = 0
    · have e0 : put l off (slc rl 0 (min n rl.length)) = l := by rw [hz, slc_nil', put_nil]
      have hmm : memU [(r, .arr t l)] mem = mem := by
        funext q
        by_cases eq : q = r
        · subst eq; rw [memU_eq, hmr]
        · rw [memU_ne eq]
      refine fin w (run_copy_at (ts := #[T, U]) rfl hsl.und hsl.info hsl.size ad n cap xa rl.length xc _ hf ?_) ?_ ?_
      · have : ys.take (Nat.min rl.length n * t.width) = [] := by rw [hmin, hz]; simp
        rw [this]
        cases ad with
        | none => rfl
        | some ad => simp [storeCells]
      · rw [e0, hmm]; exact Ext.refl
      · rw [e0, hmm]; exact I
    · rcases hcase with hz' | ⟨b, cap0, cur, e', hμ, rfl, h1, h2, hb, h3, h4⟩
      · exact absurd hz' hz
      · have hk' : (slc rl 0 (min n rl.length)).length = min n rl.length := by rw [slc_len' _ _ _ (Nat.min_le_right _ _)]; omega
        have hc := hcells.take (min n rl.length) (Nat.min_le_right _ _)
        obtain ⟨w', g1, g2, g3⟩ := over_arr (P := P) (off := off) hmr hμ hb h1 h2 h3 h4 hc (by rw [hk']; have := Nat.min_le_left n rl.length; omega) I
        refine fin w' (run_copy_at (ts := #[T, U]) rfl hsl.und hsl.info hsl.size _ n cap xa rl.length xc _ hf ?_) g2 g3
        rw [hmin]
        exact g1
  have both_iff : ∀ {pr : Option Prop} {q : Prop}, under (some (both pr q)) True → under pr True ∧ q := fun {pr q} h => by
    cases pr with
    | none => exact ⟨trivial, h.1⟩
    | some p => exact ⟨⟨h.1.1, trivial⟩, h.1.2⟩
  cases c with
  | own r =>
    simp only at h
    split at h <;> try cases h
    rename_i t' l hl
    split at h <;> try cases h
    rename_i ht'
    subst ht'
    obtain ⟨hmr, hμ, hrel⟩ := own_arr hs I hl hS
    rcases hrel with ⟨es, rfl⟩ | ⟨b, cap, cur, e', es, hbk, g3, g4, g5, g6⟩
    · exact main r 0 0 [] none 0 es hp hmr (by simp) (.inl (by simp))
    · refine main r 0 l.length l _ cap es hp hmr (by omega) (.inr ⟨b, cap, cur, e', by rw [hμ, es], by rw [Nat.zero_mul], g3, g4, hbk, g5, g6⟩)
  | view r off n =>
    simp only at h
    split at h <;> try cases h
    rename_i t' l hl
    split at h <;> try cases h
    rename_i ht'
    subst ht'
    obtain ⟨h1, h2⟩ := both_iff hp
    have hnl : off + n ≤ l.length := h2
    obtain ⟨hmr, y, hμ, ⟨a0, m0, cap0, a1, cap1, k1, k2, k3, k4, k5, k6⟩, hrel⟩ := view_arr hs I hl hS
    refine main r off n l a1 cap1 k2 h1 hmr hnl ?_
    by_cases hn : n = 0
    · exact .inl (by rw [hn]; simp)
    · rcases hrel with ⟨ey, rfl⟩ | ⟨b, cap, cur, e', ey, hbk, g3, g4, g5, g6⟩
      · simp at hnl; omega
      · rw [ey] at k1; cases k1
        have ha := k4 (by omega)
        subst ha
        exact .inr ⟨b, _, cur, e', by rw [hμ, ey], by simp [at0], g3, g4, hbk, g5, g6⟩
  | _ => simp only at h; cases h
end
end Vm
end Go.Proofs.YtlbppjmekiemiabDoor

/- The executor on data: clear. No condition. -/
namespace Go.Proofs.YtlbppjmekiemiabDoor
namespace Vm
section
variable {P : Program} {tab : Tab} {μ μ' : Mu} {mem mem' : MemF} {w w' : World} {S S' : Nat → Prop}

theorem zeros_cells {e : Nat} {i : TypeInfo} {z : Value} {T nb : Nat} {t : Ty} (hs : SlT P tab T t nb e i z) (hf : t.noFn = true) (n : Nat) : Cells tab w S t (zeros n t.dflt) (Builtin.zeroCells z.cells n).toList := by
  have hsz : (Builtin.zeroCells z.cells n).size = n * t.width := by rw [size_zeroCells, hs.zs]
  have hget : ∀ q, q < n * t.width → (Builtin.zeroCells z.cells n).toList[q]? = z.cells[q % t.width]? := fun q hq => by
    have hm : q % t.width < z.cells.size := by rw [hs.zs]; exact Nat.mod_lt _ hs.pos
    have hg := Array.getElem?_eq_getElem hm
    simp [Builtin.zeroCells, hs.zs, hq, getElem!_def, hg]
  refine ⟨by simp [zeros, hsz], fun u hu => ?_, fun q j c hq hj => ?_⟩
  · obtain ⟨q, hq, rfl⟩ := List.getElem_of_mem hu
    have hq' : q < n * t.width := by rw [← hsz]; simpa using hq
    have h1 := hget q hq'
    rw [List.getElem?_eq_getElem hq] at h1
    have h2 : (Builtin.zeroCells z.cells n).toList[q] ∈ z.cells.toList := by
      have := List.mem_of_getElem? (l := z.cells.toList) (i := q % t.width) (a := (Builtin.zeroCells z.cells n).toList[q]) (by rw [h1]; simp)
      exact this
    exact List.all_eq_true.1 hs.zone _ h2
  · have hqk : q < n := by simpa [zeros] using hq
    have hn : nth (zeros n t.dflt) q t.dflt = t.dflt := by simp [nth, zeros, List.getD, hqk]
    rw [hn] at hj
    obtain ⟨y, r1, r2, r3⟩ := hs.zok hf j c hj
    have hjw : j < t.width := by rw [← cells_len t t.dflt]; exact (List.getElem?_eq_some_iff.1 hj).1
    have hlt : q * t.width + j < n * t.width := by
      have : (q + 1) * t.width ≤ n * t.width := Nat.mul_le_mul_right _ (by omega)
      rw [Nat.add_mul] at this; omega
    refine ⟨y, ?_, r3 _ _⟩
    rw [hget _ hlt, show (q * t.width + j) % t.width = j by rw [Nat.add_comm, Nat.add_mul_mod_self_right, Nat.mod_eq_of_lt hjw]]
    simpa using r1

theorem op_clear {o : Oper} {a : Act} {s : Operand} {T : Nat} {ti : TI} {c : C} {lm : Mem} {p : Option Prop} {v : V} {m : Mem} (hT : TabOk P tab) (ho : o.op = .call { callee := .builtin .clear, args := #[s], argTypes := #[T] })
    (ht : tyAt tab T = some ti) (I : Inv tab μ mem w S) (hs : Sees lm mem) (hS : RelV tab μ mem w S (.one c) (a.eval s)) (h : clearX ti lm c = some (p, v, m)) :
    Runs P o a w (After tab μ mem w S m v) := by
  have rel0 : ∀ {μ' : Mu} {mem' : MemF} {w' : World}, RelV tab μ' mem' w' S (.tup []) (.tuple #[]) := ⟨#[], rfl, rfl, fun i v hv => by simp at hv⟩
  cases c with
  | own r =>
    simp only [clearX] at h
    split at h <;> try cases h
    rename_i t l hl
    split at h <;> try cases h
    rename_i hk hf
    obtain ⟨e, i, z, hsl⟩ := und_slice hT ht hk
    obtain ⟨hmr, hμ, hrel⟩ := own_arr hs I hl hS
    have hz : put l 0 (zeros (len l) t.dflt) = zeros (len l) t.dflt := by simp [put, zeros, len]
    have hmm : l = [] → memU [(r, .arr t (zeros (len l) t.dflt))] mem = mem := fun e => by
      subst e
      funext q
      by_cases eq : q = r
      · subst eq; rw [memU_eq, hmr]; rfl
      · rw [memU_ne eq]
    rcases hrel with ⟨es, e0⟩ | ⟨b, cap, cur, e', es, hbk, g3, g4, g5, g6⟩
    · refine runs_val (x := .tuple #[]) (w' := w) (by simp [execOp, ho, resolve, invoke, builtin, es, Builtin.clear_, run_underlying hsl.und]) ?_
      exact ⟨μ, S, by rw [hmm e0]; exact Ext.refl, by rw [hmm e0]; exact I, rel0⟩
    · by_cases hn : l.length = 0
      · refine runs_val (x := .tuple #[]) (w' := w) (by simp [execOp, ho, resolve, invoke, builtin, es, hn, Builtin.clear_, run_underlying hsl.und]) ?_
        have e0 := hmm (List.length_eq_zero_iff.1 hn)
        exact ⟨μ, S, by rw [e0]; exact Ext.refl, by rw [e0]; exact I, rel0⟩
      · have hc := zeros_cells (w := w) (S := S) hsl hf l.length
        obtain ⟨w', q1, q2, q3⟩ := over_arr (P := P) (off := 0) hmr (by rw [hμ, es]) hbk g3 g4 g5 g6 hc (by simp [zeros]) I
        rw [show put l 0 (zeros l.length t.dflt) = zeros (len l) t.dflt from hz] at q2 q3
        rw [Nat.zero_mul] at q1
        obtain ⟨k, hk'⟩ : ∃ k, l.length = k + 1 := ⟨l.length - 1, by omega⟩
        have hzv : (zeroValue e).run P w = .ok z w := by simp [zeroValue, typeInfo, hsl.info, hsl.zero]
        refine runs_val (x := .tuple #[]) (w' := w') ?_ ⟨μ, S, q2, q3, rel0⟩
        rw [hk'] at q1 es
        simp [execOp, ho, resolve, invoke, builtin, es, Builtin.clear_, run_underlying hsl.und, hzv, q1]
  | nil t =>
    simp only [clearX] at h
    split at h <;> try cases h
    rename_i hk
    obtain ⟨e, i, z, hsl⟩ := und_slice hT ht hk
    have es : a.eval s = .slice none 0 0 := hS.2
    refine runs_val (x := .tuple #[]) (w' := w) (by simp [execOp, ho, resolve, invoke, builtin, es, Builtin.clear_, run_underlying hsl.und]) (after_same I rel0)
  | _ => simp only [clearX] at h; cases h
end
end Vm
end Go.Proofs.YtlbppjmekiemiabDoor

/- The executor on data: maps of numbers to truths. No condition. -/
namespace Go.Proofs.YtlbppjmekiemiabDoor
namespace Vm
section
open Go.MapKept
variable {P : Program} {tab : Tab} {μ μ' : Mu} {mem mem' : MemF} {w w' : World} {S S' : Nat → Prop}

theorem kd_map {T : Nat} {tab : Tab} (h : (tyAt tab T).map TI.kd = some .mapib) : ∃ ti, tyAt tab T = some ti ∧ ti.kd = .mapib := by
  simpa using h
theorem und_map {T : Nat} (hT : TabOk P tab) (h : (tyAt tab T).map TI.kd = some .mapib) :
    ∃ K E i, P.underlying T = some (.map K E) ∧ P.underlying K = some (.int .i64) ∧ P.info? E = some i ∧ i.zero = some (.bool false) := by
  obtain ⟨ti, h1, h2⟩ := kd_map h
  have := (hT.ok T ti h1).kind
  rw [h2] at this
  exact this

theorem op_makeMap {o : Oper} {a : Act} {T base : Nat} (ho : o.op = .makeMap T none) (I : Inv tab μ mem w S) (hb : mem base = none) :
    Runs P o a w (After tab μ mem w S [(base, .set [])] (.one (.mp base))) := by
  have hl : (Loc.bx w.heap.size).block = some w.heap.size ∨ (Loc.bx w.heap.size).block = none := .inl rfl
  have E := alloc_E (μ := μ) (S := S) (w := w) (o := .map #[] 0) (B := .set []) hb hl
  refine runs_val (x := .map (some w.heap.size)) (w' := w.alloc (.map #[] 0)) ?_ ⟨_, S, E, alloc_I hb hl I ⟨#[], 0, heap_alloc_new w _, rfl, fun i c hi => by simp at hi⟩, ?_⟩
  · simp [execOp, ho, Instr.makeMap]
  · refine ⟨rfl, ?_, fun cs _ => ⟨w.heap.size, muU_eq, rfl⟩⟩
    rw [memU_eq]; exact fun h => nomatch h

theorem sees_set {lm : Mem} {r : Nat} {ks : List Int} {x : Value} (hs : Sees lm mem) (I : Inv tab μ mem w S) (h : mapX lm r = some ks) (hx : RelV tab μ mem w S (.one (.mp r)) x) :
    mem r = some (.set ks) ∧ ∃ b es clock, x = .map (some b) ∧ μ r = some (.bx b) ∧ w.heap[b]? = some (.map es clock) ∧ es.size = ks.length ∧
      ∀ (i : Nat) k, ks[i]? = some k → ∃ e, es[i]? = some e ∧ e.key = .int .i64 k ∧ e.val = .bool true := by
  unfold mapX at h
  split at h <;> try cases h
  rename_i hl
  have hm := hs r _ hl trivial
  obtain ⟨b, hμ, hxe⟩ := hx.2.2 _ hm
  obtain ⟨l, e1, e2⟩ := I.rel r _ hm trivial
  rw [hμ] at e1; cases e1
  obtain ⟨es, clock, g1, g2, g3⟩ := e2
  exact ⟨hm, b, es, clock, hxe, hμ, g1, g2, g3⟩

theorem keys_int {es : Array MapEntry} {ks : List Int} (h1 : es.size = ks.length) (h2 : ∀ (i : Nat) k, ks[i]? = some k → ∃ e, es[i]? = some e ∧ e.key = .int .i64 k ∧ e.val = .bool true) {x : MapEntry} (hx : x ∈ es.toList) :
    ∃ k ∈ ks, x.key = .int .i64 k ∧ x.val = .bool true := by
  obtain ⟨i, hi, rfl⟩ := List.getElem_of_mem hx
  have hk : i < ks.length := by rw [← h1]; simpa using hi
  obtain ⟨e, e1, e2, e3⟩ := h2 i ks[i] (by simp [hk])
  have : es[i]? = some es.toList[i] := by simp
  rw [this] at e1
  cases e1
  exact ⟨ks[i], List.getElem_mem hk, e2, e3⟩

/-- Which of the keys it is, or none. -/
theorem find_key {es : Array MapEntry} {ks : List Int} (h1 : es.size = ks.length) (h2 : ∀ (i : Nat) k, ks[i]? = some k → ∃ e, es[i]? = some e ∧ e.key = .int .i64 k ∧ e.val = .bool true) (k : Int) :
    (Instr.findNow (.int .i64) (.int .i64 k) es.toList 0 = some none ∧ hasK k ks = false) ∨
    ∃ j e, Instr.findNow (.int .i64) (.int .i64 k) es.toList 0 = some (some (j, .bool true)) ∧ es[j]? = some e ∧ e.key = .int .i64 k ∧ hasK k ks = true := by
  have hk : IsKey (.int .i64) (.int .i64 k) := rfl
  rcases findNow_spec hk es.toList 0 (fun x hx => by obtain ⟨q, _, e, _⟩ := keys_int h1 h2 hx; rw [e]; exact rfl) with ⟨f1, f2⟩ | ⟨j, e, f1, f2, f3⟩
  · refine .inl ⟨f1, decide_eq_false fun hm => ?_⟩
    obtain ⟨i, hi, rfl⟩ := List.getElem_of_mem hm
    obtain ⟨e, e1, e2, _⟩ := h2 i _ (List.getElem?_eq_getElem hi)
    exact f2 e (by have := List.mem_of_getElem? (l := es.toList) (i := i) (a := e) (by simpa using e1); exact this) e2
  · obtain ⟨q, q1, q2, q3⟩ := keys_int h1 h2 (List.mem_of_getElem? f2)
    rw [f3] at q2
    cases q2
    refine .inr ⟨j, e, by rw [f1, q3, Nat.zero_add], by simpa using f2, f3, decide_eq_true q1⟩

theorem op_mapUpdate {o : Oper} {a : Act} {T : Nat} {x y z : Operand} {r : Nat} {k : Int} {ks : List Int} {lm : Mem} (hT : TabOk P tab) (ho : o.op = .mapUpdate T x y z) (ht : (tyAt tab T).map TI.kd = some .mapib)
    (I : Inv tab μ mem w S) (hs : Sees lm mem) (hx : RelV tab μ mem w S (.one (.mp r)) (a.eval x)) (hy : RelV tab μ mem w S (.one (.dat .int k)) (a.eval y)) (hz : RelV tab μ mem w S (.one (.dat .bool true)) (a.eval z))
    (h : mapX lm r = some ks) : Runs P o a w (After tab μ mem w S [(r, .set (insK k ks))] (.one .undef)) := by
  obtain ⟨K, E, i, u1, u2, u3, u4⟩ := und_map hT ht
  obtain ⟨hm, b, es, clock, ex, hμ, g1, g2, g3⟩ := sees_set hs I h hx
  have ey := rel_int hy
  have ez := rel_bool hz
  have hk : IsKey (.int .i64) (.int .i64 k) := rfl
  have go : ∀ (es' : Array MapEntry) (clock' : Nat), (Instr.mapUpdate T (.map (some b)) (.int .i64 k) (.bool true)).run P w = .ok () { w with heap := w.heap.setIfInBounds b (.map es' clock') } →
      es'.size = (insK k ks).length → (∀ (i : Nat) q, (insK k ks)[i]? = some q → ∃ e, es'[i]? = some e ∧ e.key = .int .i64 q ∧ e.val = .bool true) → Runs P o a w (After tab μ mem w S [(r, .set (insK k ks))] (.one .undef)) := fun es' clock' hrun hsz hall => by
    have hb := heap_set (o' := .map es' clock') g1
    have E := write_E (S := S) (w' := { w with heap := w.heap.setIfInBounds b (.map es' clock') }) (B' := .set (insK k ks)) hm trivial hμ (b := b) rfl trivial (by simp) hb.2 rfl rfl rfl
    refine runs_skip (w' := { w with heap := w.heap.setIfInBounds b (.map es' clock') }) (by simp [execOp, ho, ex, ey, ez, hrun]) ⟨μ, S, E, write_I hm trivial hμ rfl (by simp) hb.2 E I ⟨es', clock', hb.1, hsz, hall⟩, trivial⟩
  rcases find_key g2 g3 k with ⟨f1, f2⟩ | ⟨j, e, f1, f2, f3, f4⟩
  · have hi : insK k ks = ks ++ [k] := by unfold insK; rw [f2]
    refine go (es.push { key := .int .i64 k, val := .bool true, born := clock }) (clock + 1) ?_ (by rw [hi]; simp [g2]) (fun i q hq => ?_)
    · simp [Instr.mapUpdate, run_underlying u1, MapKept.run_getObj_map g1, run_checkKey u2 hk, run_findKey u2 f1, run_setObj_map _ g1, Result.andThen]
    · rw [hi] at hq
      by_cases c : i < ks.length
      · rw [List.getElem?_append_left c] at hq
        obtain ⟨e, e1, e2⟩ := g3 i q hq
        exact ⟨e, by rw [Array.getElem?_push, if_neg (by omega)]; exact e1, e2⟩
      · have hi' : i = ks.length := by
          have := (List.getElem?_eq_some_iff.1 hq).1
          simp at this; omega
        subst hi'
        simp at hq
        subst hq
        exact ⟨_, by rw [Array.getElem?_push, if_pos g2.symm], rfl, rfl⟩
  · have hi : insK k ks = ks := by unfold insK; rw [f4]
    refine go (es.modify j fun e => { e with key := .int .i64 k, val := .bool true }) clock ?_ (by rw [hi]; simp [g2]) (fun i q hq => ?_)
    · simp [Instr.mapUpdate, run_underlying u1, MapKept.run_getObj_map g1, run_checkKey u2 hk, run_findKey u2 f1, f2, f3, run_keyThatStays hk, run_setObj_map _ g1, Result.andThen]
    · rw [hi] at hq
      obtain ⟨e', e1, e2, e3⟩ := g3 i q hq
      rw [Array.getElem?_modify]
      by_cases c : j = i
      · subst c
        rw [f2] at e1; cases e1
        rw [f2]
        refine ⟨{ e with key := .int .i64 k, val := .bool true }, by simp, ?_, rfl⟩
        rw [← e2, f3]
      · rw [if_neg c]
        exact ⟨e', e1, e2, e3⟩

theorem op_lookup {o : Oper} {a : Act} {T : Nat} {x y : Operand} {r : Nat} {k : Int} {ks : List Int} {lm : Mem} (hT : TabOk P tab) (ho : o.op = .lookup T x y false) (ht : (tyAt tab T).map TI.kd = some .mapib)
    (I : Inv tab μ mem w S) (hs : Sees lm mem) (hx : RelV tab μ mem w S (.one (.mp r)) (a.eval x)) (hy : RelV tab μ mem w S (.one (.dat .int k)) (a.eval y))
    (h : mapX lm r = some ks) : Runs P o a w (After tab μ mem w S [] (.one (.dat .bool (hasK k ks)))) := by
  obtain ⟨K, E, i, u1, u2, u3, u4⟩ := und_map hT ht
  obtain ⟨hm, b, es, clock, ex, hμ, g1, g2, g3⟩ := sees_set hs I h hx
  have ey := rel_int hy
  have hk : IsKey (.int .i64) (.int .i64 k) := rfl
  refine runs_val (x := .bool (hasK k ks)) (w' := w) ?_ (after_same I (mk_bool _))
  rcases find_key g2 g3 k with ⟨f1, f2⟩ | ⟨j, e, f1, f2, f3, f4⟩
  · simp [execOp, ho, ex, ey, Instr.lookup, run_underlying u1, MapKept.run_getObj_map g1, run_checkKey u2 hk, run_findKey u2 f1, run_zero u3 u4, f2, Result.andThen]
  · simp [execOp, ho, ex, ey, Instr.lookup, run_underlying u1, MapKept.run_getObj_map g1, run_checkKey u2 hk, run_findKey u2 f1, f4, Result.andThen]
end
end Vm
end Go.Proofs.YtlbppjmekiemiabDoor

/- The executor on data: calls, by contracts. No condition. -/
namespace Go.Proofs.YtlbppjmekiemiabDoor
namespace Vm
section
variable {P : Program} {tab : Tab} {μ μ' μ1 μ2 : Mu} {mem mem' mem1 mem2 : MemF} {w w' : World} {S S' : Nat → Prop}

def memL (bs : List Blk) : MemF := fun r => bs[r]?

/-- A call does what a contract says. -/
def AC (P : Program) (tab : Tab) (f : Nat) (vs : List V) (bs : List Blk) (v : V) (bs' : List Blk) : Prop :=
  ∀ (w : World) (S : Nat → Prop) (μ : Mu) (xs : List Value), Inv tab μ (memL bs) w S → RelVs tab μ (memL bs) w S vs xs →
    Calls P f xs.toArray w fun e w' => ∃ x μ' S', e = .returned x ∧ Ext μ (memL bs) w S μ' (memL bs') w' S' ∧ Inv tab μ' (memL bs') w' S' ∧ RelV tab μ' (memL bs') w' S' v x

def SoundC (P : Program) (tab : Tab) (f : Nat) (C : Contract) : Prop :=
  ∀ vs bs p v bs', C vs bs = some (p, v, bs') → under p True → AC P tab f vs bs v bs'

def Sound (P : Program) (tab : Tab) (Γ : Ctx) : Prop := ∀ f C, look Γ f = some C → SoundC P tab f C ∧ (∃ fn, P.funcs[f]? = some fn ∧ fn.body.isSome = true ∧ (fn.name == "runtime.NumGoroutine") = false)

def KindEq : Blk → Blk → Prop
  | .box _, .box _ => True
  | .arr t _, .arr u _ => t = u
  | .set _, .set _ => True
  | _, _ => False

/-- Names changed: what was so of the old ones is so of the new ones. -/
def Renames (μ1 : Mu) (mem1 : MemF) (μ2 : Mu) (mem2 : MemF) (f : Nat → Nat) (r : Nat) : Prop :=
  mem1 r ≠ none → mem2 (f r) ≠ none ∧ ∀ B2, mem2 (f r) = some B2 → B2.alive → ∃ B1, mem1 r = some B1 ∧ KindEq B1 B2 ∧ μ2 (f r) = μ1 r

theorem RelC.ren {f : Nat → Nat} {c : C} {x : Value} (h : RelC tab μ1 mem1 w S c x) (hr : ∀ r ∈ c.names, Renames μ1 mem1 μ2 mem2 f r) : RelC tab μ2 mem2 w S (c.ren f) x := by
  cases c with
  | dat t d => exact h
  | nil t => exact h
  | undef => trivial
  | any => trivial
  | eptr t l i k => exact h
  | ptr r o =>
    obtain ⟨h0, h1⟩ := h
    obtain ⟨g0, g1⟩ := hr r (by simp [C.names]) h0
    refine ⟨g0, fun cs hcs => ?_⟩
    obtain ⟨B1, e1, e2, e3⟩ := g1 _ hcs trivial
    cases B1 with
    | box cs1 => obtain ⟨b, k1, k2⟩ := h1 cs1 e1; exact ⟨b, e3.trans k1, k2⟩
    | _ => exact e2.elim
  | mp r =>
    obtain ⟨h0, h1⟩ := h
    obtain ⟨g0, g1⟩ := hr r (by simp [C.names]) h0
    refine ⟨g0, fun cs hcs => ?_⟩
    obtain ⟨B1, e1, e2, e3⟩ := g1 _ hcs trivial
    cases B1 with
    | set cs1 => obtain ⟨b, k1, k2⟩ := h1 cs1 e1; exact ⟨b, e3.trans k1, k2⟩
    | _ => exact e2.elim
  | own r =>
    obtain ⟨h0, h1⟩ := h
    obtain ⟨g0, g1⟩ := hr r (by simp [C.names]) h0
    refine ⟨g0, fun t l hcs => ?_⟩
    obtain ⟨B1, e1, e2, e3⟩ := g1 _ hcs trivial
    cases B1 with
    | arr t1 l1 => exact e3.trans (h1 t1 l1 e1)
    | _ => exact e2.elim
  | view r off n =>
    obtain ⟨h0, h1⟩ := h
    obtain ⟨g0, g1⟩ := hr r (by simp [C.names]) h0
    refine ⟨g0, fun t l hcs => ?_⟩
    obtain ⟨B1, e1, e2, e3⟩ := g1 _ hcs trivial
    cases B1 with
    | arr t1 l1 =>
      obtain ⟨y, k1, k2⟩ := h1 t1 l1 e1
      have : t1 = t := e2
      subst this
      exact ⟨y, e3.trans k1, k2⟩
    | _ => exact e2.elim
  | optr r i k =>
    obtain ⟨h0, h1⟩ := h
    obtain ⟨g0, g1⟩ := hr r (by simp [C.names]) h0
    refine ⟨g0, fun t l hcs => ?_⟩
    obtain ⟨B1, e1, e2, e3⟩ := g1 _ hcs trivial
    cases B1 with
    | arr t1 l1 =>
      obtain ⟨b, m, cap, k1, k2⟩ := h1 t1 l1 e1
      have : t1 = t := e2
      subst this
      exact ⟨b, m, cap, e3.trans k1, k2⟩
    | _ => exact e2.elim
  | fn g caps =>
    obtain ⟨h0, vs, h1, h2, h3⟩ := h
    refine ⟨fun q hq => ?_, vs, h1, by simpa using h2, fun i q hq => ?_⟩
    · simp only [List.mem_map] at hq
      obtain ⟨r, hr', rfl⟩ := hq
      exact (hr r hr' (h0 r hr')).1
    · simp only [List.getElem?_map, Option.map_eq_some_iff] at hq
      obtain ⟨r, hr', rfl⟩ := hq
      have hm := List.mem_of_getElem? hr'
      obtain ⟨y, y1, y2, y3⟩ := h3 i r hr'
      refine ⟨y, y1, y2, fun cs hcs => ?_⟩
      obtain ⟨B1, e1, e2, e3⟩ := (hr r hm (h0 r hm)).2 _ hcs trivial
      cases B1 with
      | box cs1 => obtain ⟨b, k1, k2⟩ := y3 cs1 e1; exact ⟨b, e3.trans k1, k2⟩
      | _ => exact e2.elim

theorem RelW.ren {f : Nat → Nat} {v : V} {x : Value} (h : RelW tab μ1 mem1 w S v x) (hr : ∀ r ∈ v.names, Renames μ1 mem1 μ2 mem2 f r) : RelW tab μ2 mem2 w S (v.ren f) x := by
  cases v with
  | one c => exact ⟨h.1, h.2.ren hr⟩
  | agg cs =>
    obtain ⟨xs, e, h1, h2⟩ := h
    refine ⟨xs, e, by simpa using h1, fun i c hi => ?_⟩
    simp only [List.getElem?_map, Option.map_eq_some_iff] at hi
    obtain ⟨c0, hc, rfl⟩ := hi
    obtain ⟨y, y1, y2, y3⟩ := h2 i c0 hc
    exact ⟨y, y1, y2, y3.ren fun r hr' => hr r (by simp only [V.names, List.mem_flatMap]; exact ⟨c0, List.mem_of_getElem? hc, hr'⟩)⟩
  | tup vs => exact h.elim

/-- All names in a value, its parts' too. -/
def V.allNames : V → List Nat
  | .tup vs => vs.flatMap V.names
  | v => v.names

theorem RelV.ren {f : Nat → Nat} {v : V} {x : Value} (h : RelV tab μ1 mem1 w S v x) (hr : ∀ r ∈ v.allNames, Renames μ1 mem1 μ2 mem2 f r) : RelV tab μ2 mem2 w S (v.ren f) x := by
  cases v with
  | one c =>
    have : RelW tab μ1 mem1 w S (.one c) x ∨ c = .undef := by cases c <;> first | exact .inr rfl | exact .inl h
    rcases this with h' | rfl
    · have := h'.ren (μ2 := μ2) (mem2 := mem2) (f := f) hr
      cases c <;> first | trivial | exact this
    · trivial
  | agg cs => exact RelW.ren (v := .agg cs) h hr
  | tup vs =>
    obtain ⟨xs, e, h1, h2⟩ := h
    refine ⟨xs, e, by simpa using h1, fun i u hi => ?_⟩
    simp only [List.getElem?_map, Option.map_eq_some_iff] at hi
    obtain ⟨u0, hu, rfl⟩ := hi
    obtain ⟨y, y1, y2⟩ := h2 i u0 hu
    have hm : ∀ r ∈ u0.names, Renames μ1 mem1 μ2 mem2 f r := fun r hr' => hr r (by simp only [V.allNames, List.mem_flatMap]; exact ⟨u0, List.mem_of_getElem? hu, hr'⟩)
    refine ⟨y, y1, ?_⟩
    cases u0 with
    | one c => exact RelW.ren (v := .one c) y2 hm
    | agg cs => exact RelW.ren (v := .agg cs) y2 hm
    | tup us => exact y2.elim

theorem BlkRel.ren {f : Nat → Nat} {B : Blk} {l : Loc} (h : BlkRel tab μ1 mem1 w S B l) (hr : ∀ r ∈ B.names, Renames μ1 mem1 μ2 mem2 f r) : BlkRel tab μ2 mem2 w S (B.ren f) l := by
  cases B with
  | dead => exact h.elim
  | box cs =>
    cases l with
    | ar x => exact h.elim
    | bx b =>
      obtain ⟨vs, e, h1, h2, h3⟩ := h
      refine ⟨vs, e, h1, by simpa using h2, fun i c hi => ?_⟩
      simp only [List.getElem?_map, Option.map_eq_some_iff] at hi
      obtain ⟨c0, hc, rfl⟩ := hi
      obtain ⟨y, y1, y2, y3⟩ := h3 i c0 hc
      exact ⟨y, y1, y2, y3.ren fun r hr' => hr r (by simp only [Blk.names, List.mem_flatMap]; exact ⟨c0, List.mem_of_getElem? hc, hr'⟩)⟩
  | set ks =>
    cases l with
    | ar x => exact h.elim
    | bx b => exact h
  | arr t ll =>
    cases l with
    | bx b => exact h.elim
    | ar x => exact h

theorem unNil_rel {v : V} {x : Value} (h : RelV tab μ mem w S v x) : RelV tab μ mem w S (unNil v) x := by
  cases v with
  | one c =>
    cases c with
    | nil t => obtain ⟨h1, rfl⟩ := h; exact ⟨rfl, .empty t none 0⟩
    | _ => exact h
  | agg cs =>
    obtain ⟨xs, e, h1, h2⟩ := h
    refine ⟨xs, e, by simpa using h1, fun i c hi => ?_⟩
    simp only [List.getElem?_map, Option.map_eq_some_iff] at hi
    obtain ⟨c0, hc, rfl⟩ := hi
    obtain ⟨y, y1, y2, y3⟩ := h2 i c0 hc
    refine ⟨y, y1, y2, ?_⟩
    cases c0 with
    | nil t =>
      have : y = .slice none 0 0 := y3
      subst this
      exact RepC.empty t none 0
    | _ => exact y3
  | tup vs => exact h

theorem unNil_names (v : V) : ∀ r ∈ (unNil v).allNames, r ∈ v.allNames := by
  intro r hr
  cases v with
  | one c => cases c <;> exact hr
  | agg cs =>
    simp only [unNil, V.allNames, V.names, List.mem_flatMap, List.mem_map] at hr ⊢
    obtain ⟨c, ⟨c0, hc, rfl⟩, h2⟩ := hr
    refine ⟨c0, hc, ?_⟩
    cases c0 <;> exact h2
  | tup vs => exact hr

theorem kindEq_ren {f : Nat → Nat} {B : Blk} (h : B.alive) : KindEq B (B.ren f) := by
  cases B with
  | dead => exact h.elim
  | box cs => trivial
  | set ks => trivial
  | arr t l => exact rfl

theorem alive_ren {f : Nat → Nat} {B : Blk} : (B.ren f).alive ↔ B.alive := by cases B <;> exact Iff.rfl
end
end Vm
end Go.Proofs.YtlbppjmekiemiabDoor

/- The executor on data: calls, there and back. No condition. -/
namespace Go.Proofs.YtlbppjmekiemiabDoor
namespace Vm
section
variable {P : Program} {tab : Tab} {μ μ' μ1 μ2 : Mu} {mem mem' mem1 mem2 : MemF} {w w' : World} {S S' : Nat → Prop}

/-- The blocks that are handed in, in their order. -/
structure Handed (mem : MemF) (seen : List Nat) (blks : List Blk) : Prop where
  nodup : seen.Nodup
  len : blks.length = seen.length
  at_ : ∀ (j r : Nat), seen[j]? = some r → blks[j]? = some ((mem r).getD .dead)
  closed : ∀ B ∈ blks, ∀ r ∈ B.names, r ∈ seen

theorem idx_get {seen : List Nat} (hn : seen.Nodup) {j r : Nat} (h : seen[j]? = some r) : idx seen r = j := by
  obtain ⟨hj, rfl⟩ := List.getElem?_eq_some_iff.1 h
  unfold idx
  exact List.Nodup.idxOf_getElem hn j hj

theorem get_idx {seen : List Nat} {r : Nat} (h : r ∈ seen) : seen[idx seen r]? = some r := by
  unfold idx
  rw [List.getElem?_eq_getElem (List.idxOf_lt_length_iff.2 h), List.getElem_idxOf]

def muC (seen : List Nat) (μ : Mu) : Mu := fun j => (seen[j]?).bind μ

section
variable {seen : List Nat} {blks : List Blk} (H : Handed mem seen blks)
include H

theorem Handed.memC {j r : Nat} (h : seen[j]? = some r) : memL (blks.map (Blk.ren (idx seen))) j = some (((mem r).getD .dead).ren (idx seen)) := by
  simp [memL, H.at_ j r h]

theorem Handed.memC_some {j : Nat} {B : Blk} (h : memL (blks.map (Blk.ren (idx seen))) j = some B) : ∃ r, seen[j]? = some r ∧ B = ((mem r).getD .dead).ren (idx seen) := by
  have hj : j < seen.length := by
    have := (List.getElem?_eq_some_iff.1 h).1
    rw [← H.len]; simpa using this
  refine ⟨seen[j], List.getElem?_eq_getElem hj, ?_⟩
  have := H.memC (List.getElem?_eq_getElem hj)
  rw [h] at this
  exact Option.some.inj this

theorem Handed.ren {r : Nat} (hr : r ∈ seen) : Renames μ mem (muC seen μ) (memL (blks.map (Blk.ren (idx seen)))) (idx seen) r := fun h0 => by
  have hm := H.memC (get_idx hr)
  refine ⟨by rw [hm]; exact (fun h => by cases h), fun B2 h2 ha => ?_⟩
  rw [hm] at h2; cases h2
  obtain ⟨B1, h1⟩ := exists_of_ne h0
  rw [h1] at ha ⊢
  exact ⟨B1, rfl, kindEq_ren (alive_ren.1 ha), by simp [muC, get_idx hr]⟩

theorem Handed.live {j : Nat} (h : Live (memL (blks.map (Blk.ren (idx seen)))) j) : ∃ r B, seen[j]? = some r ∧ mem r = some B ∧ B.alive := by
  obtain ⟨B, h1, h2⟩ := h
  obtain ⟨r, hr, rfl⟩ := H.memC_some h1
  have ha := alive_ren.1 h2
  cases hm : mem r with
  | none => rw [hm] at ha; exact ha.elim
  | some B => rw [hm] at ha; exact ⟨r, B, hr, hm, ha⟩

theorem Handed.inv (I : Inv tab μ mem w S) : Inv tab (muC seen μ) (memL (blks.map (Blk.ren (idx seen)))) w S := by
  refine ⟨fun j B hB ha => ?_, fun j j' hjj h1 h2 l1 l2 b e1 e2 hb hb' => ?_, fun j h1 l1 b e1 hb hS => ?_, I.lt, I.pow⟩
  · obtain ⟨r, hr, rfl⟩ := H.memC_some hB
    have ha' := alive_ren.1 ha
    cases hm : mem r with
    | none => rw [hm] at ha'; exact ha'.elim
    | some B0 =>
      rw [hm] at ha'
      obtain ⟨l, e1, e2⟩ := I.rel r B0 hm ha'
      refine ⟨l, by simp [muC, hr, e1], e2.ren fun q hq => H.ren ?_⟩
      have := H.at_ j r hr
      rw [hm] at this
      exact H.closed B0 (List.mem_of_getElem? this) q hq
  · obtain ⟨r, B, hr, hm, ha⟩ := H.live h1
    obtain ⟨r', B', hr', hm', ha'⟩ := H.live h2
    simp only [muC, hr, hr', Option.bind_some] at e1 e2
    have hne : r ≠ r' := fun e => by
      subst e
      exact hjj ((idx_get H.nodup hr).symm.trans (idx_get H.nodup hr'))
    exact I.inj r r' hne ⟨B, hm, ha⟩ ⟨B', hm', ha'⟩ l1 l2 b e1 e2 hb hb'
  · obtain ⟨r, B, hr, hm, ha⟩ := H.live h1
    simp only [muC, hr, Option.bind_some] at e1
    exact I.sep r ⟨B, hm, ha⟩ l1 b e1 hb hS

theorem Handed.own {b : Nat} (h : OwnB (muC seen μ) (memL (blks.map (Blk.ren (idx seen)))) b) : ∃ r ∈ seen, ∃ l, Live mem r ∧ μ r = some l ∧ l.block = some b := by
  obtain ⟨j, l, h1, h2, h3⟩ := h
  obtain ⟨r, B, hr, hm, ha⟩ := H.live h1
  simp only [muC, hr, Option.bind_some] at h2
  exact ⟨r, List.mem_of_getElem? hr, l, ⟨B, hm, ha⟩, h2, h3⟩

theorem Handed.args : ∀ {vs : List V} {xs : List Value}, RelVs tab μ mem w S vs xs → (∀ v ∈ vs, ∀ r ∈ v.allNames, r ∈ seen) → RelVs tab (muC seen μ) (memL (blks.map (Blk.ren (idx seen)))) w S ((vs.map unNil).map (V.ren (idx seen))) xs
  | [], [], _, _ => trivial
  | v :: vs, x :: xs, h, hn => ⟨(unNil_rel h.1).ren fun r hr => H.ren (hn v (by simp) r (unNil_names v r hr)), Handed.args h.2 fun u hu => hn u (by simp [hu])⟩
  | [], _ :: _, h, _ => h.elim
  | _ :: _, [], h, _ => h.elim
theorem Handed.raw : ∀ {vs : List V} {xs : List Value}, RelVs tab μ mem w S vs xs → (∀ v ∈ vs, ∀ r ∈ v.allNames, r ∈ seen) → RelVs tab (muC seen μ) (memL (blks.map (Blk.ren (idx seen)))) w S (vs.map (V.ren (idx seen))) xs
  | [], [], _, _ => trivial
  | v :: vs, x :: xs, h, hn => ⟨h.1.ren fun r hr => H.ren (hn v (by simp) r hr), Handed.raw h.2 fun u hu => hn u (by simp [hu])⟩
  | [], _ :: _, h, _ => h.elim
  | _ :: _, [], h, _ => h.elim

theorem Handed.pick {C : Contract} {ins : List Blk} {vs : List V} {xs : List Value} (h : RelVs tab μ mem w S vs xs) (hn : ∀ v ∈ vs, ∀ r ∈ v.allNames, r ∈ seen) : RelVs tab (muC seen μ) (memL (blks.map (Blk.ren (idx seen)))) w S ((pickArgs C (idx seen) ins vs).map (V.ren (idx seen))) xs := by
  unfold pickArgs
  split
  · exact Handed.raw H h hn
  · exact Handed.args H h hn
end

theorem zipFrom_get {α : Type} : ∀ (l : List α) (i j : Nat), (zipFrom i l)[j]? = (l[j]?).map fun a => (i + j, a)
  | [], i, j => by simp [zipFrom]
  | a :: l, i, 0 => by simp [zipFrom]
  | a :: l, i, j + 1 => by
    simp only [zipFrom, List.getElem?_cons_succ, zipFrom_get l (i + 1) j]
    congr 1
    funext a; congr 1; omega

theorem look_of_get : ∀ {m : Mem}, (m.map (·.1)).Nodup → ∀ {j r : Nat} {B : Blk}, m[j]? = some (r, B) → look m r = some B
  | [], _, j, r, B, h => by simp at h
  | (q, D) :: m, hn, 0, r, B, h => by simp at h; obtain ⟨rfl, rfl⟩ := h; simp [look, Nat.beq_refl]
  | (q, D) :: m, hn, j + 1, r, B, h => by
    simp only [List.getElem?_cons_succ] at h
    simp only [List.map_cons, List.nodup_cons] at hn
    have hr : r ∈ m.map (·.1) := List.mem_map.2 ⟨(r, B), List.mem_of_getElem? h, rfl⟩
    have hne : r ≠ q := fun e => hn.1 (e ▸ hr)
    simp only [look, beq_ne hne]
    exact look_of_get hn.2 h

theorem get_of_look : ∀ {m : Mem} {r : Nat} {B : Blk}, look m r = some B → ∃ j : Nat, m[j]? = some (r, B)
  | [], r, B, h => by simp [look] at h
  | (q, D) :: m, r, B, h => by
    by_cases e : r = q
    · subst e
      simp [look, Nat.beq_refl] at h
      subst h
      exact ⟨0, rfl⟩
    · simp only [look, beq_ne e] at h
      obtain ⟨j, hj⟩ := get_of_look h
      exact ⟨j + 1, by simpa using hj⟩

/-- The way back: the blocks' names. -/
structure Back (mem : MemF) (seen : List Nat) (base : Nat) (n : Nat) : Prop where
  nodup : seen.Nodup
  below : ∀ r ∈ seen, r < base
  le : seen.length ≤ n
  fresh : ∀ j, seen.length ≤ j → j < n → mem (base + (j - seen.length)) = none

theorem backName_old {seen : List Nat} {base j r : Nat} (h : seen[j]? = some r) : backName seen base j = r := by simp [backName, h]
theorem backName_new {seen : List Nat} {base j : Nat} (h : seen.length ≤ j) : backName seen base j = base + (j - seen.length) := by simp [backName, List.getElem?_eq_none h]

theorem Back.inj {seen : List Nat} {base n : Nat} (K : Back mem seen base n) {i j : Nat} (h : backName seen base i = backName seen base j) : i = j := by
  by_cases hi : i < seen.length
  · rw [backName_old (List.getElem?_eq_getElem hi)] at h
    by_cases hj : j < seen.length
    · rw [backName_old (List.getElem?_eq_getElem hj)] at h
      exact (List.getElem_inj K.nodup).1 h
    · rw [backName_new (by omega)] at h
      have := K.below _ (List.getElem_mem hi)
      omega
  · rw [backName_new (by omega)] at h
    by_cases hj : j < seen.length
    · rw [backName_old (List.getElem?_eq_getElem hj)] at h
      have := K.below _ (List.getElem_mem hj)
      omega
    · rw [backName_new (by omega)] at h
      omega

theorem backs_get (seen : List Nat) (base : Nat) (bs : List Blk) (j : Nat) : (backs seen base bs)[j]? = (bs[j]?).map fun B => (backName seen base j, B.ren (backName seen base)) := by
  simp only [backs, List.getElem?_map, zipFrom_get]
  cases bs[j]? <;> simp

theorem Back.lk {seen : List Nat} {base : Nat} {bs : List Blk} (K : Back mem seen base bs.length) {j : Nat} {B : Blk} (h : bs[j]? = some B) : look (backs seen base bs) (backName seen base j) = some (B.ren (backName seen base)) := by
  have hn : ((backs seen base bs).map (·.1)).Nodup := by
    refine List.pairwise_iff_getElem.2 fun i j hi hj hij => ?_
    simp only [List.length_map] at hi hj
    have h1 := backs_get seen base bs i
    have h2 := backs_get seen base bs j
    rw [List.getElem?_eq_getElem hi] at h1
    rw [List.getElem?_eq_getElem hj] at h2
    simp only [List.getElem_map]
    cases hb1 : bs[i]? with
    | none => rw [hb1] at h1; cases h1
    | some B1 => cases hb2 : bs[j]? with
      | none => rw [hb2] at h2; cases h2
      | some B2 =>
        rw [hb1] at h1; rw [hb2] at h2
        rw [Option.some.inj h1, Option.some.inj h2]
        intro e
        have := K.inj e
        omega
  exact look_of_get hn (j := j) (by rw [backs_get, h]; rfl)

theorem Back.lk_some {seen : List Nat} {base : Nat} {bs : List Blk} {q : Nat} {D : Blk} (h : look (backs seen base bs) q = some D) : ∃ j B, bs[j]? = some B ∧ q = backName seen base j ∧ D = B.ren (backName seen base) := by
  obtain ⟨j, hj⟩ := get_of_look h
  rw [backs_get] at hj
  cases hb : bs[j]? with
  | none => rw [hb] at hj; cases hj
  | some B =>
    rw [hb] at hj
    simp only [Option.map_some, Option.some.injEq, Prod.mk.injEq] at hj
    exact ⟨j, B, hb, hj.1.symm, hj.2.symm⟩

def muB (seen : List Nat) (base : Nat) (bs : List Blk) (μ μ' : Mu) : Mu := fun q =>
  match (List.range bs.length).find? fun j => backName seen base j == q with
  | some j => μ' j
  | none => μ q

theorem Back.mu {seen : List Nat} {base : Nat} {bs : List Blk} (K : Back mem seen base bs.length) {j : Nat} (h : j < bs.length) : muB seen base bs μ μ' (backName seen base j) = μ' j := by
  unfold muB
  cases hf : (List.range bs.length).find? fun i => backName seen base i == backName seen base j with
  | none =>
    have := List.find?_eq_none.1 hf j (List.mem_range.2 h)
    simp at this
  | some i =>
    have := List.find?_some hf
    simp only [beq_iff_eq] at this
    rw [K.inj this]

theorem Back.mu_other {seen : List Nat} {base : Nat} {bs : List Blk} {q : Nat} (h : ∀ j, j < bs.length → backName seen base j ≠ q) : muB seen base bs μ μ' q = μ q := by
  unfold muB
  have : (List.range bs.length).find? (fun i => backName seen base i == q) = none := by
    rw [List.find?_eq_none]
    intro j hj
    simpa using h j (List.mem_range.1 hj)
  rw [this]
end
end Vm
end Go.Proofs.YtlbppjmekiemiabDoor

/- The executor on data: calls, the whole. No condition. -/
namespace Go.Proofs.YtlbppjmekiemiabDoor
namespace Vm
section
variable {P : Program} {tab : Tab} {μ μ' μ1 μ2 : Mu} {mem mem' mem1 mem2 : MemF} {w w' : World} {S S' : Nat → Prop}

theorem sameKind_ren {f g : Nat → Nat} {A B : Blk} (h : SameKind (A.ren f) B) : SameKind A (B.ren g) := by
  cases A <;> cases B <;> simp_all [SameKind, Blk.ren]

theorem call_back {seen : List Nat} {blks bs : List Blk} {base : Nat} {v : V} {x : Value} (I : Inv tab μ mem w S) (H : Handed mem seen blks) (K : Back mem seen base bs.length)
    (E : Ext (muC seen μ) (memL (blks.map (Blk.ren (idx seen)))) w S μ' (memL bs) w' S') (I' : Inv tab μ' (memL bs) w' S') (hv : RelV tab μ' (memL bs) w' S' v x) :
    Ext μ mem w S (muB seen base bs μ μ') (memU (backs seen base bs) mem) w' S' ∧ Inv tab (muB seen base bs μ μ') (memU (backs seen base bs) mem) w' S' ∧
      RelV tab (muB seen base bs μ μ') (memU (backs seen base bs) mem) w' S' (v.ren (backName seen base)) x := by
  have hin : ∀ j B, bs[j]? = some B → memU (backs seen base bs) mem (backName seen base j) = some (B.ren (backName seen base)) := fun j B h => by
    simp only [memU, K.lk h]
  have hout : ∀ q, (∃ j B, bs[j]? = some B ∧ q = backName seen base j) ∨ ((∀ j, j < bs.length → backName seen base j ≠ q) ∧ memU (backs seen base bs) mem q = mem q) := fun q => by
    cases hl : look (backs seen base bs) q with
    | some D => obtain ⟨j, B, h1, h2, _⟩ := Back.lk_some hl; exact .inl ⟨j, B, h1, h2⟩
    | none =>
      refine .inr ⟨fun j hj e => ?_, by simp only [memU, hl]⟩
      have := K.lk (List.getElem?_eq_getElem hj)
      rw [e, hl] at this; cases this
  have hren : ∀ j, Renames μ' (memL bs) (muB seen base bs μ μ') (memU (backs seen base bs) mem) (backName seen base) j := fun j h0 => by
    obtain ⟨B, hB⟩ := exists_of_ne h0
    have hB' : bs[j]? = some B := hB
    have hj : j < bs.length := (List.getElem?_eq_some_iff.1 hB').1
    refine ⟨by rw [hin j B hB']; exact (fun h => by cases h), fun B2 h2 ha => ?_⟩
    rw [hin j B hB'] at h2; cases h2
    exact ⟨B, hB, kindEq_ren (alive_ren.1 ha), K.mu hj⟩
  -- an old name among those of the call was handed in
  have hold : ∀ j q, j < bs.length → q = backName seen base j → mem q ≠ none → seen[j]? = some q := fun j q hj e hq => by
    by_cases hjs : j < seen.length
    · rw [backName_old (List.getElem?_eq_getElem hjs)] at e
      rw [e]; exact List.getElem?_eq_getElem hjs
    · rw [backName_new (by omega)] at e
      exact absurd (K.fresh j (by omega) hj) (e ▸ hq)
  have hliveIn : ∀ j r, seen[j]? = some r → Live mem r → Live (memL (blks.map (Blk.ren (idx seen)))) j := fun j r hr ⟨B, hB, ha⟩ => by
    have := H.memC hr
    rw [hB] at this
    exact ⟨_, this, alive_ren.2 ha⟩
  have hownIn : ∀ b, OwnB (muC seen μ) (memL (blks.map (Blk.ren (idx seen)))) b → OwnB μ mem b := fun b h => by
    obtain ⟨r, _, l, h1, h2, h3⟩ := H.own h
    exact ⟨r, l, h1, h2, h3⟩
  have E' : Ext μ mem w S (muB seen base bs μ μ') (memU (backs seen base bs) mem) w' S' := by
    refine ⟨fun q hq => ?_, fun q B B' h h' => ?_, E.sub, E.size, fun b hb hn => E.heap b hb fun h => hn (hownIn b h), fun b h => (E.only b h).imp id (Or.imp id (hownIn b)), fun b h => ?_, E.os, E.tape, E.output⟩
    · rcases hout q with ⟨j, B, h1, rfl⟩ | ⟨_, h2⟩
      · rw [hin j B h1]; exact (fun h => by cases h)
      · rw [h2]; exact hq
    · rcases hout q with ⟨j, D, h1, e⟩ | ⟨h1, h2⟩
      · have hj : j < bs.length := (List.getElem?_eq_some_iff.1 h1).1
        have hs := hold j q hj e (by rw [h]; exact (fun h => by cases h))
        have hm := H.memC hs
        rw [h] at hm
        have hk := E.kinds j _ D hm h1
        rw [e, hin j D h1] at h'; cases h'
        refine ⟨sameKind_ren hk.1, fun hl => ?_⟩
        obtain ⟨D2, hD2, ha⟩ := hl
        rw [e, hin j D h1] at hD2; cases hD2
        rw [e, K.mu hj, hk.2 ⟨D, h1, alive_ren.1 ha⟩, ← e]
        simp [muC, hs]
      · rw [h2, h] at h'; cases h'
        exact ⟨SameKind.refl _, fun _ => Back.mu_other h1⟩
    · obtain ⟨q, l, hl, hm, hb⟩ := h
      rcases hout q with ⟨j, D, h1, rfl⟩ | ⟨h1, h2⟩
      · have hj : j < bs.length := (List.getElem?_eq_some_iff.1 h1).1
        obtain ⟨D2, hD2, ha⟩ := hl
        rw [hin j D h1] at hD2; cases hD2
        rw [K.mu hj] at hm
        exact (E.own b ⟨j, l, ⟨D, h1, alive_ren.1 ha⟩, hm, hb⟩).imp (hownIn b) id
      · rw [Back.mu_other h1] at hm
        refine .inl ⟨q, l, ?_, hm, hb⟩
        obtain ⟨D2, hD2, ha⟩ := hl
        rw [h2] at hD2
        exact ⟨D2, hD2, ha⟩
  -- a block that was not handed in
  have hsep : ∀ q l b, (∀ j, j < bs.length → backName seen base j ≠ q) → Live mem q → μ q = some l → l.block = some b → ¬ OwnB (muC seen μ) (memL (blks.map (Blk.ren (idx seen)))) b := fun q l b hq hl hm hb h => by
    obtain ⟨r, hr, l', h1, h2, h3⟩ := H.own h
    have hne : q ≠ r := fun e => by
      subst e
      have := get_idx hr
      have hj : idx seen q < seen.length := (List.getElem?_eq_some_iff.1 this).1
      exact hq (idx seen q) (Nat.lt_of_lt_of_le hj K.le) (backName_old this)
    exact I.inj q r hne hl h1 l l' b hm h2 hb h3
  refine ⟨E', ⟨fun q B hB ha => ?_, fun q q' hqq g1 g2 l1 l2 b e1 e2 hb hb' => ?_, fun q g1 l1 b e1 hb hS => ?_, I'.lt, I'.pow⟩, hv.ren fun r _ => hren r⟩
  · rcases hout q with ⟨j, D, h1, rfl⟩ | ⟨h1, h2⟩
    · have hj : j < bs.length := (List.getElem?_eq_some_iff.1 h1).1
      rw [hin j D h1] at hB; cases hB
      obtain ⟨l, k1, k2⟩ := I'.rel j D h1 (alive_ren.1 ha)
      exact ⟨l, by rw [K.mu hj]; exact k1, k2.ren fun r _ => hren r⟩
    · rw [h2] at hB
      obtain ⟨l, k1, k2⟩ := I.rel q B hB ha
      refine ⟨l, by rw [Back.mu_other h1]; exact k1, k2.ext E' I fun b hb => ?_⟩
      exact E.heap b (I.blockLt ⟨B, hB, ha⟩ k1 hb) (hsep q l b h1 ⟨B, hB, ha⟩ k1 hb)
  · have key : ∀ q l b, Live (memU (backs seen base bs) mem) q → muB seen base bs μ μ' q = some l → l.block = some b →
        (∃ j, q = backName seen base j ∧ Live (memL bs) j ∧ μ' j = some l) ∨ ((∀ j, j < bs.length → backName seen base j ≠ q) ∧ Live mem q ∧ μ q = some l) := fun q l b hl hm hb => by
      rcases hout q with ⟨j, D, h1, rfl⟩ | ⟨h1, h2⟩
      · have hj : j < bs.length := (List.getElem?_eq_some_iff.1 h1).1
        obtain ⟨D2, hD2, ha⟩ := hl
        rw [hin j D h1] at hD2; cases hD2
        rw [K.mu hj] at hm
        exact .inl ⟨j, rfl, ⟨D, h1, alive_ren.1 ha⟩, hm⟩
      · rw [Back.mu_other h1] at hm
        obtain ⟨D2, hD2, ha⟩ := hl
        rw [h2] at hD2
        exact .inr ⟨h1, ⟨D2, hD2, ha⟩, hm⟩
    have mixed : ∀ j l1 q2 l2, Live (memL bs) j → μ' j = some l1 → l1.block = some b → (∀ j, j < bs.length → backName seen base j ≠ q2) → Live mem q2 → μ q2 = some l2 → l2.block = some b → False := fun j l1 q2 l2 k1 k2 k3 k4 k5 k6 k7 => by
      rcases E.own b ⟨j, l1, k1, k2, k3⟩ with h | h
      · exact hsep q2 l2 b k4 k5 k6 k7 h
      · have := I.blockLt k5 k6 k7
        omega
    rcases key q l1 b g1 e1 hb with ⟨j, rfl, k1, k2⟩ | ⟨k1, k2, k3⟩
    · rcases key q' l2 b g2 e2 hb' with ⟨j', rfl, k1', k2'⟩ | ⟨k1', k2', k3'⟩
      · exact I'.inj j j' (fun e => hqq (by rw [e])) k1 k1' l1 l2 b k2 k2' hb hb'
      · exact mixed j l1 q' l2 k1 k2 hb k1' k2' k3' hb'
    · rcases key q' l2 b g2 e2 hb' with ⟨j', rfl, k1', k2'⟩ | ⟨k1', k2', k3'⟩
      · exact mixed j' l2 q l1 k1' k2' hb' k1 k2 k3 hb
      · exact I.inj q q' hqq k2 k2' l1 l2 b k3 k3' hb hb'
  · rcases hout q with ⟨j, D, h1, rfl⟩ | ⟨h1, h2⟩
    · have hj : j < bs.length := (List.getElem?_eq_some_iff.1 h1).1
      obtain ⟨D2, hD2, ha⟩ := g1
      rw [hin j D h1] at hD2; cases hD2
      rw [K.mu hj] at e1
      exact I'.sep j ⟨D, h1, alive_ren.1 ha⟩ l1 b e1 hb hS
    · rw [Back.mu_other h1] at e1
      obtain ⟨D2, hD2, ha⟩ := g1
      rw [h2] at hD2
      rcases E.only b hS with h | h | h
      · exact I.sep q ⟨D2, hD2, ha⟩ l1 b e1 hb h
      · have := I.blockLt ⟨D2, hD2, ha⟩ e1 hb
        omega
      · exact hsep q l1 b h1 ⟨D2, hD2, ha⟩ e1 hb h

theorem Calls.runs {o : Oper} {a : Act} {f : Nat} {xs : Array Value} {fn : Func} {R : Value → World → Prop} (hf : P.funcs[f]? = some fn) (hb : fn.body.isSome = true) (hn : (fn.name == "runtime.NumGoroutine") = false)
    {callee : Operand} {args : Array Operand} {ts : Array TypeId} (ho : o.op = .call { callee := .value callee, args := args, argTypes := ts }) (cs : Array Value) (hc : a.eval callee = .func (.func f) #[] cs) (hx : args.map a.eval ++ cs = xs)
    (h : Calls P f xs w fun e w' => ∃ x, e = .returned x ∧ R x w') : Runs P o a w R := by
  intro K Q hk
  unfold Oper.wp
  have hrun : (execOp a.eval o).run P w = .ok (.enter f xs) w := by
    have hbn : ¬ fn.body = none := by cases hbb : fn.body <;> simp [hbb] at hb ⊢
    have hn' : ¬ fn.name = "runtime.NumGoroutine" := by simpa using hn
    subst hx
    simp only [execOp, ho, resolve, hc, Deferred.ofValue, Sem.run_bind, Sem.run_pure, Result.andThen_ok, invoke, callFunc]
    simp [program, Sem.run, hf]
    rw [if_neg hn', if_neg hbn]
  rw [hrun]
  refine Calls.mono h fun e w' hr => ?_
  obtain ⟨x, rfl, hR⟩ := hr
  exact hk x w' hR

theorem names_of_args {seen : List Nat} : ∀ {args : List V}, allIn seen (args.flatMap V.names) = true → args.all V.noTup = true → ∀ v ∈ args, ∀ r ∈ v.allNames, r ∈ seen := by
  have key : ∀ l : List Nat, allIn seen l = true → ∀ r ∈ l, r ∈ seen := fun l => by
    induction l with
    | nil => intro _ r hr; simp at hr
    | cons q l ih =>
      intro h r hr
      simp only [allIn] at h
      split at h
      · rename_i hq
        simp only [List.mem_cons] at hr
        rcases hr with rfl | hr
        · exact (memb_iff seen r).1 hq
        · exact ih h r hr
      · cases h
  intro args h ht v hv r hr
  have : r ∈ v.names := by
    cases v with
    | tup us => have := List.all_eq_true.1 ht _ hv; cases this
    | one c => exact hr
    | agg cs => exact hr
  exact key _ h r (List.mem_flatMap.2 ⟨v, hv, this⟩)

theorem allIn_mem {seen : List Nat} : ∀ {l : List Nat}, allIn seen l = true → ∀ r ∈ l, r ∈ seen := by
  intro l
  induction l with
  | nil => intro _ r hr; simp at hr
  | cons q l ih =>
    intro h r hr
    simp only [allIn] at h
    split at h
    · rename_i hq
      simp only [List.mem_cons] at hr
      rcases hr with rfl | hr
      · exact (memb_iff seen r).1 hq
      · exact ih h r hr
    · cases h

theorem distinct_nodup : ∀ {l : List Nat}, distinct l = true → l.Nodup := by
  intro l
  induction l with
  | nil => intro _; exact List.nodup_nil
  | cons q l ih =>
    intro h
    simp only [distinct] at h
    split at h
    · cases h
    · rename_i hq
      exact List.nodup_cons.2 ⟨memb_no hq, ih h⟩

theorem allBelow_lt {base : Nat} : ∀ {l : List Nat}, allBelow base l = true → ∀ r ∈ l, r < base := by
  intro l
  induction l with
  | nil => intro _ r hr; simp at hr
  | cons q l ih =>
    intro h r hr
    simp only [allBelow] at h
    split at h
    · cases h
    · rename_i hq
      simp only [List.mem_cons] at hr
      rcases hr with rfl | hr
      · cases hle : Nat.ble base r with
        | true => rw [hle] at hq; cases hq
        | false =>
          have : ¬ base ≤ r := fun h => by rw [Nat.ble_eq_true_of_le h] at hle; cases hle
          omega
      · exact ih h r hr

theorem kindsOk_len : ∀ {as bs : List Blk}, kindsOk as bs = true → as.length ≤ bs.length ∧ bs.length ≤ as.length + 7
  | [], bs, h => ⟨by simp, by simpa using Nat.le_of_ble_eq_true h⟩
  | a :: as, [], h => by simp [kindsOk] at h
  | a :: as, b :: bs, h => by
    simp only [kindsOk] at h
    split at h
    · have := kindsOk_len h
      simp; omega
    · cases h

/-- What is written to is new, or was seen. -/
def FreshP (base : Nat) (mem : MemF) (names : List Nat) (m : Mem) : Prop := ∀ r B, (r, B) ∈ m → (base ≤ r → mem r = none) ∧ (r < base → r ∈ names)

theorem backs_mem {seen : List Nat} {base : Nat} {bs : List Blk} {j : Nat} (h : j < bs.length) : ∃ B, (backName seen base j, B) ∈ backs seen base bs := by
  have := backs_get seen base bs j
  rw [List.getElem?_eq_getElem h] at this
  exact ⟨_, List.mem_of_getElem? this⟩
end
end Vm
end Go.Proofs.YtlbppjmekiemiabDoor

/- The executor on data: the operation 'call'. No condition. -/
namespace Go.Proofs.YtlbppjmekiemiabDoor
namespace Vm
section
variable {P : Program} {tab : Tab} {Γ : Ctx} {μ μ' μ1 μ2 : Mu} {mem mem' mem1 mem2 : MemF} {w w' : World} {S S' : Nat → Prop}

theorem okSeen_spec {base : Nat} {seen : List Nat} {args : List V} {bs : List Blk} (h : okSeen base seen args bs = true) :
    seen.Nodup ∧ (∀ r ∈ seen, r < base) ∧ (∀ v ∈ args, ∀ r ∈ v.allNames, r ∈ seen) ∧ ∀ B ∈ bs, ∀ r ∈ B.names, r ∈ seen := by
  unfold okSeen at h
  split at h <;> try cases h
  rename_i h1
  split at h <;> try cases h
  rename_i h2
  split at h <;> try cases h
  rename_i h3
  split at h <;> try cases h
  rename_i h4
  exact ⟨distinct_nodup h1, allBelow_lt h2, names_of_args h3 h4, fun B hB r hr => allIn_mem h r (List.mem_flatMap.2 ⟨B, hB, hr⟩)⟩

theorem handed_of {ml : Mem} {names : List Nat} (hm : mem = look ml) (hn : names.Nodup) (hc : ∀ B ∈ (memAt ml names).map (·.2), ∀ r ∈ B.names, r ∈ names) : Handed mem names ((memAt ml names).map (·.2)) := by
  subst hm
  refine ⟨hn, by simp [memAt], fun j r hr => by simp [memAt, hr], hc⟩

theorem memAt_fst (ml : Mem) (names : List Nat) : (memAt ml names).map (·.1) = names := by
  unfold memAt
  rw [List.map_map]
  exact (List.map_congr_left (fun _ _ => rfl)).trans (List.map_id names)

theorem froz_sub {ns ms : List Nat} {c : C} {x : Value} (h : RepC tab w (Froz μ mem S ns) c x) (hs : ∀ r ∈ ns, r ∈ ms) : RepC tab w (Froz μ mem S ms) c x :=
  h.mono (fun _ h => h.imp id fun ⟨r, hr, h⟩ => ⟨r, hs r hr, h⟩) (fun _ _ => rfl)

theorem datsOf_rel {lm : Mem} (I : Inv tab μ mem w S) (hs : Sees lm mem) {N : List Nat} : ∀ {vs ds : List V} {ns : List Nat} {xs : List Value}, RelVs tab μ mem w S vs xs → datsOf tab lm vs = some (ds, ns) → (∀ r ∈ ns, r ∈ N) →
    ∀ {μ0 : Mu} {mem0 : MemF}, RelVs tab μ0 mem0 w (Froz μ mem S N) ds xs
  | [], ds, ns, xs, h, hd, _, μ0, mem0 => by
    simp only [datsOf] at hd; cases hd
    cases xs with
    | nil => trivial
    | cons x xs => exact h.elim
  | v :: vs, ds, ns, [], h, hd, _, _, _ => h.elim
  | v :: vs, ds, ns, x :: xs, h, hd, hN, μ0, mem0 => by
    simp only [datsOf] at hd
    split at hd <;> try cases hd
    rename_i v' n1 us n2 hv hrest
    refine ⟨?_, datsOf_rel I hs h.2 hrest (fun r hr => hN r (by simp [hr]))⟩
    cases v with
    | tup us => cases hv
    | one c =>
      simp only [Option.map_eq_some_iff] at hv
      obtain ⟨⟨d, nn⟩, hd', he⟩ := hv
      cases he
      have hc : c ≠ .undef := fun e => by subst e; simp only [toDat] at hd'; cases hd'
      have hx : x.oneCell' = true ∧ RelC tab μ mem w S c x := by cases c <;> first | exact absurd rfl hc | exact h.1
      obtain ⟨_, hr⟩ := toDat_rel I hs hx hd'
      obtain ⟨t, e, rfl⟩ := toDat_isDat hd'
      exact ⟨hx.1, froz_sub hr fun r hr => hN r (by simp [hr])⟩
    | agg cs =>
      simp only [Option.map_eq_some_iff] at hv
      obtain ⟨⟨dd, nn⟩, hd', he⟩ := hv
      cases he
      obtain ⟨ys, rfl, h1, h2⟩ := h.1
      obtain ⟨_, k2, k3⟩ := toDats_rel I hs (fun i => ys[i]?) h2 hd'
      refine ⟨ys, rfl, by rw [h1, k2], fun i d hi => ?_⟩
      obtain ⟨y, y1, y2, y3⟩ := k3 i d hi
      exact ⟨y, y1, y2, (froz_sub y3 fun r hr => hN r (by simp [hr])).relC⟩

theorem unNil_rels : ∀ {vs : List V} {xs : List Value}, RelVs tab μ mem w S vs xs → RelVs tab μ mem w S (vs.map unNil) xs
  | [], [], _ => trivial
  | _ :: _, _ :: _, h => ⟨unNil_rel h.1, unNil_rels h.2⟩
  | [], _ :: _, h => h.elim
  | _ :: _, [], h => h.elim

theorem relVs_append : ∀ {vs us : List V} {xs ys : List Value}, RelVs tab μ mem w S vs xs → RelVs tab μ mem w S us ys → RelVs tab μ mem w S (vs ++ us) (xs ++ ys)
  | [], _, [], _, _, h => h
  | _ :: _, _, _ :: _, _, h, h' => ⟨h.1, relVs_append h.2 h'⟩
  | [], _, _ :: _, _, h, _ => h.elim
  | _ :: _, _, [], _, h, _ => h.elim

theorem relVs_caps : ∀ {caps : List Nat} {ys : List Value}, ys.length = caps.length → (∀ (i r : Nat), caps[i]? = some r → ∃ y, ys[i]? = some y ∧ RelV tab μ mem w S (.one (.ptr r 0)) y) →
    RelVs tab μ mem w S (caps.map fun r => .one (.ptr r 0)) ys
  | [], [], _, _ => trivial
  | [], _ :: _, h, _ => by simp at h
  | _ :: _, [], h, _ => by simp at h
  | r :: caps, y :: ys, h, hr => by
    obtain ⟨y', h1, h2⟩ := hr 0 r rfl
    simp at h1; subst h1
    exact ⟨h2, relVs_caps (by simpa using h) fun i r hi => by simpa using hr (i + 1) r (by simpa using hi)⟩

theorem plain_repC {c : C} {y : Value} (hc : c.plain = true) (h : RelC tab μ1 mem1 w S c y) : RelC tab μ2 mem2 w' S' c y := by
  cases c with
  | dat t d => cases t <;> first | (cases hc; done) | (cases h; constructor)
  | any => trivial
  | _ => cases hc

theorem plain_relW {v : V} {x : Value} (hp : v.plain1 = true) (h : RelW tab μ1 mem1 w S v x) : RelW tab μ2 mem2 w' S' v x := by
  cases v with
  | one c => exact ⟨h.1, plain_repC hp h.2⟩
  | agg cs =>
    obtain ⟨xs, e, h1, h2⟩ := h
    refine ⟨xs, e, h1, fun i c hi => ?_⟩
    obtain ⟨y, y1, y2, y3⟩ := h2 i c hi
    exact ⟨y, y1, y2, plain_repC (List.all_eq_true.1 hp c (List.mem_of_getElem? hi)) y3⟩
  | tup vs => cases hp

theorem plain_rel {v : V} {x : Value} (hp : v.plain = true) (h : RelV tab μ1 mem1 w S v x) : RelV tab μ2 mem2 w' S' v x := by
  cases v with
  | one c =>
    cases c with
    | dat t d => exact plain_relW (v := .one (.dat t d)) hp h
    | undef => trivial
    | any => exact plain_relW (v := .one .any) hp h
    | _ => cases hp
  | agg cs => exact plain_relW (v := .agg cs) hp h
  | tup vs =>
    obtain ⟨xs, e, h1, h2⟩ := h
    refine ⟨xs, e, h1, fun i u hi => ?_⟩
    obtain ⟨y, y1, y2⟩ := h2 i u hi
    exact ⟨y, y1, plain_relW (List.all_eq_true.1 hp u (List.mem_of_getElem? hi)) y2⟩

theorem relW_ext {mf mf' : MemF} (E : Ext μ mf w S μ' mf' w' S') (I : Inv tab μ mf w S) : ∀ {v : V} {x : Value}, RelW tab μ mf w S v x → RelW tab μ' mf' w' S' v x
  | .one _, _, ⟨h1, h2⟩ => ⟨h1, h2.ext E I⟩
  | .agg _, _, ⟨xs, h1, h2, h3⟩ => ⟨xs, h1, h2, fun i c hc => let ⟨y, y1, y2, y3⟩ := h3 i c hc; ⟨y, y1, y2, y3.ext E I⟩⟩
  | .tup _, _, h => h.elim

theorem relV_ext {mf mf' : MemF} (E : Ext μ mf w S μ' mf' w' S') (I : Inv tab μ mf w S) {v : V} {x : Value} (h : RelV tab μ mf w S v x) : RelV tab μ' mf' w' S' v x := by
  cases v with
  | one c => cases c <;> first | trivial | exact relW_ext (v := .one _) E I h
  | agg cs => exact relW_ext (v := .agg cs) E I h
  | tup vs =>
    obtain ⟨xs, h1, h2, h3⟩ := h
    exact ⟨xs, h1, h2, fun i v hv => let ⟨y, y1, y2⟩ := h3 i v hv; ⟨y, y1, relW_ext E I y2⟩⟩

theorem mixOf_rel {lm : Mem} (I : Inv tab μ mem w S) (hs : Sees lm mem) {N : List Nat} : ∀ {vs : List V} {xs : List Value}, RelVs tab μ mem w S vs xs → (∀ r ∈ (mixOf tab lm vs).2, r ∈ N) →
    RelVs tab μ (memU (deads N) mem) w (Froz μ mem S N) (mixOf tab lm vs).1 xs
  | [], [], _, _ => trivial
  | [], _ :: _, h, _ => h.elim
  | _ :: _, [], h, _ => h.elim
  | v :: vs, x :: xs, h, hN => by
    obtain ⟨E, _⟩ := kills_EI (ns := N) I
    simp only [mixOf] at hN ⊢
    split at hN
    · rename_i v' n1 hv
      refine ⟨?_, mixOf_rel I hs h.2 fun r hr => hN r (by simp [hr])⟩
      cases v with
      | tup us => cases hv
      | one c =>
        simp only [Option.map_eq_some_iff] at hv
        obtain ⟨⟨d, nn⟩, hd', he⟩ := hv
        cases he
        have hc : c ≠ .undef := fun e => by subst e; simp only [toDat] at hd'; cases hd'
        have hx : x.oneCell' = true ∧ RelC tab μ mem w S c x := by cases c <;> first | exact absurd rfl hc | exact h.1
        obtain ⟨_, hr⟩ := toDat_rel I hs hx hd'
        obtain ⟨t, e, rfl⟩ := toDat_isDat hd'
        exact ⟨hx.1, froz_sub hr fun r hr => hN r (by simp [hr])⟩
      | agg cs =>
        simp only [Option.map_eq_some_iff] at hv
        obtain ⟨⟨dd, nn⟩, hd', he⟩ := hv
        cases he
        obtain ⟨ys, rfl, h1, h2⟩ := h.1
        obtain ⟨_, k2, k3⟩ := toDats_rel I hs (fun i => ys[i]?) h2 hd'
        refine ⟨ys, rfl, by rw [h1, k2], fun i d hi => ?_⟩
        obtain ⟨y, y1, y2, y3⟩ := k3 i d hi
        exact ⟨y, y1, y2, (froz_sub y3 fun r hr => hN r (by simp [hr])).relC⟩
    · exact ⟨relV_ext E I h.1, mixOf_rel I hs h.2 hN⟩

theorem sees_memAt' {ml : Mem} (hm : mem = look ml) (names : List Nat) : Sees (memAt ml names) mem := fun r B h hal => by
  subst hm
  obtain ⟨j, hj⟩ := get_of_look h
  simp only [memAt, List.getElem?_map, Option.map_eq_some_iff, Prod.mk.injEq] at hj
  obtain ⟨q, _, rfl, rfl⟩ := hj
  cases hq : look ml q with
  | none => rw [hq] at hal; exact hal.elim
  | some D => rfl

/-- A call on blocks that are handed in. -/
theorem op_callA {o : Oper} {a : Act} {callee : Operand} {args : Array Operand} {ts : Array TypeId} {f base : Nat} {cs : Array Value} {vs as : List V} {ml : Mem} {p : Option Prop} {v : V} {bs : List Blk} {C : Contract} {fn : Func} (hm : mem = look ml)
    (ho : o.op = .call { callee := .value callee, args := args, argTypes := ts }) (hsound : SoundC P tab f C) (hfn1 : P.funcs[f]? = some fn) (hfn2 : fn.body.isSome = true) (hfn3 : (fn.name == "runtime.NumGoroutine") = false)
    (I : Inv tab μ mem w S) (hfn : a.eval callee = .func (.func f) #[] cs) (hxs : args.map a.eval ++ cs = (args.toList.map a.eval ++ cs.toList).toArray) {names : List Nat}
    (hrel : Handed mem names ((memAt ml names).map (·.2)) → (∀ v ∈ vs, ∀ r ∈ v.allNames, r ∈ names) → RelVs tab (muC names μ) (memL (((memAt ml names).map (·.2)).map (Blk.ren (idx names)))) w S (as.map (V.ren (idx names))) (args.toList.map a.eval ++ cs.toList))
    (hc : C (as.map (V.ren (idx names))) ((memAt ml names).map fun p => p.2.ren (idx names)) = some (p, v, bs)) (hk : kindsOk ((memAt ml names).map fun p => p.2.ren (idx names)) bs = true)
    (hok : okSeen base names vs ((memAt ml names).map (·.2)) = true) (hp : under p True) (hF : ∀ r B, (r, B) ∈ backs names base bs → base ≤ r → mem r = none) :
    Runs P o a w (After tab μ mem w S (backs names base bs) (v.ren (backName names base))) := by
  obtain ⟨n1, n2, n3, n4⟩ := okSeen_spec hok
  have H := handed_of hm n1 n4
  have hkl := (kindsOk_len hk).1
  rw [List.length_map, show (memAt ml names).length = names.length by simp [memAt]] at hkl
  have K : Back mem names base bs.length := ⟨n1, n2, by omega, fun j hj1 hj2 => by
    obtain ⟨B, hB⟩ := backs_mem (seen := names) (base := base) hj2
    rw [backName_new hj1] at hB
    exact hF _ _ hB (by omega)⟩
  have hins : ((memAt ml names).map fun p => p.2.ren (idx names)) = ((memAt ml names).map (·.2)).map (Blk.ren (idx names)) := by rw [List.map_map]; rfl
  rw [hins] at hc
  have hac := hsound _ _ _ _ _ hc hp w S (muC names μ) _ (H.inv I) (hrel H n3)
  refine Calls.runs hfn1 hfn2 hfn3 ho cs hfn rfl ?_
  rw [hxs]
  refine hac.mono fun e w' ⟨x, μ', S', h1, h2, h3, h4⟩ => ⟨x, h1, ?_⟩
  obtain ⟨k1, k2, k3⟩ := call_back I H K h2 h3 h4
  exact ⟨_, S', k1, k2, k3⟩

theorem dropN_mem {ns : List Nat} : ∀ {l : List Nat}, ∀ r ∈ dropN ns l, r ∈ l ∧ r ∉ ns
  | [], _, h => by cases h
  | q :: l, r, h => by
    simp only [dropN] at h
    split at h
    · obtain ⟨h1, h2⟩ := dropN_mem r h
      exact ⟨List.mem_cons_of_mem _ h1, h2⟩
    · rename_i hq
      rcases List.mem_cons.1 h with rfl | h
      · exact ⟨List.mem_cons_self, memb_no hq⟩
      · obtain ⟨h1, h2⟩ := dropN_mem r h
        exact ⟨List.mem_cons_of_mem _ h1, h2⟩

theorem memAt_twice {ml : Mem} {names seen : List Nat} (h : ∀ r ∈ seen, r ∈ names) : memAt (memAt ml names) seen = memAt ml seen := by
  unfold memAt
  refine List.map_congr_left fun r hr => ?_
  have key : ∀ ns : List Nat, r ∈ ns → look (ns.map fun r => (r, (look ml r).getD .dead)) r = some ((look ml r).getD .dead) := fun ns => by
    induction ns with
    | nil => intro h; cases h
    | cons q ns ih =>
      intro hm
      by_cases e : r = q
      · subst e; simp [look, Nat.beq_refl]
      · simp only [List.map_cons, look, beq_ne e]
        exact ih ((List.mem_cons.1 hm).resolve_left e)
  rw [key names (h r hr)]
  simp

theorem memAt_deads {ml : Mem} {seen ns : List Nat} (h : ∀ r ∈ seen, r ∉ ns) : memAt (deads ns ++ ml) seen = memAt ml seen := by
  unfold memAt
  refine List.map_congr_left fun r hr => ?_
  rw [look_append]
  rcases look_deads ns r with ⟨h1, _⟩ | ⟨_, h2⟩
  · exact absurd h1 (h r hr)
  · rw [h2]

theorem op_callM {o : Oper} {a : Act} {callee : Operand} {args : Array Operand} {ts : Array TypeId} {f base : Nat} {cs : Array Value} {us : List V} {ml : Mem} {p : Option Prop} {v : V} {m : Mem} {C : Contract} {fn : Func} (hm : mem = look ml)
    (ho : o.op = .call { callee := .value callee, args := args, argTypes := ts }) (hsound : SoundC P tab f C) (hfn1 : P.funcs[f]? = some fn) (hfn2 : fn.body.isSome = true) (hfn3 : (fn.name == "runtime.NumGoroutine") = false)
    (I : Inv tab μ mem w S) (hfn : a.eval callee = .func (.func f) #[] cs) (hxs : args.map a.eval ++ cs = (args.toList.map a.eval ++ cs.toList).toArray) {names : List Nat}
    (hargs : RelVs tab μ mem w S us (args.toList.map a.eval ++ cs.toList))
    (h : callM tab base (memAt ml names) C (mixOf tab (memAt ml names) us).1 (mixOf tab (memAt ml names) us).2 = some (p, v, m)) (hp : under p True) (hF : FreshP base mem names m) :
    Runs P o a w (After tab μ mem w S m v) := by
  have hrel0 := mixOf_rel I (sees_memAt' hm names) hargs (fun r hr => hr)
  generalize hns : (mixOf tab (memAt ml names) us).2 = ns at h hrel0
  generalize has : (mixOf tab (memAt ml names) us).1 = as at h hrel0
  unfold callM at h
  simp only at h
  rw [memAt_fst, memAt_twice (seen := dropN ns names) (fun r hr => (dropN_mem r hr).1)] at h
  split at h <;> try cases h
  rename_i p0 v0 bs hc
  split at h <;> try cases h
  rename_i hk hok hbel
  obtain ⟨E0, I1⟩ := kills_EI (ns := ns) I
  have hm' : memU (deads ns) mem = look (deads ns ++ ml) := by
    subst hm
    funext r
    rw [look_append]
    rfl
  have hmd := memAt_deads (ml := ml) (seen := dropN ns names) (fun r hr => (dropN_mem r hr).2)
  rw [← hmd] at hc hk hok
  have hA := op_callA (base := base) (vs := as) (as := as) hm' ho hsound hfn1 hfn2 hfn3 I1 hfn hxs (fun H n3 => Handed.raw H hrel0 n3) hc hk hok hp (fun r B hB hr => by
    have hno : r ∉ ns := fun hmem => by
      have := allBelow_lt hbel _ hmem
      omega
    rcases memU_deads (mem := mem) ns r with ⟨h1, _⟩ | ⟨_, h2⟩
    · exact absurd h1 hno
    · rw [h2]
      exact (hF _ _ (List.mem_append_left _ hB)).1 hr)
  intro K Q hk'
  refine hA K Q fun x w' ⟨μ', S', h1, h2, h3⟩ => hk' x w' ⟨μ', S', ?_, ?_, ?_⟩
  · rw [memU_append]; exact E0.trans h1
  · rw [memU_append]; exact h2
  · rw [memU_append]; exact h3

theorem op_callG {o : Oper} {a : Act} {callee : Operand} {args : Array Operand} {ts : Array TypeId} {f base : Nat} {ex : List V} {cs : Array Value} {vs : List V} {ml : Mem} {p : Option Prop} {v : V} {m : Mem} (hΓ : Sound P tab Γ) (hm : mem = look ml)
    (ho : o.op = .call { callee := .value callee, args := args, argTypes := ts }) (I : Inv tab μ mem w S) (hfn : a.eval callee = .func (.func f) #[] cs) (hex : RelVs tab μ mem w S ex cs.toList) (ha : RelVs tab μ mem w S vs (args.toList.map a.eval))
    {names : List Nat} (h : callX Γ tab base (memAt ml names) f (vs ++ ex) = some (p, v, m)) (hp : under p True) (hF : FreshP base mem names m) :
    Runs P o a w (After tab μ mem w S m v) := by
  have hsees : Sees (memAt ml names) mem := fun r B h hal => by
    subst hm
    obtain ⟨j, hj⟩ := get_of_look h
    simp only [memAt, List.getElem?_map, Option.map_eq_some_iff, Prod.mk.injEq] at hj
    obtain ⟨q, _, rfl, rfl⟩ := hj
    cases hq : look ml q with
    | none => rw [hq] at hal; exact hal.elim
    | some D => rfl
  have hargs : RelVs tab μ mem w S (vs ++ ex) (args.toList.map a.eval ++ cs.toList) := relVs_append ha hex
  have hxs : args.map a.eval ++ cs = (args.toList.map a.eval ++ cs.toList).toArray := by
    apply Array.ext'
    simp
  unfold callX at h
  split at h
  · cases h
  rename_i C hC
  obtain ⟨hsound, fn, hfn1, hfn2, hfn3⟩ := hΓ f C hC
  simp only at h
  split at h
  · rename_i p0 v0 bs hc
    split at h <;> try cases h
    rename_i hk hok
    rw [memAt_fst] at hc hok hF ⊢
    obtain ⟨n1, n2, n3, n4⟩ := okSeen_spec hok
    have H := handed_of hm n1 n4
    have hkl := (kindsOk_len hk).1
    rw [List.length_map, show (memAt ml names).length = names.length by simp [memAt]] at hkl
    have K : Back mem names base bs.length := ⟨n1, n2, by omega, fun j hj1 hj2 => by
      obtain ⟨B, hB⟩ := backs_mem (seen := names) (base := base) hj2
      rw [backName_new hj1] at hB
      exact (hF _ _ hB).1 (by omega)⟩
    have hins : ((memAt ml names).map fun p => p.2.ren (idx names)) = ((memAt ml names).map (·.2)).map (Blk.ren (idx names)) := by rw [List.map_map]; rfl
    rw [hins] at hc
    have hac := hsound _ _ _ _ _ hc hp w S (muC names μ) _ (H.inv I) (H.pick hargs n3)
    refine Calls.runs hfn1 hfn2 hfn3 ho cs hfn rfl ?_
    rw [hxs]
    refine hac.mono fun e w' ⟨x, μ', S', h1, h2, h3, h4⟩ => ⟨x, h1, ?_⟩
    obtain ⟨k1, k2, k3⟩ := call_back I H K h2 h3 h4
    exact ⟨_, S', k1, k2, k3⟩
  · rename_i hc
    split at h
    · exact op_callM (us := (vs ++ ex).map unNil) hm ho hsound hfn1 hfn2 hfn3 I hfn hxs (unNil_rels hargs) h hp hF
    rename_i ds ns hds
    split at h <;> try cases h
    rename_i p0 v0 bs hc'
    have I0 : Inv tab (fun _ => none) (memL []) w (Froz μ mem S ns) := by
      obtain ⟨_, Ik⟩ := kills_EI (ns := ns) I
      exact ⟨fun r B h => by simp [memL] at h, fun r r' _ ⟨B, h, _⟩ => by simp [memL] at h, fun r ⟨B, h, _⟩ => by simp [memL] at h, Ik.lt, Ik.pow⟩
    have hrel := datsOf_rel (N := ns) I hsees (unNil_rels hargs) hds (fun r hr => hr) (μ0 := fun _ => none) (mem0 := memL [])
    split at h
    · rename_i hpl
      cases h
      have hac := hsound _ _ _ _ _ hc' hp w (Froz μ mem S ns) (fun _ => none) _ I0 hrel
      refine Calls.runs hfn1 hfn2 hfn3 ho cs hfn rfl ?_
      rw [hxs]
      refine hac.mono fun e w' ⟨x, μ', S', h1, E, I', h4⟩ => ⟨x, h1, ?_⟩
      have hall : ∀ b, b < w.heap.size → w'.heap[b]? = w.heap[b]? := fun b hb => E.heap b hb fun ⟨r, l, ⟨B, hB, _⟩, _⟩ => by simp [memL] at hB
      have E1 : Ext μ mem w S μ mem w' S := ⟨fun _ h => h, (Ext.refl (μ := μ) (mem := mem) (w := w) (S := S)).kinds, fun _ h => h, E.size, fun b hb _ => hall b hb, fun _ h => .inl h, fun _ h => .inl h, E.os, E.tape, E.output⟩
      refine ⟨μ, S, E1, ⟨fun q B hB hal => ?_, I.inj, I.sep, fun b hb => Nat.lt_of_lt_of_le (I.lt b hb) E.size, I.powExt E1⟩, plain_rel hpl h4⟩
      obtain ⟨l, k1, k2⟩ := I.rel q B hB hal
      exact ⟨l, k1, k2.ext E1 I fun b hb => hall b (I.blockLt ⟨B, hB, hal⟩ k1 hb)⟩
    · split at h <;> try cases h
      rename_i hk hbel
      obtain ⟨E0, I1⟩ := kills_EI (ns := ns) I
      have H : Handed (memU (deads ns) mem) [] [] := ⟨List.nodup_nil, rfl, fun j r h => by simp at h, fun B hB => by simp at hB⟩
      have hmu : muC [] μ = fun _ => none := by funext j; simp [muC]
      have K : Back (memU (deads ns) mem) [] base _ := ⟨List.nodup_nil, fun r hr => by simp at hr, Nat.zero_le _, fun j hj1 hj2 => by
        obtain ⟨B, hB⟩ := backs_mem (seen := []) (base := base) hj2
        rw [backName_new hj1] at hB
        have hno : base + (j - ([] : List Nat).length) ∉ ns := fun hmem => by
          have := allBelow_lt hbel _ hmem
          omega
        rcases memU_deads (mem := mem) ns (base + (j - ([] : List Nat).length)) with ⟨h1, _⟩ | ⟨_, h2⟩
        · exact absurd h1 hno
        · rw [h2]
          exact (hF _ _ (List.mem_append_left _ hB)).1 (by omega)⟩
      have hac := hsound _ _ _ _ _ hc' hp w (Froz μ mem S ns) (fun _ => none) _ I0 hrel
      refine Calls.runs hfn1 hfn2 hfn3 ho cs hfn rfl ?_
      rw [hxs]
      refine hac.mono fun e w' ⟨x, μ', S', h1, h2, h3, h4⟩ => ⟨x, h1, ?_⟩
      obtain ⟨k1, k2, k3⟩ := call_back (μ := μ) (blks := []) I1 H K (by rw [hmu]; exact h2) h3 h4
      exact ⟨_, S', by rw [memU_append]; exact E0.trans k1, by rw [memU_append]; exact k2, by rw [memU_append]; exact k3⟩

theorem op_call {o : Oper} {a : Act} {callee : Operand} {args : Array Operand} {ts : Array TypeId} {f base : Nat} {caps : List Nat} {vs : List V} {ml : Mem} {p : Option Prop} {v : V} {m : Mem} (hΓ : Sound P tab Γ) (hm : mem = look ml)
    (ho : o.op = .call { callee := .value callee, args := args, argTypes := ts }) (I : Inv tab μ mem w S) (hf : RelV tab μ mem w S (.one (.fn f caps)) (a.eval callee)) (ha : RelVs tab μ mem w S vs (args.toList.map a.eval))
    {names : List Nat} (h : callX Γ tab base (memAt ml names) f (vs ++ caps.map fun r => .one (.ptr r 0)) = some (p, v, m)) (hp : under p True) (hF : FreshP base mem names m) :
    Runs P o a w (After tab μ mem w S m v) := by
  obtain ⟨_, hcap, cs, hfn, hsz, hcs⟩ := hf
  refine op_callG hΓ hm ho I hfn (relVs_caps (by simpa using hsz) fun i r hi => ?_) ha h hp hF
  obtain ⟨y, y1, y2, y3⟩ := hcs i r hi
  exact ⟨y, by simpa using y1, y2, hcap r (List.mem_of_getElem? hi), y3⟩

theorem op_callW {o : Oper} {a : Act} {callee x : Operand} {ts : Array TypeId} {d : Option Int} {n : Int} (hT : TabOk P tab) (hw : tab.w = true)
    (ho : o.op = .call { callee := .value callee, args := #[x], argTypes := ts }) (I : Inv tab μ mem w S) (hf : RelV tab μ mem w S (.one (.dat .fnw d)) (a.eval callee)) (hx : RelV tab μ mem w S (.one (.dat .int n)) (a.eval x)) :
    Runs P o a w (After tab μ mem w S [] (.one (.dat .int (fnwApp d n)))) := by
  obtain ⟨⟨g0, p1, p2, p3⟩, ⟨g1, q1, q2, q3⟩, r0, r1⟩ := hT.fnw hw
  have ex := rel_int hx
  obtain ⟨_, hf⟩ := hf
  generalize hv : a.eval callee = v at hf
  cases hf with
  | fnw0 =>
    refine Calls.runs p1 p2 p3 ho #[] hv rfl ?_
    rw [show #[x].map a.eval ++ #[] = #[.int .i64 n] by simp [ex]]
    exact (r0 n w).mono fun e w' ⟨h1, h2⟩ => ⟨_, h1, by rw [h2]; exact after_same I (mk_int _)⟩
  | fnw1 m b cur e fz hS hb hc =>
    refine Calls.runs q1 q2 q3 ho _ hv rfl ?_
    rw [show #[x].map a.eval ++ #[Value.pointer (some (at0 b 0))] = #[.int .i64 n, .pointer (some (at0 b 0))] by simp [ex]]
    exact (r1 n m b w (cell?_at hb hc)).mono fun e w' ⟨h1, h2⟩ => ⟨_, h1, by rw [h2]; exact after_same I (mk_int _)⟩
end
end Vm
end Go.Proofs.YtlbppjmekiemiabDoor

/- The executor on data: one operation, whichever it is. No condition. -/
namespace Go.Proofs.YtlbppjmekiemiabDoor
namespace Vm
section
variable {P : Program} {tab : Tab} {Γ : Ctx} {μ μ' : Mu} {mem mem' : MemF} {w w' : World} {S S' : Nat → Prop}

theorem sees_memAt {ml : Mem} {names : List Nat} (hm : mem = look ml) : Sees (memAt ml names) mem := fun r B h hal => by
  subst hm
  obtain ⟨j, hj⟩ := get_of_look h
  simp only [memAt, List.getElem?_map, Option.map_eq_some_iff, Prod.mk.injEq] at hj
  obtain ⟨q, _, rfl, rfl⟩ := hj
  cases hq : look ml q with
  | none => rw [hq] at hal; exact hal.elim
  | some D => rfl

theorem pairUp_snd : ∀ (ts : List Nat) (os : List Operand), (pairUp ts os).map (·.2) = os
  | t :: ts, o :: os => by simp [pairUp, pairUp_snd ts os]
  | [], o :: os => by simp [pairUp, pairUp_snd [] os]
  | [], [] => rfl
  | _ :: _, [] => rfl

theorem pairUp_eval (a : Act) (ts : List Nat) (os : List Operand) : (pairUp ts os).map (fun p => a.eval p.2) = os.map a.eval := by
  have := congrArg (List.map a.eval) (pairUp_snd ts os)
  rw [← this, List.map_map]; rfl

theorem ptr_ad {r o : Nat} {cs : List C} {x : Value} {lm : Mem} (hs : Sees lm mem) (I : Inv tab μ mem w S) (h : look lm r = some (.box cs)) (hx : RelV tab μ mem w S (.one (.ptr r o)) x) :
    ∃ b k, x = .pointer (some (at0 b k)) := by
  obtain ⟨b, vs, e, h1, _⟩ := sees_box_ptr hs I h hx
  exact ⟨b, o, h1⟩

theorem optr_ad {r i k : Nat} {t : Ty} {l : List t.den} {x : Value} {lm : Mem} (hs : Sees lm mem) (I : Inv tab μ mem w S) (h : look lm r = some (.arr t l)) (hx : RelV tab μ mem w S (.one (.optr r i k)) x) :
    ∃ b k, x = .pointer (some (at0 b k)) := by
  obtain ⟨b, cap, cur, e, h1, _⟩ := sees_arr_ptr hs I h hx
  exact ⟨b, _, h1⟩

theorem eptr_ad {t : Ty} {l : List t.den} {i k : Nat} {x : Value} (hx : RelV tab μ mem w S (.one (.eptr t l i k)) x) : ∃ b k, x = .pointer (some (at0 b k)) := by
  obtain ⟨_, b, off, _, h1⟩ := hx
  exact ⟨b, _, h1⟩

theorem ptrsOf_spec : ∀ {vs : List V} {rs : List Nat} {ops : List Operand} {a : Act}, ptrsOf vs = some rs → RelVs tab μ mem w S vs (ops.map a.eval) →
    ops.length = rs.length ∧ ∀ (i r : Nat), rs[i]? = some r → ∃ x, ops[i]? = some x ∧ RelV tab μ mem w S (.one (.ptr r 0)) (a.eval x)
  | [], rs, [], a, h, hv => by simp [ptrsOf] at h; subst h; simp
  | [], rs, _ :: _, a, h, hv => hv.elim
  | v :: vs, rs, [], a, h, hv => hv.elim
  | v :: vs, rs, x :: ops, a, h, hv => by
    unfold ptrsOf at h
    split at h <;> try cases h
    · rename_i he; cases he
    · rename_i r rest he
      cases he
      split at h <;> try cases h
      rename_i rs' hr
      obtain ⟨h1, h2⟩ := ptrsOf_spec hr hv.2
      refine ⟨by simp [h1], fun i q hq => ?_⟩
      cases i with
      | zero => simp at hq; subst hq; exact ⟨x, rfl, hv.1⟩
      | succ i => simp at hq ⊢; exact h2 i q hq

theorem sameOp_eq {x y : Operand} (h : sameOp x y = true) : x = y := by
  cases x <;> cases y <;> simp [sameOp] at h
  subst h; rfl

theorem bind_tyAt {ts : List Nat} {ti : TI} (h : (ts.head?).bind (tyAt tab) = some ti) : ∃ T, ts.head? = some T ∧ tyAt tab T = some ti := by
  cases ts with
  | nil => cases h
  | cons T ts => exact ⟨T, rfl, h⟩

theorem elem_isSlice {ti : TI} {t : Ty} (h : ti.elem = some t) : ti.isSlice t = true := by
  unfold TI.elem at h
  unfold TI.isSlice
  split at h <;> try cases h
  simp

theorem args1 {args : Array Operand} {a : Act} {v : V} (h : RelVs tab μ mem w S [v] (args.toList.map a.eval)) : ∃ x, args = #[x] ∧ RelV tab μ mem w S v (a.eval x) := by
  obtain ⟨l⟩ := args
  cases l with
  | nil => exact h.elim
  | cons x l => cases l with
    | nil => exact ⟨x, rfl, h.1⟩
    | cons y l => exact h.2.elim

theorem args2 {args : Array Operand} {a : Act} {v u : V} (h : RelVs tab μ mem w S [v, u] (args.toList.map a.eval)) : ∃ x y, args = #[x, y] ∧ RelV tab μ mem w S v (a.eval x) ∧ RelV tab μ mem w S u (a.eval y) := by
  obtain ⟨l⟩ := args
  cases l with
  | nil => exact h.elim
  | cons x l => cases l with
    | nil => exact h.2.elim
    | cons y l => cases l with
      | nil => exact ⟨x, y, rfl, h.1, h.2.1⟩
      | cons z l => exact h.2.2.elim

theorem appendX_base {ti : TI} {base bytes : Nat} {lm : Mem} {c d : C} {p : Option Prop} {v : V} {m : Mem} (h : appendX ti base bytes lm c d = some (p, v, m)) : ∃ B, (base, B) ∈ m := by
  unfold appendX at h
  repeat' split at h
  all_goals (try cases h)
  all_goals first
    | exact ⟨_, List.mem_cons_self ..⟩
    | exact ⟨_, List.mem_cons_of_mem _ (List.mem_cons_self ..)⟩

theorem optAt_eval {lo : Option Operand} {vs vs' : List V} {l : Option Int} {a : Act} {xs : List Value} (h : optAt lo vs = some (l, vs')) (hr : RelVs tab μ mem w S vs (lo.toList.map a.eval ++ xs)) :
    lo.map a.eval = iv l ∧ RelVs tab μ mem w S vs' xs := by
  cases lo with
  | none => simp only [optAt] at h; cases h; exact ⟨rfl, hr⟩
  | some op =>
    simp only [optAt] at h
    split at h <;> try cases h
    obtain ⟨h1, h2⟩ := hr
    exact ⟨by simp [iv, rel_int h1], h2⟩

theorem op_bin {o : Oper} {a : Act} {x y : Operand} {op : BinOp} {t t' : TypeId} {u v : V} {p : Option Prop} {z : V} {m : Mem} (hT : TabOk P tab) (ho : o.op = .binOp op t x y t') (I : Inv tab μ mem w S)
    (hx : RelV tab μ mem w S u (a.eval x)) (hy : RelV tab μ mem w S v (a.eval y)) (h : binX tab op t u v = some (p, z, m)) (hp : under p True) :
    Runs P o a w (After tab μ mem w S m z) := by
  have h0 := h
  unfold binX at h
  split at h
  · split at h <;> try cases h
    rename_i hi
    exact op_binInt ho I hx hy hi hp
  · split at h <;> try cases h
    rename_i ht
    simp only [Option.map_eq_some_iff] at ht
    obtain ⟨ti, h1, h2⟩ := ht
    split at h <;> try cases h
    · exact op_binBool hT ho h1 h2 I hx hy (.inl ⟨rfl, rfl⟩)
    · exact op_binBool hT ho h1 h2 I hx hy (.inr ⟨rfl, rfl⟩)
  · split at h <;> try cases h
    exact op_binU64 ho I hx hy
  · exact op_binStr ho I hx hy h0 hp
  · split at h <;> try cases h
    rename_i hm hr hti
    split at h <;> try cases h
    rename_i hq
    split at h <;> try cases h
    · exact op_binAgg hT ho hm hti hq I hx hy hr (.inl ⟨rfl, rfl⟩)
    · exact op_binAgg hT ho hm hti hq I hx hy hr (.inr ⟨rfl, rfl⟩)
  · cases h

theorem op_X {o : Oper} {a : Act} {base : Nat} {vs : List V} {ml : Mem} {names : List Nat} {p : Option Prop} {v : V} {m : Mem} (hT : TabOk P tab) (hΓ : Sound P tab Γ) (hm : mem = look ml)
    (I : Inv tab μ mem w S) (hv : RelVs tab μ mem w S vs ((operands o).map fun p => a.eval p.2)) (h : opX Γ tab base o vs (memAt ml names) = some (p, v, m)) (hp : under p True) (hF : FreshP base mem names m) :
    Runs P o a w (After tab μ mem w S m v) := by
  have hs : Sees (memAt ml names) mem := sees_memAt hm
  have hbase : ∀ B, (base, B) ∈ m → mem base = none := fun B hB => (hF _ _ hB).1 (Nat.le_refl _)
  unfold opX at h
  split at h
  all_goals (rename_i ho; try simp only [operands, ho] at hv)
  · cases h; exact op_move (.inl ho) I hv.1
  · cases h; exact op_move (.inr ho) I hv.1
  · rename_i c u1 u2
    cases h
    cases c with
    | true => exact op_pick (b := true) ho I hv.1 hv.2.1 hv.2.2.1
    | false => exact op_pick (b := false) ho I hv.1 hv.2.1 hv.2.2.1
  · split at h <;> try cases h
    rename_i ht
    exact op_alloc hT ho ht I (hbase _ (List.mem_singleton.2 rfl))
  · split at h <;> try cases h
    rename_i ht hc
    split at h <;> try cases h
    exact op_box ho hv.1 hc I (hbase _ (List.mem_singleton.2 rfl))
  · split at h <;> try cases h
    rename_i ht
    split at h <;> try cases h
    rename_i hk
    split at h <;> try cases h
    rename_i hf
    split at h <;> try cases h
    rename_i hpl
    exact op_build hT ho ht hk I (by simpa [List.map_map, Function.comp_def] using hv) hf hpl
  · split at h <;> try cases h
    rename_i ht
    split at h <;> try cases h
    rename_i hk
    split at h <;> try cases h
    rename_i hc he
    split at h <;> try cases h
    rename_i hmb
    split at hc <;> try cases hc
    rename_i hn
    refine op_buildSlice hT ho ht (elem_isSlice hk) I hs (by simpa [List.map_map, Function.comp_def] using hv) he (Nat.le_of_ble_eq_true hn) ?_ (hbase _ (List.mem_cons_self ..)) (memb_no hmb)
    split at hc
    · rename_i hq
      exact .inl (Nat.eq_of_beq_eq_true hq).symm
    · exact .inr hc
  · split at h <;> try cases h
    rename_i ht
    exact op_load hT ho ht I hs hv.1 h hp
  · split at h <;> try cases h
    rename_i ht
    exact op_store hT ho ht I hs hv.1 hv.2.1 h hp
  · split at h <;> try cases h
    rename_i hb
    obtain ⟨b, k, hk⟩ := ptr_ad hs I hb hv.1
    exact op_nilCheck ho I hv.1 ⟨_, hk⟩
  · split at h <;> try cases h
    rename_i hb
    obtain ⟨b, k, hk⟩ := optr_ad hs I hb hv.1
    exact op_nilCheck ho I hv.1 ⟨_, hk⟩
  · cases h
    obtain ⟨b, k, hk⟩ := eptr_ad hv.1
    exact op_nilCheck ho I hv.1 ⟨_, hk⟩
  · cases h
    exact op_nilCheck_fn ho I hv.1
  · exact op_bin hT ho I hv.1 hv.2.1 h hp
  · cases h; exact op_not ho I hv.1
  · cases h; exact op_neg ho I hv.1
  · split at h <;> try cases h
    · rename_i h1 h2
      simp only [Option.map_eq_some_iff] at h1 h2
      obtain ⟨ti, h3, h4⟩ := h1
      obtain ⟨tj, h5, h6⟩ := h2
      exact op_convert hT ho h3 h4 h5 h6 I hv.1
    · rename_i h1 _
      split at h <;> try cases h
      rename_i h2
      simp only [Option.map_eq_some_iff] at h1 h2
      obtain ⟨ti, h3, h4⟩ := h1
      obtain ⟨tj, h5, h6⟩ := h2
      exact op_convU hT ho h3 h4 h5 h6 I hv.1
  · split at h <;> try cases h
    rename_i h1 h2
    simp only [Option.map_eq_some_iff] at h1 h2
    obtain ⟨ti, h3, h4⟩ := h1
    obtain ⟨tj, h5, h6⟩ := h2
    exact op_convI hT ho h3 h4 h5 h6 I hv.1
  · split at h <;> try cases h
    rename_i hfs hr
    rename_i fs cs _ _ _
    have hfs' : fs = #[] := Array.toList_eq_nil_iff.1 hfs
    subst hfs'
    obtain ⟨h1, h2⟩ := ptrsOf_spec (ops := cs.toList) hr (by simpa [Op.operands, List.map_map, Function.comp_def] using hv)
    exact op_makeFunc ho rfl I (by simpa using h1) (fun i r hr => by simpa using h2 i r hr)
  · split at h <;> try cases h
    rename_i hse
    split at h <;> try cases h
    rename_i ht
    split at h <;> try cases h
    rename_i hk
    split at h <;> try cases h
    rename_i hf
    exact op_makeSlice hT ho (by rw [sameOp_eq hse]) ht (elem_isSlice hk) hf I hv.1 hp.1.1 hp.1.2.1 hp.1.2.2 (hbase _ (List.mem_singleton.2 rfl))
  · split at h <;> try cases h
    rename_i ht hl
    split at h <;> try cases h
    rename_i hh
    split at h <;> try cases h
    rename_i hmx
    simp only [Op.operands, Array.toList_append, List.map_append, List.map_map, List.append_assoc, List.cons_append, List.nil_append, Option.toList_toArray, List.map_cons] at hv
    have hv1 := hv.1
    have hv2 := hv.2
    have e : ∀ l : List Operand, (l.map ((fun p : Nat × Operand => a.eval p.2) ∘ fun x => (0, x))) = l.map a.eval := fun l => rfl
    simp only [e] at hv2
    obtain ⟨e1, hv3⟩ := optAt_eval hl hv2
    obtain ⟨e2, hv4⟩ := optAt_eval hh hv3
    obtain ⟨e3, hv5⟩ := optAt_eval (xs := []) hmx (by simpa using hv4)
    exact op_slice hT ho ht I hs hv1 e1 e2 e3 h hp
  · split at h <;> try cases h
    rename_i ht
    split at h <;> try cases h
    rename_i hf
    split at hf <;> try cases hf
    rename_i hk
    split at h <;> try cases h
    · split at h <;> try cases h
      rename_i hb
      exact op_fieldAddr hT ho ht hk hf I hv.1 (.inl ⟨_, _, rfl, rfl⟩) (ptr_ad hs I hb hv.1)
    · split at h <;> try cases h
      rename_i hb
      exact op_fieldAddr hT ho ht hk hf I hv.1 (.inr (.inl ⟨_, _, _, rfl, rfl⟩)) (optr_ad hs I hb hv.1)
    · exact op_fieldAddr hT ho ht hk hf I hv.1 (.inr (.inr ⟨_, _, _, _, rfl, rfl⟩)) (eptr_ad hv.1)
  · split at h <;> try cases h
    rename_i ht
    exact op_indexAddr hT ho ht I hs hv.1 hv.2.1 h hp
  · split at h <;> try cases h
    rename_i ht
    split at h <;> try cases h
    rename_i hk
    split at h <;> try cases h
    rename_i h2 h3
    exact op_index hT ho ht hk I hv.1 hv.2.1 hp.1.1 hp.1.2 (Nat.le_of_ble_eq_true h2) (Nat.le_of_ble_eq_true h3)
  · split at h <;> try cases h
    rename_i hm2 hti hc
    split at h <;> try cases h
    rename_i hq
    exact op_field hT ho hm2 hti hq hc I hv.1
  · split at h <;> try cases h
    rename_i hk
    exact op_makeMap ho I (hbase _ (List.mem_singleton.2 rfl))
  · split at h <;> try cases h
    rename_i hk hks
    exact op_mapUpdate hT ho hk I hs hv.1 hv.2.1 hv.2.2.1 hks
  · split at h <;> try cases h
    rename_i hk hks
    exact op_lookup hT ho hk I hs hv.1 hv.2.1 hks
  · split at h <;> try cases h
    rename_i hu
    exact op_extract ho I hv.1 hu
  · split at h <;> try cases h
    rename_i ht
    rw [pairUp_eval] at hv
    obtain ⟨x, rfl, hx⟩ := args1 hv
    obtain ⟨T, h1, h2⟩ := bind_tyAt ht
    exact op_len hT ho h1 h2 I hs hx h
  · split at h <;> try cases h
    rename_i hts
    split at h <;> try cases h
    rename_i h1 h2
    split at h <;> try cases h
    rename_i h3
    rw [pairUp_eval] at hv
    obtain ⟨x, y, rfl, hx, hy⟩ := args2 hv
    have hts' := Array.toList_inj.1 (hts.trans (List.toList_toArray (as := [_, _])).symm)
    rw [hts'] at ho
    exact op_append hT ho h1 h2 h3 I hs (by
      obtain ⟨B, hB⟩ := appendX_base h
      exact hbase B hB) hx hy h hp
  · split at h <;> try cases h
    rename_i hts
    split at h <;> try cases h
    rename_i h1
    rw [pairUp_eval] at hv
    obtain ⟨x, y, rfl, hx, hy⟩ := args2 hv
    have hts' := Array.toList_inj.1 (hts.trans (List.toList_toArray (as := [_, _])).symm)
    rw [hts'] at ho
    exact op_copy hT ho h1 I hs hx hy h hp
  · split at h <;> try cases h
    rename_i hts
    split at h <;> try cases h
    rename_i h1
    rw [pairUp_eval] at hv
    obtain ⟨x, rfl, hx⟩ := args1 hv
    have hts' := Array.toList_inj.1 (hts.trans (List.toList_toArray (as := [_])).symm)
    rw [hts'] at ho
    exact op_clear hT ho h1 I hs hx h
  · cases h
    rw [pairUp_eval] at hv
    obtain ⟨x, y, rfl, hx, hy⟩ := args2 hv
    exact op_min ho I hx hy
  · cases h
    rw [pairUp_eval] at hv
    obtain ⟨x, y, rfl, hx, hy⟩ := args2 hv
    exact op_max ho I hx hy
  · refine op_call hΓ hm ho I hv.1 ?_ h hp hF
    have := hv.2
    rw [pairUp_eval] at this
    exact this
  · split at h <;> try cases h
    rename_i hw
    have := hv.2
    rw [pairUp_eval] at this
    obtain ⟨x, rfl, hx⟩ := args1 this
    exact op_callW hT hw ho I hv.1 hx
  · cases h
end
end Vm
end Go.Proofs.YtlbppjmekiemiabDoor

/- The executor on data: a state and a frame. No condition. -/
namespace Go.Proofs.YtlbppjmekiemiabDoor
namespace Vm

/-- The frame and the world are as the state says. -/
structure StRel (tab : Tab) (N : Nat) (env : Env) (mem : Mem) (a : Act) (w : World) (μ : Mu) (S : Nat → Prop) : Prop where
  size : a.tmps.size = N
  defers : a.defers = []
  inv : Inv tab μ (look mem) w S
  env : ∀ t v, look env t = some v → RelV tab μ (look mem) w S v (a.eval (.tmp t)) ∧ (v = .one .undef → a.eval (.tmp t) = Go.undef)

def Fresh (n : Nat) (mem : Mem) : Prop := ∀ r, n ≤ r → look mem r = none

section
variable {P : Program} {tab : Tab} {Γ : Ctx} {N : Nat} {μ μ' : Mu} {env env' : Env} {mem mem' : Mem} {a : Act} {w w' : World} {S S' : Nat → Prop}

theorem constC_rel {ty : Nat} {x : Value} {v : V} {mf : MemF} (h : constC tab ty x = some v) : RelV tab μ mf w S v x := by
  unfold constC at h
  split at h
  · cases h; exact mk_int _
  · cases h; exact mk_u64 _
  · cases h; exact mk_bool _
  · cases h; simpa using mk_str (tab := tab) (μ := μ) (mem := mf) (w := w) (S := S) _
  · split at h <;> try cases h
    rename_i h1 h2 _
    split at h <;> try cases h
    have e1 := Nat.eq_of_beq_eq_true h1
    have e2 := Nat.eq_of_beq_eq_true h2
    subst e1 e2
    exact ⟨rfl, rfl⟩
  · cases h

theorem StRel.eval (R : StRel tab N env mem a w μ S) {ty : Nat} {o : Operand} {v : V} (h : evalO tab env ty o = some v) : RelV tab μ (look mem) w S v (a.eval o) := by
  cases o with
  | tmp t => exact (R.env t v h).1
  | const x => exact constC_rel h
  | global g => cases h
  | func f =>
    cases h
    exact ⟨rfl, by simp, #[], rfl, rfl, by simp⟩

theorem StRel.evalAll (R : StRel tab N env mem a w μ S) : ∀ {l : List (Nat × Operand)} {vs : List V}, evalAll tab env l = some vs → RelVs tab μ (look mem) w S vs (l.map fun p => a.eval p.2)
  | [], vs, h => by simp [Vm.evalAll] at h; subst h; trivial
  | (ty, o) :: l, vs, h => by
    simp only [Vm.evalAll] at h
    split at h <;> try cases h
    rename_i hv
    split at h <;> try cases h
    rename_i hvs
    exact ⟨R.eval hv, R.evalAll hvs⟩

theorem freshIn_spec {base : Nat} {names : List Nat} : ∀ {m : Mem}, freshIn base mem names m = true →
    FreshP base (look mem) names m ∧ ∀ r B, (r, B) ∈ m → look mem r = none → r < base + 8
  | [], _ => ⟨fun r B h => by simp at h, fun r B h => by simp at h⟩
  | (q, D) :: m, h => by
    simp only [freshIn] at h
    split at h
    · rename_i hq
      split at h <;> try cases h
      rename_i h8 hn
      obtain ⟨i1, i2⟩ := freshIn_spec h
      have hle : base ≤ q := Nat.le_of_ble_eq_true hq
      refine ⟨fun r B hr => ?_, fun r B hr => ?_⟩
      · rcases List.mem_cons.1 hr with e | hr
        · cases e; exact ⟨fun _ => hn, fun hlt => absurd hlt (by omega)⟩
        · exact i1 r B hr
      · rcases List.mem_cons.1 hr with e | hr
        · cases e
          intro _
          have : ¬ base + 8 ≤ q := fun hh => by rw [Nat.ble_eq_true_of_le hh] at h8; cases h8
          omega
        · exact i2 r B hr
    · rename_i hq
      split at h <;> try cases h
      rename_i hmem
      obtain ⟨i1, i2⟩ := freshIn_spec h
      have hlt : ¬ base ≤ q := fun hh => by rw [Nat.ble_eq_true_of_le hh] at hq; cases hq
      refine ⟨fun r B hr => ?_, fun r B hr => ?_⟩
      · rcases List.mem_cons.1 hr with e | hr
        · cases e; exact ⟨fun hh => absurd hh hlt, fun _ => (memb_iff _ _).1 hmem⟩
        · exact i1 r B hr
      · rcases List.mem_cons.1 hr with e | hr
        · cases e; intro _; omega
        · exact i2 r B hr

theorem look_memU (m mem : Mem) : memU m (look mem) = look (m ++ mem) := by
  funext r
  simp only [memU, look_append]

theorem eval_put_self {d : Nat} {x : Value} (h : d < a.tmps.size) : (a.put (some d) x).eval (.tmp d) = x := by
  simp [Act.put, Act.eval, h]

theorem eval_put_ne {d t : Nat} {x : Value} (h : t ≠ d) : (a.put (some d) x).eval (.tmp t) = a.eval (.tmp t) := by
  simp [Act.put, Act.eval, Array.getD_eq_getD_getElem?, Ne.symm h]

def putE (d : Option Tmp) (v : V) (env : Env) : Env := match d with | some t => (t, v) :: env | none => env

/-- Nothing of the frame's changes but one place. -/
theorem StRel.put (R : StRel tab N env mem a w μ S) (E : Ext μ (look mem) w S μ' (look mem') w' S') (I : Inv tab μ' (look mem') w' S') {d : Option Tmp} {v : V} {x : Value}
    (hv : RelV tab μ' (look mem') w' S' v x) (hu : d ≠ none → v = .one .undef → x = Go.undef) (hd : ∀ t, d = some t → t < N) :
    StRel tab N (putE d v env) mem' (a.put d x) w' μ' S' := by
  have hold : ∀ t u, look env t = some u → RelV tab μ' (look mem') w' S' u (a.eval (.tmp t)) := fun t u h => relV_ext E R.inv (R.env t u h).1
  refine ⟨?_, ?_, I, ?_⟩
  · cases d <;> simp [Act.put, R.size]
  · cases d <;> simp [Act.put, R.defers]
  · intro t u h
    cases d with
    | none => exact ⟨hold t u h, (R.env t u h).2⟩
    | some d =>
      by_cases e : t = d
      · subst e
        simp only [putE, look, Nat.beq_refl] at h
        cases h
        have hx : (a.put (some t) x).eval (.tmp t) = x := eval_put_self (by rw [R.size]; exact hd t rfl)
        rw [hx]
        exact ⟨hv, hu (by simp)⟩
      · simp only [putE, look, beq_ne e] at h
        rw [eval_put_ne e]
        exact ⟨hold t u h, (R.env t u h).2⟩

/-- One operation, at a state. -/
theorem step_op {o : Oper} {base : Nat} {names : List Nat} {vs : List V} {p : Option Prop} {v : V} {m : Mem} (hT : TabOk P tab) (hΓ : Sound P tab Γ) (R : StRel tab N env mem a w μ S)
    (hev : evalAll tab env (operands o) = some vs) (hX : opX Γ tab base o vs (memAt mem names) = some (p, v, m)) (hp : under p True) (hF : FreshP base (look mem) names m) (hdo : dstOk o.dst v = true) (hd : ∀ t, o.dst = some t → t < N)
    {K : Act → World → Prop} {Q : Exit → Act → World → Prop} (hK : ∀ a' w' μ' S', StRel tab N (putE o.dst v env) (m ++ mem) a' w' μ' S' → Ext μ (look mem) w S μ' (look (m ++ mem)) w' S' → K a' w') :
    o.wp P a w K Q := by
  refine op_X hT hΓ rfl R.inv (R.evalAll hev) hX hp hF K Q fun x w' hx => ?_
  obtain ⟨μ', S', E, I, hv⟩ := hx
  rw [look_memU] at E I hv
  refine hK _ _ μ' S' (R.put E I hv (fun h1 h2 => ?_) hd) E
  subst h2
  cases hdst : o.dst with
  | none => exact absurd hdst h1
  | some t => rw [hdst] at hdo; cases hdo
end
end Vm
end Go.Proofs.YtlbppjmekiemiabDoor

/- The executor on data: a test against nil; an operation as the executor does it. No condition. -/
namespace Go.Proofs.YtlbppjmekiemiabDoor
namespace Vm
section
variable {P : Program} {tab : Tab} {Γ : Ctx} {N : Nat} {μ μ' : Mu} {env env' : Env} {mem mem' : Mem} {a : Act} {w w' : World} {S S' : Nat → Prop}

theorem op_nilTest {o : Oper} {T : Nat} {ti : TI} {t : Ty} {x : Operand} {n m : Nat} {t' : TypeId} {ad : Option Addr} {len cap : Nat} {R : Value → World → Prop} (hT : TabOk P tab)
    (ho : o.op = .binOp .eql T x (.const (.slice none n m)) t') (ht : tyAt tab T = some ti) (hk : ti.elem = some t) (hx : a.eval x = .slice ad len cap) (hR : R (.bool ad.isNone) w) : Runs P o a w R := by
  obtain ⟨e, i, z, hs⟩ := und_slice hT ht (elem_isSlice hk)
  have hu := hs.und
  refine runs_of (s := do eqGuard .eql T x (.const (.slice none n m)) (a.eval x) (.slice none n m); binOp .eql T (a.eval x) (.slice none n m)) (x := .bool ad.isNone) (w' := w) (by simp only [execOp, ho]; rfl) ?_ hR
  rw [hx]
  have he0 : ∀ k, (Op.equalIn (k + 1) T (.slice ad len cap) (.slice none n m)).run P w = .ok ad.isNone w := fun k => by
    cases ad <;> simp [Op.equalIn, run_underlying hu]
  have he : (Op.equal T (.slice ad len cap) (.slice none n m)).run P w = .ok ad.isNone w := he0 9999
  have hg : (eqGuard .eql T x (.const (.slice none n m)) (.slice ad len cap) (.slice none n m)).run P w = .ok () w := by
    simp [eqGuard]
  rw [Sem.run_bind, hg]
  simp [binOp, he]

theorem StRel.look_env (R : StRel tab N env mem a w μ S) (h : ∀ t, look env' t = look env t) : StRel tab N env' mem a w μ S :=
  ⟨R.size, R.defers, R.inv, fun t v hv => R.env t v (h t ▸ hv)⟩

theorem putE_same {d : Nat} {v : V} (h : look env d = some v) (t : Nat) : look (putE (some d) v env) t = look env t := by
  by_cases e : t = d
  · subst e; simp [putE, look, Nat.beq_refl, h]
  · simp [putE, look, beq_ne e]

theorem memU_cong {m : Mem} {r : Nat} (h : look m r = none) : look (m ++ mem) r = look mem r := by rw [look_append, h]

theorem fresh_upd {base : Nat} {m : Mem} {n : Nat} (h8 : ∀ r B, (r, B) ∈ m → look mem r = none → r < base + 8) (hn : Fresh n mem) (hb : base + 8 ≤ n) : Fresh n (m ++ mem) := by
  intro r hr
  rw [look_append, hn r hr]
  cases hm : look m r with
  | none => rfl
  | some B =>
    obtain ⟨j, hj⟩ := get_of_look hm
    have := h8 r B (List.mem_of_getElem? hj) (hn r hr)
    omega

/-- The machine skips, or goes on. -/
theorem wanted_of {ops : List Oper} {o : Oper} {j d : Nat} {want b : Bool} (hg : o.guard = some (j, want)) (hd : (ops[j]?).bind (·.dst) = some d) (hx : a.eval (.tmp d) = .bool b) :
    Region.wanted o (yielded ops.toArray a.tmps) = (b == want) := by
  have hy : yielded ops.toArray a.tmps j = some b := by
    unfold yielded
    simp only [List.getElem?_toArray, hd, Option.bind_some]
    have h1 : a.tmps[d]? = some (.bool b) := by
      simp only [Act.eval, Array.getD_eq_getD_getElem?] at hx
      cases hq : a.tmps[d]? with
      | none => rw [hq] at hx; cases hx
      | some y => rw [hq] at hx; simp at hx; rw [hx]
    rw [h1]
  simp [Region.wanted, hg, hy]

theorem unwanted_of {ops : List Oper} {o : Oper} {j d : Nat} {want : Bool} (hg : o.guard = some (j, want)) (hd : (ops[j]?).bind (·.dst) = some d) (hx : a.eval (.tmp d) = Go.undef) :
    Region.wanted o (yielded ops.toArray a.tmps) = false := by
  have hy : yielded ops.toArray a.tmps j = none := by
    unfold yielded
    simp only [List.getElem?_toArray, hd, Option.bind_some]
    simp only [Act.eval, Array.getD_eq_getD_getElem?] at hx
    cases hq : a.tmps[d]? with
    | none => rfl
    | some y => rw [hq] at hx; simp at hx; rw [hx]; rfl
  simp [Region.wanted, hg, hy]

/-- What is left out yields nothing. -/
theorem StRel.skip (R : StRel tab N env mem a w μ S) {d : Option Tmp} (hd : ∀ t, d = some t → t < N) : StRel tab N (putE d (.one .undef) env) mem (a.put d Go.undef) w μ S :=
  R.put Ext.refl R.inv trivial (fun _ _ => rfl) hd

def boundOps (N : Nat) : List Oper → Bool
  | [] => true
  | o :: rest => match o.dst with
    | none => boundOps N rest
    | some t => match Nat.ble (t + 1) N with | true => boundOps N rest | false => false

theorem boundOps_spec : ∀ {ops : List Oper}, boundOps N ops = true → ∀ o ∈ ops, ∀ t, o.dst = some t → t < N
  | [], _, o, h => by cases h
  | q :: ops, hb, o, h => by
    intro t ht
    unfold boundOps at hb
    split at hb
    · rename_i hn
      rcases List.mem_cons.1 h with e | h
      · subst e; rw [hn] at ht; cases ht
      · exact boundOps_spec hb o h t ht
    · rename_i hn
      split at hb <;> try cases hb
      rename_i hle
      rcases List.mem_cons.1 h with e | h
      · subst e; rw [hn] at ht; cases ht
        exact Nat.le_of_ble_eq_true hle
      · exact boundOps_spec hb o h t ht
end
end Vm
end Go.Proofs.YtlbppjmekiemiabDoor
