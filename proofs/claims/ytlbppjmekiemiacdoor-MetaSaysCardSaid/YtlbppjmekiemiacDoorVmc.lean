/- The executor on data: part 3 of 4. No condition. -/
import Derived.Test.YtlbppjmekiemiacDoorVmb
/- The executor on data: calls, by contracts. No condition. -/
namespace Go.Proofs.YtlbppjmekiemiacDoor
namespace Vm
section
variable {P : Program} {tab : Tab} {μ μ' μ1 μ2 : Mu} {mem mem' mem1 mem2 : MemF} {w w' : World} {S S' : Nat → Prop}

def memL (bs : List Blk) : MemF := fun r => bs[r]?

/-- A call does what a contract says. -/
def AC (P : Program) (tab : Tab) (f : Nat) (vs : List V) (bs : List Blk) (v : V) (bs' : List Blk) : Prop :=
  ∀ (w : World) (S : Nat → Prop) (μ : Mu) (xs : List Value), Inv tab μ (memL bs) w S → RelVs tab μ (memL bs) w S vs xs →
    Calls P f xs.toArray w fun e w' => ∃ x μ' S', e = .returned x ∧ Ext μ (memL bs) w S μ' (memL bs') w' S' ∧ Inv tab μ' (memL bs') w' S' ∧ RelV tab μ' (memL bs') w' S' v x

def SoundC (P : Program) (tab : Tab) (f : Nat) (C : Contract) : Prop :=
  ∀ vs bs p v bs', C vs bs = some (p, v, bs') → under p True → AC P tab f vs bs v bs'

def Sound (P : Program) (tab : Tab) (Γ : Ctx) : Prop := ∀ f C, look Γ f = some C → SoundC P tab f C ∧ (∃ fn, P.funcs[f]? = some fn ∧ fn.body.isSome = true ∧ (fn.name == "runtime.NumGoroutine") = false)

def KindEq : Blk → Blk → Prop
  | .box _, .box _ => True
  | .arr t _, .arr u _ => t = u
  | .set _, .set _ => True
  | _, _ => False

/-- Names changed: what was so of the old ones is so of the new ones. -/
def Renames (μ1 : Mu) (mem1 : MemF) (μ2 : Mu) (mem2 : MemF) (f : Nat → Nat) (r : Nat) : Prop :=
  mem1 r ≠ none → mem2 (f r) ≠ none ∧ ∀ B2, mem2 (f r) = some B2 → B2.alive → ∃ B1, mem1 r = some B1 ∧ KindEq B1 B2 ∧ μ2 (f r) = μ1 r

theorem RelC.ren {f : Nat → Nat} {c : C} {x : Value} (h : RelC tab μ1 mem1 w S c x) (hr : ∀ r ∈ c.names, Renames μ1 mem1 μ2 mem2 f r) : RelC tab μ2 mem2 w S (c.ren f) x := by
  cases c with
  | dat t d => exact h
  | nil t => exact h
  | undef => trivial
  | any => trivial
  | eptr t l i k => exact h
  | ptr r o =>
    obtain ⟨h0, h1⟩ := h
    obtain ⟨g0, g1⟩ := hr r (by simp [C.names]) h0
    refine ⟨g0, fun cs hcs => ?_⟩
    obtain ⟨B1, e1, e2, e3⟩ := g1 _ hcs trivial
    cases B1 with
    | box cs1 => obtain ⟨b, k1, k2⟩ := h1 cs1 e1; exact ⟨b, e3.trans k1, k2⟩
    | _ => exact e2.elim
  | mp r =>
    obtain ⟨h0, h1⟩ := h
    obtain ⟨g0, g1⟩ := hr r (by simp [C.names]) h0
    refine ⟨g0, fun cs hcs => ?_⟩
    obtain ⟨B1, e1, e2, e3⟩ := g1 _ hcs trivial
    cases B1 with
    | set cs1 => obtain ⟨b, k1, k2⟩ := h1 cs1 e1; exact ⟨b, e3.trans k1, k2⟩
    | _ => exact e2.elim
  | own r =>
    obtain ⟨h0, h1⟩ := h
    obtain ⟨g0, g1⟩ := hr r (by simp [C.names]) h0
    refine ⟨g0, fun t l hcs => ?_⟩
    obtain ⟨B1, e1, e2, e3⟩ := g1 _ hcs trivial
    cases B1 with
    | arr t1 l1 => exact e3.trans (h1 t1 l1 e1)
    | _ => exact e2.elim
  | view r off n =>
    obtain ⟨h0, h1⟩ := h
    obtain ⟨g0, g1⟩ := hr r (by simp [C.names]) h0
    refine ⟨g0, fun t l hcs => ?_⟩
    obtain ⟨B1, e1, e2, e3⟩ := g1 _ hcs trivial
    cases B1 with
    | arr t1 l1 =>
      obtain ⟨y, k1, k2⟩ := h1 t1 l1 e1
      have : t1 = t := e2
      subst this
      exact ⟨y, e3.trans k1, k2⟩
    | _ => exact e2.elim
  | optr r i k =>
    obtain ⟨h0, h1⟩ := h
    obtain ⟨g0, g1⟩ := hr r (by simp [C.names]) h0
    refine ⟨g0, fun t l hcs => ?_⟩
    obtain ⟨B1, e1, e2, e3⟩ := g1 _ hcs trivial
    cases B1 with
    | arr t1 l1 =>
      obtain ⟨b, m, cap, k1, k2⟩ := h1 t1 l1 e1
      have : t1 = t := e2
      subst this
      exact ⟨b, m, cap, e3.trans k1, k2⟩
    | _ => exact e2.elim
  | fn g caps =>
    obtain ⟨h0, vs, h1, h2, h3⟩ := h
    refine ⟨fun q hq => ?_, vs, h1, by simpa using h2, fun i q hq => ?_⟩
    · simp only [List.mem_map] at hq
      obtain ⟨r, hr', rfl⟩ := hq
      exact (hr r hr' (h0 r hr')).1
    · simp only [List.getElem?_map, Option.map_eq_some_iff] at hq
      obtain ⟨r, hr', rfl⟩ := hq
      have hm := List.mem_of_getElem? hr'
      obtain ⟨y, y1, y2, y3⟩ := h3 i r hr'
      refine ⟨y, y1, y2, fun cs hcs => ?_⟩
      obtain ⟨B1, e1, e2, e3⟩ := (hr r hm (h0 r hm)).2 _ hcs trivial
      cases B1 with
      | box cs1 => obtain ⟨b, k1, k2⟩ := y3 cs1 e1; exact ⟨b, e3.trans k1, k2⟩
      | _ => exact e2.elim

theorem RelW.ren {f : Nat → Nat} {v : V} {x : Value} (h : RelW tab μ1 mem1 w S v x) (hr : ∀ r ∈ v.names, Renames μ1 mem1 μ2 mem2 f r) : RelW tab μ2 mem2 w S (v.ren f) x := by
  cases v with
  | one c => exact ⟨h.1, h.2.ren hr⟩
  | agg cs =>
    obtain ⟨xs, e, h1, h2⟩ := h
    refine ⟨xs, e, by simpa using h1, fun i c hi => ?_⟩
    simp only [List.getElem?_map, Option.map_eq_some_iff] at hi
    obtain ⟨c0, hc, rfl⟩ := hi
    obtain ⟨y, y1, y2, y3⟩ := h2 i c0 hc
    exact ⟨y, y1, y2, y3.ren fun r hr' => hr r (by simp only [V.names, List.mem_flatMap]; exact ⟨c0, List.mem_of_getElem? hc, hr'⟩)⟩
  | tup vs => exact h.elim

/-- All names in a value, its parts' too. -/
def V.allNames : V → List Nat
  | .tup vs => vs.flatMap V.names
  | v => v.names

theorem RelV.ren {f : Nat → Nat} {v : V} {x : Value} (h : RelV tab μ1 mem1 w S v x) (hr : ∀ r ∈ v.allNames, Renames μ1 mem1 μ2 mem2 f r) : RelV tab μ2 mem2 w S (v.ren f) x := by
  cases v with
  | one c =>
    have : RelW tab μ1 mem1 w S (.one c) x ∨ c = .undef := by cases c <;> first | exact .inr rfl | exact .inl h
    rcases this with h' | rfl
    · have := h'.ren (μ2 := μ2) (mem2 := mem2) (f := f) hr
      cases c <;> first | trivial | exact this
    · trivial
  | agg cs => exact RelW.ren (v := .agg cs) h hr
  | tup vs =>
    obtain ⟨xs, e, h1, h2⟩ := h
    refine ⟨xs, e, by simpa using h1, fun i u hi => ?_⟩
    simp only [List.getElem?_map, Option.map_eq_some_iff] at hi
    obtain ⟨u0, hu, rfl⟩ := hi
    obtain ⟨y, y1, y2⟩ := h2 i u0 hu
    have hm : ∀ r ∈ u0.names, Renames μ1 mem1 μ2 mem2 f r := fun r hr' => hr r (by simp only [V.allNames, List.mem_flatMap]; exact ⟨u0, List.mem_of_getElem? hu, hr'⟩)
    refine ⟨y, y1, ?_⟩
    cases u0 with
    | one c => exact RelW.ren (v := .one c) y2 hm
    | agg cs => exact RelW.ren (v := .agg cs) y2 hm
    | tup us => exact y2.elim

theorem BlkRel.ren {f : Nat → Nat} {B : Blk} {l : Loc} (h : BlkRel tab μ1 mem1 w S B l) (hr : ∀ r ∈ B.names, Renames μ1 mem1 μ2 mem2 f r) : BlkRel tab μ2 mem2 w S (B.ren f) l := by
  cases B with
  | dead => exact h.elim
  | box cs =>
    cases l with
    | ar x => exact h.elim
    | bx b =>
      obtain ⟨vs, e, h1, h2, h3⟩ := h
      refine ⟨vs, e, h1, by simpa using h2, fun i c hi => ?_⟩
      simp only [List.getElem?_map, Option.map_eq_some_iff] at hi
      obtain ⟨c0, hc, rfl⟩ := hi
      obtain ⟨y, y1, y2, y3⟩ := h3 i c0 hc
      exact ⟨y, y1, y2, y3.ren fun r hr' => hr r (by simp only [Blk.names, List.mem_flatMap]; exact ⟨c0, List.mem_of_getElem? hc, hr'⟩)⟩
  | set ks =>
    cases l with
    | ar x => exact h.elim
    | bx b => exact h
  | arr t ll =>
    cases l with
    | bx b => exact h.elim
    | ar x => exact h

theorem unNil_rel {v : V} {x : Value} (h : RelV tab μ mem w S v x) : RelV tab μ mem w S (unNil v) x := by
  cases v with
  | one c =>
    cases c with
    | nil t => obtain ⟨h1, rfl⟩ := h; exact ⟨rfl, .empty t none 0⟩
    | _ => exact h
  | agg cs =>
    obtain ⟨xs, e, h1, h2⟩ := h
    refine ⟨xs, e, by simpa using h1, fun i c hi => ?_⟩
    simp only [List.getElem?_map, Option.map_eq_some_iff] at hi
    obtain ⟨c0, hc, rfl⟩ := hi
    obtain ⟨y, y1, y2, y3⟩ := h2 i c0 hc
    refine ⟨y, y1, y2, ?_⟩
    cases c0 with
    | nil t =>
      have : y = .slice none 0 0 := y3
      subst this
      exact RepC.empty t none 0
    | _ => exact y3
  | tup vs => exact h

theorem unNil_names (v : V) : ∀ r ∈ (unNil v).allNames, r ∈ v.allNames := by
  intro r hr
  cases v with
  | one c => cases c <;> exact hr
  | agg cs =>
    simp only [unNil, V.allNames, V.names, List.mem_flatMap, List.mem_map] at hr ⊢
    obtain ⟨c, ⟨c0, hc, rfl⟩, h2⟩ := hr
    refine ⟨c0, hc, ?_⟩
    cases c0 <;> exact h2
  | tup vs => exact hr

theorem kindEq_ren {f : Nat → Nat} {B : Blk} (h : B.alive) : KindEq B (B.ren f) := by
  cases B with
  | dead => exact h.elim
  | box cs => trivial
  | set ks => trivial
  | arr t l => exact rfl

theorem alive_ren {f : Nat → Nat} {B : Blk} : (B.ren f).alive ↔ B.alive := by cases B <;> exact Iff.rfl
end
end Vm
end Go.Proofs.YtlbppjmekiemiacDoor


/- The executor on data: calls, there and back. No condition. -/
namespace Go.Proofs.YtlbppjmekiemiacDoor
namespace Vm
section
variable {P : Program} {tab : Tab} {μ μ' μ1 μ2 : Mu} {mem mem' mem1 mem2 : MemF} {w w' : World} {S S' : Nat → Prop}

/-- The blocks that are handed in, in their order. -/
structure Handed (mem : MemF) (seen : List Nat) (blks : List Blk) : Prop where
  nodup : seen.Nodup
  len : blks.length = seen.length
  at_ : ∀ (j r : Nat), seen[j]? = some r → blks[j]? = some ((mem r).getD .dead)
  closed : ∀ B ∈ blks, ∀ r ∈ B.names, r ∈ seen

theorem idx_get {seen : List Nat} (hn : seen.Nodup) {j r : Nat} (h : seen[j]? = some r) : idx seen r = j := by
  obtain ⟨hj, rfl⟩ := List.getElem?_eq_some_iff.1 h
  unfold idx
  exact List.Nodup.idxOf_getElem hn j hj

theorem get_idx {seen : List Nat} {r : Nat} (h : r ∈ seen) : seen[idx seen r]? = some r := by
  unfold idx
  rw [List.getElem?_eq_getElem (List.idxOf_lt_length_iff.2 h), List.getElem_idxOf]

def muC (seen : List Nat) (μ : Mu) : Mu := fun j => (seen[j]?).bind μ

section
variable {seen : List Nat} {blks : List Blk} (H : Handed mem seen blks)
include H

theorem Handed.memC {j r : Nat} (h : seen[j]? = some r) : memL (blks.map (Blk.ren (idx seen))) j = some (((mem r).getD .dead).ren (idx seen)) := by
  simp [memL, H.at_ j r h]

theorem Handed.memC_some {j : Nat} {B : Blk} (h : memL (blks.map (Blk.ren (idx seen))) j = some B) : ∃ r, seen[j]? = some r ∧ B = ((mem r).getD .dead).ren (idx seen) := by
  have hj : j < seen.length := by
    have := (List.getElem?_eq_some_iff.1 h).1
    rw [← H.len]; simpa using this
  refine ⟨seen[j], List.getElem?_eq_getElem hj, ?_⟩
  have := H.memC (List.getElem?_eq_getElem hj)
  rw [h] at this
  exact Option.some.inj this

theorem Handed.ren {r : Nat} (hr : r ∈ seen) : Renames μ mem (muC seen μ) (memL (blks.map (Blk.ren (idx seen)))) (idx seen) r := fun h0 => by
  have hm := H.memC (get_idx hr)
  refine ⟨by rw [hm]; exact (fun h => by cases h), fun B2 h2 ha => ?_⟩
  rw [hm] at h2; cases h2
  obtain ⟨B1, h1⟩ := exists_of_ne h0
  rw [h1] at ha ⊢
  exact ⟨B1, rfl, kindEq_ren (alive_ren.1 ha), by simp [muC, get_idx hr]⟩

theorem Handed.live {j : Nat} (h : Live (memL (blks.map (Blk.ren (idx seen)))) j) : ∃ r B, seen[j]? = some r ∧ mem r = some B ∧ B.alive := by
  obtain ⟨B, h1, h2⟩ := h
  obtain ⟨r, hr, rfl⟩ := H.memC_some h1
  have ha := alive_ren.1 h2
  cases hm : mem r with
  | none => rw [hm] at ha; exact ha.elim
  | some B => rw [hm] at ha; exact ⟨r, B, hr, hm, ha⟩

theorem Handed.inv (I : Inv tab μ mem w S) : Inv tab (muC seen μ) (memL (blks.map (Blk.ren (idx seen)))) w S := by
  refine ⟨fun j B hB ha => ?_, fun j j' hjj h1 h2 l1 l2 b e1 e2 hb hb' => ?_, fun j h1 l1 b e1 hb hS => ?_, I.lt, I.pow⟩
  · obtain ⟨r, hr, rfl⟩ := H.memC_some hB
    have ha' := alive_ren.1 ha
    cases hm : mem r with
    | none => rw [hm] at ha'; exact ha'.elim
    | some B0 =>
      rw [hm] at ha'
      obtain ⟨l, e1, e2⟩ := I.rel r B0 hm ha'
      refine ⟨l, by simp [muC, hr, e1], e2.ren fun q hq => H.ren ?_⟩
      have := H.at_ j r hr
      rw [hm] at this
      exact H.closed B0 (List.mem_of_getElem? this) q hq
  · obtain ⟨r, B, hr, hm, ha⟩ := H.live h1
    obtain ⟨r', B', hr', hm', ha'⟩ := H.live h2
    simp only [muC, hr, hr', Option.bind_some] at e1 e2
    have hne : r ≠ r' := fun e => by
      subst e
      exact hjj ((idx_get H.nodup hr).symm.trans (idx_get H.nodup hr'))
    exact I.inj r r' hne ⟨B, hm, ha⟩ ⟨B', hm', ha'⟩ l1 l2 b e1 e2 hb hb'
  · obtain ⟨r, B, hr, hm, ha⟩ := H.live h1
    simp only [muC, hr, Option.bind_some] at e1
    exact I.sep r ⟨B, hm, ha⟩ l1 b e1 hb hS

theorem Handed.own {b : Nat} (h : OwnB (muC seen μ) (memL (blks.map (Blk.ren (idx seen)))) b) : ∃ r ∈ seen, ∃ l, Live mem r ∧ μ r = some l ∧ l.block = some b := by
  obtain ⟨j, l, h1, h2, h3⟩ := h
  obtain ⟨r, B, hr, hm, ha⟩ := H.live h1
  simp only [muC, hr, Option.bind_some] at h2
  exact ⟨r, List.mem_of_getElem? hr, l, ⟨B, hm, ha⟩, h2, h3⟩

theorem Handed.args : ∀ {vs : List V} {xs : List Value}, RelVs tab μ mem w S vs xs → (∀ v ∈ vs, ∀ r ∈ v.allNames, r ∈ seen) → RelVs tab (muC seen μ) (memL (blks.map (Blk.ren (idx seen)))) w S ((vs.map unNil).map (V.ren (idx seen))) xs
  | [], [], _, _ => trivial
  | v :: vs, x :: xs, h, hn => ⟨(unNil_rel h.1).ren fun r hr => H.ren (hn v (by simp) r (unNil_names v r hr)), Handed.args h.2 fun u hu => hn u (by simp [hu])⟩
  | [], _ :: _, h, _ => h.elim
  | _ :: _, [], h, _ => h.elim
theorem Handed.raw : ∀ {vs : List V} {xs : List Value}, RelVs tab μ mem w S vs xs → (∀ v ∈ vs, ∀ r ∈ v.allNames, r ∈ seen) → RelVs tab (muC seen μ) (memL (blks.map (Blk.ren (idx seen)))) w S (vs.map (V.ren (idx seen))) xs
  | [], [], _, _ => trivial
  | v :: vs, x :: xs, h, hn => ⟨h.1.ren fun r hr => H.ren (hn v (by simp) r hr), Handed.raw h.2 fun u hu => hn u (by simp [hu])⟩
  | [], _ :: _, h, _ => h.elim
  | _ :: _, [], h, _ => h.elim

theorem Handed.pick {C : Contract} {ins : List Blk} {vs : List V} {xs : List Value} (h : RelVs tab μ mem w S vs xs) (hn : ∀ v ∈ vs, ∀ r ∈ v.allNames, r ∈ seen) : RelVs tab (muC seen μ) (memL (blks.map (Blk.ren (idx seen)))) w S ((pickArgs C (idx seen) ins vs).map (V.ren (idx seen))) xs := by
  unfold pickArgs
  split
  · exact Handed.raw H h hn
  · exact Handed.args H h hn
end

theorem zipFrom_get {α : Type} : ∀ (l : List α) (i j : Nat), (zipFrom i l)[j]? = (l[j]?).map fun a => (i + j, a)
  | [], i, j => by simp [zipFrom]
  | a :: l, i, 0 => by simp [zipFrom]
  | a :: l, i, j + 1 => by
    simp only [zipFrom, List.getElem?_cons_succ, zipFrom_get l (i + 1) j]
    congr 1
    funext a; congr 1; omega

theorem look_of_get : ∀ {m : Mem}, (m.map (·.1)).Nodup → ∀ {j r : Nat} {B : Blk}, m[j]? = some (r, B) → look m r = some B
  | [], _, j, r, B, h => by simp at h
  | (q, D) :: m, hn, 0, r, B, h => by simp at h; obtain ⟨rfl, rfl⟩ := h; simp [look, Nat.beq_refl]
  | (q, D) :: m, hn, j + 1, r, B, h => by
    simp only [List.getElem?_cons_succ] at h
    simp only [List.map_cons, List.nodup_cons] at hn
    have hr : r ∈ m.map (·.1) := List.mem_map.2 ⟨(r, B), List.mem_of_getElem? h, rfl⟩
    have hne : r ≠ q := fun e => hn.1 (e ▸ hr)
    simp only [look, beq_ne hne]
    exact look_of_get hn.2 h

theorem get_of_look : ∀ {m : Mem} {r : Nat} {B : Blk}, look m r = some B → ∃ j : Nat, m[j]? = some (r, B)
  | [], r, B, h => by simp [look] at h
  | (q, D) :: m, r, B, h => by
    by_cases e : r = q
    · subst e
      simp [look, Nat.beq_refl] at h
      subst h
      exact ⟨0, rfl⟩
    · simp only [look, beq_ne e] at h
      obtain ⟨j, hj⟩ := get_of_look h
      exact ⟨j + 1, by simpa using hj⟩

/-- The way back: the blocks' names. -/
structure Back (mem : MemF) (seen : List Nat) (base : Nat) (n : Nat) : Prop where
  nodup : seen.Nodup
  below : ∀ r ∈ seen, r < base
  le : seen.length ≤ n
  fresh : ∀ j, seen.length ≤ j → j < n → mem (base + (j - seen.length)) = none

theorem backName_old {seen : List Nat} {base j r : Nat} (h : seen[j]? = some r) : backName seen base j = r := by simp [backName, h]
theorem backName_new {seen : List Nat} {base j : Nat} (h : seen.length ≤ j) : backName seen base j = base + (j - seen.length) := by simp [backName, List.getElem?_eq_none h]

theorem Back.inj {seen : List Nat} {base n : Nat} (K : Back mem seen base n) {i j : Nat} (h : backName seen base i = backName seen base j) : i = j := by
  by_cases hi : i < seen.length
  · rw [backName_old (List.getElem?_eq_getElem hi)] at h
    by_cases hj : j < seen.length
    · rw [backName_old (List.getElem?_eq_getElem hj)] at h
      exact (List.getElem_inj K.nodup).1 h
    · rw [backName_new (by omega)] at h
      have := K.below _ (List.getElem_mem hi)
      omega
  · rw [backName_new (by omega)] at h
    by_cases hj : j < seen.length
    · rw [backName_old (List.getElem?_eq_getElem hj)] at h
      have := K.below _ (List.getElem_mem hj)
      omega
    · rw [backName_new (by omega)] at h
      omega

theorem backs_get (seen : List Nat) (base : Nat) (bs : List Blk) (j : Nat) : (backs seen base bs)[j]? = (bs[j]?).map fun B => (backName seen base j, B.ren (backName seen base)) := by
  simp only [backs, List.getElem?_map, zipFrom_get]
  cases bs[j]? <;> simp

theorem Back.lk {seen : List Nat} {base : Nat} {bs : List Blk} (K : Back mem seen base bs.length) {j : Nat} {B : Blk} (h : bs[j]? = some B) : look (backs seen base bs) (backName seen base j) = some (B.ren (backName seen base)) := by
  have hn : ((backs seen base bs).map (·.1)).Nodup := by
    refine List.pairwise_iff_getElem.2 fun i j hi hj hij => ?_
    simp only [List.length_map] at hi hj
    have h1 := backs_get seen base bs i
    have h2 := backs_get seen base bs j
    rw [List.getElem?_eq_getElem hi] at h1
    rw [List.getElem?_eq_getElem hj] at h2
    simp only [List.getElem_map]
    cases hb1 : bs[i]? with
    | none => rw [hb1] at h1; cases h1
    | some B1 => cases hb2 : bs[j]? with
      | none => rw [hb2] at h2; cases h2
      | some B2 =>
        rw [hb1] at h1; rw [hb2] at h2
        rw [Option.some.inj h1, Option.some.inj h2]
        intro e
        have := K.inj e
        omega
  exact look_of_get hn (j := j) (by rw [backs_get, h]; rfl)

theorem Back.lk_some {seen : List Nat} {base : Nat} {bs : List Blk} {q : Nat} {D : Blk} (h : look (backs seen base bs) q = some D) : ∃ j B, bs[j]? = some B ∧ q = backName seen base j ∧ D = B.ren (backName seen base) := by
  obtain ⟨j, hj⟩ := get_of_look h
  rw [backs_get] at hj
  cases hb : bs[j]? with
  | none => rw [hb] at hj; cases hj
  | some B =>
    rw [hb] at hj
    simp only [Option.map_some, Option.some.injEq, Prod.mk.injEq] at hj
    exact ⟨j, B, hb, hj.1.symm, hj.2.symm⟩

def muB (seen : List Nat) (base : Nat) (bs : List Blk) (μ μ' : Mu) : Mu := fun q =>
  match (List.range bs.length).find? fun j => backName seen base j == q with
  | some j => μ' j
  | none => μ q

theorem Back.mu {seen : List Nat} {base : Nat} {bs : List Blk} (K : Back mem seen base bs.length) {j : Nat} (h : j < bs.length) : muB seen base bs μ μ' (backName seen base j) = μ' j := by
  unfold muB
  cases hf : (List.range bs.length).find? fun i => backName seen base i == backName seen base j with
  | none =>
    have := List.find?_eq_none.1 hf j (List.mem_range.2 h)
    simp at this
  | some i =>
    have := List.find?_some hf
    simp only [beq_iff_eq] at this
    rw [K.inj this]

theorem Back.mu_other {seen : List Nat} {base : Nat} {bs : List Blk} {q : Nat} (h : ∀ j, j < bs.length → backName seen base j ≠ q) : muB seen base bs μ μ' q = μ q := by
  unfold muB
  have : (List.range bs.length).find? (fun i => backName seen base i == q) = none := by
    rw [List.find?_eq_none]
    intro j hj
    simpa using h j (List.mem_range.1 hj)
  rw [this]
end
end Vm
end Go.Proofs.YtlbppjmekiemiacDoor


/- The executor on data: calls, the whole. No condition. -/
namespace Go.Proofs.YtlbppjmekiemiacDoor
namespace Vm
section
variable {P : Program} {tab : Tab} {μ μ' μ1 μ2 : Mu} {mem mem' mem1 mem2 : MemF} {w w' : World} {S S' : Nat → Prop}

theorem sameKind_ren {f g : Nat → Nat} {A B : Blk} (h : SameKind (A.ren f) B) : SameKind A (B.ren g) := by
  cases A <;> cases B <;> simp_all [SameKind, Blk.ren]

theorem call_back {seen : List Nat} {blks bs : List Blk} {base : Nat} {v : V} {x : Value} (I : Inv tab μ mem w S) (H : Handed mem seen blks) (K : Back mem seen base bs.length)
    (E : Ext (muC seen μ) (memL (blks.map (Blk.ren (idx seen)))) w S μ' (memL bs) w' S') (I' : Inv tab μ' (memL bs) w' S') (hv : RelV tab μ' (memL bs) w' S' v x) :
    Ext μ mem w S (muB seen base bs μ μ') (memU (backs seen base bs) mem) w' S' ∧ Inv tab (muB seen base bs μ μ') (memU (backs seen base bs) mem) w' S' ∧
      RelV tab (muB seen base bs μ μ') (memU (backs seen base bs) mem) w' S' (v.ren (backName seen base)) x := by
  have hin : ∀ j B, bs[j]? = some B → memU (backs seen base bs) mem (backName seen base j) = some (B.ren (backName seen base)) := fun j B h => by
    simp only [memU, K.lk h]
  have hout : ∀ q, (∃ j B, bs[j]? = some B ∧ q = backName seen base j) ∨ ((∀ j, j < bs.length → backName seen base j ≠ q) ∧ memU (backs seen base bs) mem q = mem q) := fun q => by
    cases hl : look (backs seen base bs) q with
    | some D => obtain ⟨j, B, h1, h2, _⟩ := Back.lk_some hl; exact .inl ⟨j, B, h1, h2⟩
    | none =>
      refine .inr ⟨fun j hj e => ?_, by simp only [memU, hl]⟩
      have := K.lk (List.getElem?_eq_getElem hj)
      rw [e, hl] at this; cases this
  have hren : ∀ j, Renames μ' (memL bs) (muB seen base bs μ μ') (memU (backs seen base bs) mem) (backName seen base) j := fun j h0 => by
    obtain ⟨B, hB⟩ := exists_of_ne h0
    have hB' : bs[j]? = some B := hB
    have hj : j < bs.length := (List.getElem?_eq_some_iff.1 hB').1
    refine ⟨by rw [hin j B hB']; exact (fun h => by cases h), fun B2 h2 ha => ?_⟩
    rw [hin j B hB'] at h2; cases h2
    exact ⟨B, hB, kindEq_ren (alive_ren.1 ha), K.mu hj⟩
  -- an old name among those of the call was handed in
  have hold : ∀ j q, j < bs.length → q = backName seen base j → mem q ≠ none → seen[j]? = some q := fun j q hj e hq => by
    by_cases hjs : j < seen.length
    · rw [backName_old (List.getElem?_eq_getElem hjs)] at e
      rw [e]; exact List.getElem?_eq_getElem hjs
    · rw [backName_new (by omega)] at e
      exact absurd (K.fresh j (by omega) hj) (e ▸ hq)
  have hliveIn : ∀ j r, seen[j]? = some r → Live mem r → Live (memL (blks.map (Blk.ren (idx seen)))) j := fun j r hr ⟨B, hB, ha⟩ => by
    have := H.memC hr
    rw [hB] at this
    exact ⟨_, this, alive_ren.2 ha⟩
  have hownIn : ∀ b, OwnB (muC seen μ) (memL (blks.map (Blk.ren (idx seen)))) b → OwnB μ mem b := fun b h => by
    obtain ⟨r, _, l, h1, h2, h3⟩ := H.own h
    exact ⟨r, l, h1, h2, h3⟩
  have E' : Ext μ mem w S (muB seen base bs μ μ') (memU (backs seen base bs) mem) w' S' := by
    refine ⟨fun q hq => ?_, fun q B B' h h' => ?_, E.sub, E.size, fun b hb hn => E.heap b hb fun h => hn (hownIn b h), fun b h => (E.only b h).imp id (Or.imp id (hownIn b)), fun b h => ?_, E.os, E.tape, E.output⟩
    · rcases hout q with ⟨j, B, h1, rfl⟩ | ⟨_, h2⟩
      · rw [hin j B h1]; exact (fun h => by cases h)
      · rw [h2]; exact hq
    · rcases hout q with ⟨j, D, h1, e⟩ | ⟨h1, h2⟩
      · have hj : j < bs.length := (List.getElem?_eq_some_iff.1 h1).1
        have hs := hold j q hj e (by rw [h]; exact (fun h => by cases h))
        have hm := H.memC hs
        rw [h] at hm
        have hk := E.kinds j _ D hm h1
        rw [e, hin j D h1] at h'; cases h'
        refine ⟨sameKind_ren hk.1, fun hl => ?_⟩
        obtain ⟨D2, hD2, ha⟩ := hl
        rw [e, hin j D h1] at hD2; cases hD2
        rw [e, K.mu hj, hk.2 ⟨D, h1, alive_ren.1 ha⟩, ← e]
        simp [muC, hs]
      · rw [h2, h] at h'; cases h'
        exact ⟨SameKind.refl _, fun _ => Back.mu_other h1⟩
    · obtain ⟨q, l, hl, hm, hb⟩ := h
      rcases hout q with ⟨j, D, h1, rfl⟩ | ⟨h1, h2⟩
      · have hj : j < bs.length := (List.getElem?_eq_some_iff.1 h1).1
        obtain ⟨D2, hD2, ha⟩ := hl
        rw [hin j D h1] at hD2; cases hD2
        rw [K.mu hj] at hm
        exact (E.own b ⟨j, l, ⟨D, h1, alive_ren.1 ha⟩, hm, hb⟩).imp (hownIn b) id
      · rw [Back.mu_other h1] at hm
        refine .inl ⟨q, l, ?_, hm, hb⟩
        obtain ⟨D2, hD2, ha⟩ := hl
        rw [h2] at hD2
        exact ⟨D2, hD2, ha⟩
  -- a block that was not handed in
  have hsep : ∀ q l b, (∀ j, j < bs.length → backName seen base j ≠ q) → Live mem q → μ q = some l → l.block = some b → ¬ OwnB (muC seen μ) (memL (blks.map (Blk.ren (idx seen)))) b := fun q l b hq hl hm hb h => by
    obtain ⟨r, hr, l', h1, h2, h3⟩ := H.own h
    have hne : q ≠ r := fun e => by
      subst e
      have := get_idx hr
      have hj : idx seen q < seen.length := (List.getElem?_eq_some_iff.1 this).1
      exact hq (idx seen q) (Nat.lt_of_lt_of_le hj K.le) (backName_old this)
    exact I.inj q r hne hl h1 l l' b hm h2 hb h3
  refine ⟨E', ⟨fun q B hB ha => ?_, fun q q' hqq g1 g2 l1 l2 b e1 e2 hb hb' => ?_, fun q g1 l1 b e1 hb hS => ?_, I'.lt, I'.pow⟩, hv.ren fun r _ => hren r⟩
  · rcases hout q with ⟨j, D, h1, rfl⟩ | ⟨h1, h2⟩
    · have hj : j < bs.length := (List.getElem?_eq_some_iff.1 h1).1
      rw [hin j D h1] at hB; cases hB
      obtain ⟨l, k1, k2⟩ := I'.rel j D h1 (alive_ren.1 ha)
      exact ⟨l, by rw [K.mu hj]; exact k1, k2.ren fun r _ => hren r⟩
    · rw [h2] at hB
      obtain ⟨l, k1, k2⟩ := I.rel q B hB ha
      refine ⟨l, by rw [Back.mu_other h1]; exact k1, k2.ext E' I fun b hb => ?_⟩
      exact E.heap b (I.blockLt ⟨B, hB, ha⟩ k1 hb) (hsep q l b h1 ⟨B, hB, ha⟩ k1 hb)
  · have key : ∀ q l b, Live (memU (backs seen base bs) mem) q → muB seen base bs μ μ' q = some l → l.block = some b →
        (∃ j, q = backName seen base j ∧ Live (memL bs) j ∧ μ' j = some l) ∨ ((∀ j, j < bs.length → backName seen base j ≠ q) ∧ Live mem q ∧ μ q = some l) := fun q l b hl hm hb => by
      rcases hout q with ⟨j, D, h1, rfl⟩ | ⟨h1, h2⟩
      · have hj : j < bs.length := (List.getElem?_eq_some_iff.1 h1).1
        obtain ⟨D2, hD2, ha⟩ := hl
        rw [hin j D h1] at hD2; cases hD2
        rw [K.mu hj] at hm
        exact .inl ⟨j, rfl, ⟨D, h1, alive_ren.1 ha⟩, hm⟩
      · rw [Back.mu_other h1] at hm
        obtain ⟨D2, hD2, ha⟩ := hl
        rw [h2] at hD2
        exact .inr ⟨h1, ⟨D2, hD2, ha⟩, hm⟩
    have mixed : ∀ j l1 q2 l2, Live (memL bs) j → μ' j = some l1 → l1.block = some b → (∀ j, j < bs.length → backName seen base j ≠ q2) → Live mem q2 → μ q2 = some l2 → l2.block = some b → False := fun j l1 q2 l2 k1 k2 k3 k4 k5 k6 k7 => by
      rcases E.own b ⟨j, l1, k1, k2, k3⟩ with h | h
      · exact hsep q2 l2 b k4 k5 k6 k7 h
      · have := I.blockLt k5 k6 k7
        omega
    rcases key q l1 b g1 e1 hb with ⟨j, rfl, k1, k2⟩ | ⟨k1, k2, k3⟩
    · rcases key q' l2 b g2 e2 hb' with ⟨j', rfl, k1', k2'⟩ | ⟨k1', k2', k3'⟩
      · exact I'.inj j j' (fun e => hqq (by rw [e])) k1 k1' l1 l2 b k2 k2' hb hb'
      · exact mixed j l1 q' l2 k1 k2 hb k1' k2' k3' hb'
    · rcases key q' l2 b g2 e2 hb' with ⟨j', rfl, k1', k2'⟩ | ⟨k1', k2', k3'⟩
      · exact mixed j' l2 q l1 k1' k2' hb' k1 k2 k3 hb
      · exact I.inj q q' hqq k2 k2' l1 l2 b k3 k3' hb hb'
  · rcases hout q with ⟨j, D, h1, rfl⟩ | ⟨h1, h2⟩
    · have hj : j < bs.length := (List.getElem?_eq_some_iff.1 h1).1
      obtain ⟨D2, hD2, ha⟩ := g1
      rw [hin j D h1] at hD2; cases hD2
      rw [K.mu hj] at e1
      exact I'.sep j ⟨D, h1, alive_ren.1 ha⟩ l1 b e1 hb hS
    · rw [Back.mu_other h1] at e1
      obtain ⟨D2, hD2, ha⟩ := g1
      rw [h2] at hD2
      rcases E.only b hS with h | h | h
      · exact I.sep q ⟨D2, hD2, ha⟩ l1 b e1 hb h
      · have := I.blockLt ⟨D2, hD2, ha⟩ e1 hb
        omega
      · exact hsep q l1 b h1 ⟨D2, hD2, ha⟩ e1 hb h

theorem Calls.runs {o : Oper} {a : Act} {f : Nat} {xs : Array Value} {fn : Func} {R : Value → World → Prop} (hf : P.funcs[f]? = some fn) (hb : fn.body.isSome = true) (hn : (fn.name == "runtime.NumGoroutine") = false)
    {callee : Operand} {args : Array Operand} {ts : Array TypeId} (ho : o.op = .call { callee := .value callee, args := args, argTypes := ts }) (cs : Array Value) (hc : a.eval callee = .func (.func f) #[] cs) (hx : args.map a.eval ++ cs = xs)
    (h : Calls P f xs w fun e w' => ∃ x, e = .returned x ∧ R x w') : Runs P o a w R := by
  intro K Q hk
  unfold Oper.wp
  have hrun : (execOp a.eval o).run P w = .ok (.enter f xs) w := by
    have hbn : ¬ fn.body = none := by cases hbb : fn.body <;> simp [hbb] at hb ⊢
    have hn' : ¬ fn.name = "runtime.NumGoroutine" := by simpa using hn
    subst hx
    simp only [execOp, ho, resolve, hc, Deferred.ofValue, Sem.run_bind, Sem.run_pure, Result.andThen_ok, invoke, callFunc]
    simp [program, Sem.run, hf]
    rw [if_neg hn', if_neg hbn]
  rw [hrun]
  refine Calls.mono h fun e w' hr => ?_
  obtain ⟨x, rfl, hR⟩ := hr
  exact hk x w' hR

theorem names_of_args {seen : List Nat} : ∀ {args : List V}, allIn seen (args.flatMap V.names) = true → args.all V.noTup = true → ∀ v ∈ args, ∀ r ∈ v.allNames, r ∈ seen := by
  have key : ∀ l : List Nat, allIn seen l = true → ∀ r ∈ l, r ∈ seen := fun l => by
    induction l with
    | nil => intro _ r hr; simp at hr
    | cons q l ih =>
      intro h r hr
      simp only [allIn] at h
      split at h
      · rename_i hq
        simp only [List.mem_cons] at hr
        rcases hr with rfl | hr
        · exact (memb_iff seen r).1 hq
        · exact ih h r hr
      · cases h
  intro args h ht v hv r hr
  have : r ∈ v.names := by
    cases v with
    | tup us => have := List.all_eq_true.1 ht _ hv; cases this
    | one c => exact hr
    | agg cs => exact hr
  exact key _ h r (List.mem_flatMap.2 ⟨v, hv, this⟩)

theorem allIn_mem {seen : List Nat} : ∀ {l : List Nat}, allIn seen l = true → ∀ r ∈ l, r ∈ seen := by
  intro l
  induction l with
  | nil => intro _ r hr; simp at hr
  | cons q l ih =>
    intro h r hr
    simp only [allIn] at h
    split at h
    · rename_i hq
      simp only [List.mem_cons] at hr
      rcases hr with rfl | hr
      · exact (memb_iff seen r).1 hq
      · exact ih h r hr
    · cases h

theorem distinct_nodup : ∀ {l : List Nat}, distinct l = true → l.Nodup := by
  intro l
  induction l with
  | nil => intro _; exact List.nodup_nil
  | cons q l ih =>
    intro h
    simp only [distinct] at h
    split at h
    · cases h
    · rename_i hq
      exact List.nodup_cons.2 ⟨memb_no hq, ih h⟩

theorem allBelow_lt {base : Nat} : ∀ {l : List Nat}, allBelow base l = true → ∀ r ∈ l, r < base := by
  intro l
  induction l with
  | nil => intro _ r hr; simp at hr
  | cons q l ih =>
    intro h r hr
    simp only [allBelow] at h
    split at h
    · cases h
    · rename_i hq
      simp only [List.mem_cons] at hr
      rcases hr with rfl | hr
      · cases hle : Nat.ble base r with
        | true => rw [hle] at hq; cases hq
        | false =>
          have : ¬ base ≤ r := fun h => by rw [Nat.ble_eq_true_of_le h] at hle; cases hle
          omega
      · exact ih h r hr

theorem kindsOk_len : ∀ {as bs : List Blk}, kindsOk as bs = true → as.length ≤ bs.length ∧ bs.length ≤ as.length + 7
  | [], bs, h => ⟨by simp, by simpa using Nat.le_of_ble_eq_true h⟩
  | a :: as, [], h => by simp [kindsOk] at h
  | a :: as, b :: bs, h => by
    simp only [kindsOk] at h
    split at h
    · have := kindsOk_len h
      simp; omega
    · cases h

/-- What is written to is new, or was seen. -/
def FreshP (base : Nat) (mem : MemF) (names : List Nat) (m : Mem) : Prop := ∀ r B, (r, B) ∈ m → (base ≤ r → mem r = none) ∧ (r < base → r ∈ names)

theorem backs_mem {seen : List Nat} {base : Nat} {bs : List Blk} {j : Nat} (h : j < bs.length) : ∃ B, (backName seen base j, B) ∈ backs seen base bs := by
  have := backs_get seen base bs j
  rw [List.getElem?_eq_getElem h] at this
  exact ⟨_, List.mem_of_getElem? this⟩
end
end Vm
end Go.Proofs.YtlbppjmekiemiacDoor


/- The executor on data: the operation 'call'. No condition. -/
namespace Go.Proofs.YtlbppjmekiemiacDoor
namespace Vm
section
variable {P : Program} {tab : Tab} {Γ : Ctx} {μ μ' μ1 μ2 : Mu} {mem mem' mem1 mem2 : MemF} {w w' : World} {S S' : Nat → Prop}

theorem okSeen_spec {base : Nat} {seen : List Nat} {args : List V} {bs : List Blk} (h : okSeen base seen args bs = true) :
    seen.Nodup ∧ (∀ r ∈ seen, r < base) ∧ (∀ v ∈ args, ∀ r ∈ v.allNames, r ∈ seen) ∧ ∀ B ∈ bs, ∀ r ∈ B.names, r ∈ seen := by
  unfold okSeen at h
  split at h <;> try cases h
  rename_i h1
  split at h <;> try cases h
  rename_i h2
  split at h <;> try cases h
  rename_i h3
  split at h <;> try cases h
  rename_i h4
  exact ⟨distinct_nodup h1, allBelow_lt h2, names_of_args h3 h4, fun B hB r hr => allIn_mem h r (List.mem_flatMap.2 ⟨B, hB, hr⟩)⟩

theorem handed_of {ml : Mem} {names : List Nat} (hm : mem = look ml) (hn : names.Nodup) (hc : ∀ B ∈ (memAt ml names).map (·.2), ∀ r ∈ B.names, r ∈ names) : Handed mem names ((memAt ml names).map (·.2)) := by
  subst hm
  refine ⟨hn, by simp [memAt], fun j r hr => by simp [memAt, hr], hc⟩

theorem memAt_fst (ml : Mem) (names : List Nat) : (memAt ml names).map (·.1) = names := by
  unfold memAt
  rw [List.map_map]
  exact (List.map_congr_left (fun _ _ => rfl)).trans (List.map_id names)

theorem froz_sub {ns ms : List Nat} {c : C} {x : Value} (h : RepC tab w (Froz μ mem S ns) c x) (hs : ∀ r ∈ ns, r ∈ ms) : RepC tab w (Froz μ mem S ms) c x :=
  h.mono (fun _ h => h.imp id fun ⟨r, hr, h⟩ => ⟨r, hs r hr, h⟩) (fun _ _ => rfl)

theorem datsOf_rel {lm : Mem} (I : Inv tab μ mem w S) (hs : Sees lm mem) {N : List Nat} : ∀ {vs ds : List V} {ns : List Nat} {xs : List Value}, RelVs tab μ mem w S vs xs → datsOf tab lm vs = some (ds, ns) → (∀ r ∈ ns, r ∈ N) →
    ∀ {μ0 : Mu} {mem0 : MemF}, RelVs tab μ0 mem0 w (Froz μ mem S N) ds xs
  | [], ds, ns, xs, h, hd, _, μ0, mem0 => by
    simp only [datsOf] at hd; cases hd
    cases xs with
    | nil => trivial
    | cons x xs => exact h.elim
  | v :: vs, ds, ns, [], h, hd, _, _, _ => h.elim
  | v :: vs, ds, ns, x :: xs, h, hd, hN, μ0, mem0 => by
    simp only [datsOf] at hd
    split at hd <;> try cases hd
    rename_i v' n1 us n2 hv hrest
    refine ⟨?_, datsOf_rel I hs h.2 hrest (fun r hr => hN r (by simp [hr]))⟩
    cases v with
    | tup us => cases hv
    | one c =>
      simp only [Option.map_eq_some_iff] at hv
      obtain ⟨⟨d, nn⟩, hd', he⟩ := hv
      cases he
      have hc : c ≠ .undef := fun e => by subst e; simp only [toDat] at hd'; cases hd'
      have hx : x.oneCell' = true ∧ RelC tab μ mem w S c x := by cases c <;> first | exact absurd rfl hc | exact h.1
      obtain ⟨_, hr⟩ := toDat_rel I hs hx hd'
      obtain ⟨t, e, rfl⟩ := toDat_isDat hd'
      exact ⟨hx.1, froz_sub hr fun r hr => hN r (by simp [hr])⟩
    | agg cs =>
      simp only [Option.map_eq_some_iff] at hv
      obtain ⟨⟨dd, nn⟩, hd', he⟩ := hv
      cases he
      obtain ⟨ys, rfl, h1, h2⟩ := h.1
      obtain ⟨_, k2, k3⟩ := toDats_rel I hs (fun i => ys[i]?) h2 hd'
      refine ⟨ys, rfl, by rw [h1, k2], fun i d hi => ?_⟩
      obtain ⟨y, y1, y2, y3⟩ := k3 i d hi
      exact ⟨y, y1, y2, (froz_sub y3 fun r hr => hN r (by simp [hr])).relC⟩

theorem unNil_rels : ∀ {vs : List V} {xs : List Value}, RelVs tab μ mem w S vs xs → RelVs tab μ mem w S (vs.map unNil) xs
  | [], [], _ => trivial
  | _ :: _, _ :: _, h => ⟨unNil_rel h.1, unNil_rels h.2⟩
  | [], _ :: _, h => h.elim
  | _ :: _, [], h => h.elim

theorem relVs_append : ∀ {vs us : List V} {xs ys : List Value}, RelVs tab μ mem w S vs xs → RelVs tab μ mem w S us ys → RelVs tab μ mem w S (vs ++ us) (xs ++ ys)
  | [], _, [], _, _, h => h
  | _ :: _, _, _ :: _, _, h, h' => ⟨h.1, relVs_append h.2 h'⟩
  | [], _, _ :: _, _, h, _ => h.elim
  | _ :: _, _, [], _, h, _ => h.elim

theorem relVs_caps : ∀ {caps : List Nat} {ys : List Value}, ys.length = caps.length → (∀ (i r : Nat), caps[i]? = some r → ∃ y, ys[i]? = some y ∧ RelV tab μ mem w S (.one (.ptr r 0)) y) →
    RelVs tab μ mem w S (caps.map fun r => .one (.ptr r 0)) ys
  | [], [], _, _ => trivial
  | [], _ :: _, h, _ => by simp at h
  | _ :: _, [], h, _ => by simp at h
  | r :: caps, y :: ys, h, hr => by
    obtain ⟨y', h1, h2⟩ := hr 0 r rfl
    simp at h1; subst h1
    exact ⟨h2, relVs_caps (by simpa using h) fun i r hi => by simpa using hr (i + 1) r (by simpa using hi)⟩

theorem plain_repC {c : C} {y : Value} (hc : c.plain = true) (h : RelC tab μ1 mem1 w S c y) : RelC tab μ2 mem2 w' S' c y := by
  cases c with
  | dat t d => cases t <;> first | (cases hc; done) | (cases h; constructor)
  | any => trivial
  | _ => cases hc

theorem plain_relW {v : V} {x : Value} (hp : v.plain1 = true) (h : RelW tab μ1 mem1 w S v x) : RelW tab μ2 mem2 w' S' v x := by
  cases v with
  | one c => exact ⟨h.1, plain_repC hp h.2⟩
  | agg cs =>
    obtain ⟨xs, e, h1, h2⟩ := h
    refine ⟨xs, e, h1, fun i c hi => ?_⟩
    obtain ⟨y, y1, y2, y3⟩ := h2 i c hi
    exact ⟨y, y1, y2, plain_repC (List.all_eq_true.1 hp c (List.mem_of_getElem? hi)) y3⟩
  | tup vs => cases hp

theorem plain_rel {v : V} {x : Value} (hp : v.plain = true) (h : RelV tab μ1 mem1 w S v x) : RelV tab μ2 mem2 w' S' v x := by
  cases v with
  | one c =>
    cases c with
    | dat t d => exact plain_relW (v := .one (.dat t d)) hp h
    | undef => trivial
    | any => exact plain_relW (v := .one .any) hp h
    | _ => cases hp
  | agg cs => exact plain_relW (v := .agg cs) hp h
  | tup vs =>
    obtain ⟨xs, e, h1, h2⟩ := h
    refine ⟨xs, e, h1, fun i u hi => ?_⟩
    obtain ⟨y, y1, y2⟩ := h2 i u hi
    exact ⟨y, y1, plain_relW (List.all_eq_true.1 hp u (List.mem_of_getElem? hi)) y2⟩

theorem relW_ext {mf mf' : MemF} (E : Ext μ mf w S μ' mf' w' S') (I : Inv tab μ mf w S) : ∀ {v : V} {x : Value}, RelW tab μ mf w S v x → RelW tab μ' mf' w' S' v x
  | .one _, _, ⟨h1, h2⟩ => ⟨h1, h2.ext E I⟩
  | .agg _, _, ⟨xs, h1, h2, h3⟩ => ⟨xs, h1, h2, fun i c hc => let ⟨y, y1, y2, y3⟩ := h3 i c hc; ⟨y, y1, y2, y3.ext E I⟩⟩
  | .tup _, _, h => h.elim

theorem relV_ext {mf mf' : MemF} (E : Ext μ mf w S μ' mf' w' S') (I : Inv tab μ mf w S) {v : V} {x : Value} (h : RelV tab μ mf w S v x) : RelV tab μ' mf' w' S' v x := by
  cases v with
  | one c => cases c <;> first | trivial | exact relW_ext (v := .one _) E I h
  | agg cs => exact relW_ext (v := .agg cs) E I h
  | tup vs =>
    obtain ⟨xs, h1, h2, h3⟩ := h
    exact ⟨xs, h1, h2, fun i v hv => let ⟨y, y1, y2⟩ := h3 i v hv; ⟨y, y1, relW_ext E I y2⟩⟩

theorem mixOf_rel {lm : Mem} (I : Inv tab μ mem w S) (hs : Sees lm mem) {N : List Nat} : ∀ {vs : List V} {xs : List Value}, RelVs tab μ mem w S vs xs → (∀ r ∈ (mixOf tab lm vs).2, r ∈ N) →
    RelVs tab μ (memU (deads N) mem) w (Froz μ mem S N) (mixOf tab lm vs).1 xs
  | [], [], _, _ => trivial
  | [], _ :: _, h, _ => h.elim
  | _ :: _, [], h, _ => h.elim
  | v :: vs, x :: xs, h, hN => by
    obtain ⟨E, _⟩ := kills_EI (ns := N) I
    simp only [mixOf] at hN ⊢
    split at hN
    · rename_i v' n1 hv
      refine ⟨?_, mixOf_rel I hs h.2 fun r hr => hN r (by simp [hr])⟩
      cases v with
      | tup us => cases hv
      | one c =>
        simp only [Option.map_eq_some_iff] at hv
        obtain ⟨⟨d, nn⟩, hd', he⟩ := hv
        cases he
        have hc : c ≠ .undef := fun e => by subst e; simp only [toDat] at hd'; cases hd'
        have hx : x.oneCell' = true ∧ RelC tab μ mem w S c x := by cases c <;> first | exact absurd rfl hc | exact h.1
        obtain ⟨_, hr⟩ := toDat_rel I hs hx hd'
        obtain ⟨t, e, rfl⟩ := toDat_isDat hd'
        exact ⟨hx.1, froz_sub hr fun r hr => hN r (by simp [hr])⟩
      | agg cs =>
        simp only [Option.map_eq_some_iff] at hv
        obtain ⟨⟨dd, nn⟩, hd', he⟩ := hv
        cases he
        obtain ⟨ys, rfl, h1, h2⟩ := h.1
        obtain ⟨_, k2, k3⟩ := toDats_rel I hs (fun i => ys[i]?) h2 hd'
        refine ⟨ys, rfl, by rw [h1, k2], fun i d hi => ?_⟩
        obtain ⟨y, y1, y2, y3⟩ := k3 i d hi
        exact ⟨y, y1, y2, (froz_sub y3 fun r hr => hN r (by simp [hr])).relC⟩
    · exact ⟨relV_ext E I h.1, mixOf_rel I hs h.2 hN⟩

theorem sees_memAt' {ml : Mem} (hm : mem = look ml) (names : List Nat) : Sees (memAt ml names) mem := fun r B h hal => by
  subst hm
  obtain ⟨j, hj⟩ := get_of_look h
  simp only [memAt, List.getElem?_map, Option.map_eq_some_iff, Prod.mk.injEq] at hj
  obtain ⟨q, _, rfl, rfl⟩ := hj
  cases hq : look ml q with
  | none => rw [hq] at hal; exact hal.elim
  | some D => rfl

/-- A call on blocks that are handed in. -/
theorem op_callA {o : Oper} {a : Act} {callee : Operand} {args : Array Operand} {ts : Array TypeId} {f base : Nat} {cs : Array Value} {vs as : List V} {ml : Mem} {p : Option Prop} {v : V} {bs : List Blk} {C : Contract} {fn : Func} (hm : mem = look ml)
    (ho : o.op = .call { callee := .value callee, args := args, argTypes := ts }) (hsound : SoundC P tab f C) (hfn1 : P.funcs[f]? = some fn) (hfn2 : fn.body.isSome = true) (hfn3 : (fn.name == "runtime.NumGoroutine") = false)
    (I : Inv tab μ mem w S) (hfn : a.eval callee = .func (.func f) #[] cs) (hxs : args.map a.eval ++ cs = (args.toList.map a.eval ++ cs.toList).toArray) {names : List Nat}
    (hrel : Handed mem names ((memAt ml names).map (·.2)) → (∀ v ∈ vs, ∀ r ∈ v.allNames, r ∈ names) → RelVs tab (muC names μ) (memL (((memAt ml names).map (·.2)).map (Blk.ren (idx names)))) w S (as.map (V.ren (idx names))) (args.toList.map a.eval ++ cs.toList))
    (hc : C (as.map (V.ren (idx names))) ((memAt ml names).map fun p => p.2.ren (idx names)) = some (p, v, bs)) (hk : kindsOk ((memAt ml names).map fun p => p.2.ren (idx names)) bs = true)
    (hok : okSeen base names vs ((memAt ml names).map (·.2)) = true) (hp : under p True) (hF : ∀ r B, (r, B) ∈ backs names base bs → base ≤ r → mem r = none) :
    Runs P o a w (After tab μ mem w S (backs names base bs) (v.ren (backName names base))) := by
  obtain ⟨n1, n2, n3, n4⟩ := okSeen_spec hok
  have H := handed_of hm n1 n4
  have hkl := (kindsOk_len hk).1
  rw [List.length_map, show (memAt ml names).length = names.length by simp [memAt]] at hkl
  have K : Back mem names base bs.length := ⟨n1, n2, by omega, fun j hj1 hj2 => by
    obtain ⟨B, hB⟩ := backs_mem (seen := names) (base := base) hj2
    rw [backName_new hj1] at hB
    exact hF _ _ hB (by omega)⟩
  have hins : ((memAt ml names).map fun p => p.2.ren (idx names)) = ((memAt ml names).map (·.2)).map (Blk.ren (idx names)) := by rw [List.map_map]; rfl
  rw [hins] at hc
  have hac := hsound _ _ _ _ _ hc hp w S (muC names μ) _ (H.inv I) (hrel H n3)
  refine Calls.runs hfn1 hfn2 hfn3 ho cs hfn rfl ?_
  rw [hxs]
  refine hac.mono fun e w' ⟨x, μ', S', h1, h2, h3, h4⟩ => ⟨x, h1, ?_⟩
  obtain ⟨k1, k2, k3⟩ := call_back I H K h2 h3 h4
  exact ⟨_, S', k1, k2, k3⟩

theorem dropN_mem {ns : List Nat} : ∀ {l : List Nat}, ∀ r ∈ dropN ns l, r ∈ l ∧ r ∉ ns
  | [], _, h => by cases h
  | q :: l, r, h => by
    simp only [dropN] at h
    split at h
    · obtain ⟨h1, h2⟩ := dropN_mem r h
      exact ⟨List.mem_cons_of_mem _ h1, h2⟩
    · rename_i hq
      rcases List.mem_cons.1 h with rfl | h
      · exact ⟨List.mem_cons_self, memb_no hq⟩
      · obtain ⟨h1, h2⟩ := dropN_mem r h
        exact ⟨List.mem_cons_of_mem _ h1, h2⟩

theorem memAt_twice {ml : Mem} {names seen : List Nat} (h : ∀ r ∈ seen, r ∈ names) : memAt (memAt ml names) seen = memAt ml seen := by
  unfold memAt
  refine List.map_congr_left fun r hr => ?_
  have key : ∀ ns : List Nat, r ∈ ns → look (ns.map fun r => (r, (look ml r).getD .dead)) r = some ((look ml r).getD .dead) := fun ns => by
    induction ns with
    | nil => intro h; cases h
    | cons q ns ih =>
      intro hm
      by_cases e : r = q
      · subst e; simp [look, Nat.beq_refl]
      · simp only [List.map_cons, look, beq_ne e]
        exact ih ((List.mem_cons.1 hm).resolve_left e)
  rw [key names (h r hr)]
  simp

theorem memAt_deads {ml : Mem} {seen ns : List Nat} (h : ∀ r ∈ seen, r ∉ ns) : memAt (deads ns ++ ml) seen = memAt ml seen := by
  unfold memAt
  refine List.map_congr_left fun r hr => ?_
  rw [look_append]
  rcases look_deads ns r with ⟨h1, _⟩ | ⟨_, h2⟩
  · exact absurd h1 (h r hr)
  · rw [h2]

theorem op_callM {o : Oper} {a : Act} {callee : Operand} {args : Array Operand} {ts : Array TypeId} {f base : Nat} {cs : Array Value} {us : List V} {ml : Mem} {p : Option Prop} {v : V} {m : Mem} {C : Contract} {fn : Func} (hm : mem = look ml)
    (ho : o.op = .call { callee := .value callee, args := args, argTypes := ts }) (hsound : SoundC P tab f C) (hfn1 : P.funcs[f]? = some fn) (hfn2 : fn.body.isSome = true) (hfn3 : (fn.name == "runtime.NumGoroutine") = false)
    (I : Inv tab μ mem w S) (hfn : a.eval callee = .func (.func f) #[] cs) (hxs : args.map a.eval ++ cs = (args.toList.map a.eval ++ cs.toList).toArray) {names : List Nat}
    (hargs : RelVs tab μ mem w S us (args.toList.map a.eval ++ cs.toList))
    (h : callM tab base (memAt ml names) C (mixOf tab (memAt ml names) us).1 (mixOf tab (memAt ml names) us).2 = some (p, v, m)) (hp : under p True) (hF : FreshP base mem names m) :
    Runs P o a w (After tab μ mem w S m v) := by
  have hrel0 := mixOf_rel I (sees_memAt' hm names) hargs (fun r hr => hr)
  generalize hns : (mixOf tab (memAt ml names) us).2 = ns at h hrel0
  generalize has : (mixOf tab (memAt ml names) us).1 = as at h hrel0
  unfold callM at h
  simp only at h
  rw [memAt_fst, memAt_twice (seen := dropN ns names) (fun r hr => (dropN_mem r hr).1)] at h
  split at h <;> try cases h
  rename_i p0 v0 bs hc
  split at h <;> try cases h
  rename_i hk hok hbel
  obtain ⟨E0, I1⟩ := kills_EI (ns := ns) I
  have hm' : memU (deads ns) mem = look (deads ns ++ ml) := by
    subst hm
    funext r
    rw [look_append]
    rfl
  have hmd := memAt_deads (ml := ml) (seen := dropN ns names) (fun r hr => (dropN_mem r hr).2)
  rw [← hmd] at hc hk hok
  have hA := op_callA (base := base) (vs := as) (as := as) hm' ho hsound hfn1 hfn2 hfn3 I1 hfn hxs (fun H n3 => Handed.raw H hrel0 n3) hc hk hok hp (fun r B hB hr => by
    have hno : r ∉ ns := fun hmem => by
      have := allBelow_lt hbel _ hmem
      omega
    rcases memU_deads (mem := mem) ns r with ⟨h1, _⟩ | ⟨_, h2⟩
    · exact absurd h1 hno
    · rw [h2]
      exact (hF _ _ (List.mem_append_left _ hB)).1 hr)
  intro K Q hk'
  refine hA K Q fun x w' ⟨μ', S', h1, h2, h3⟩ => hk' x w' ⟨μ', S', ?_, ?_, ?_⟩
  · rw [memU_append]; exact E0.trans h1
  · rw [memU_append]; exact h2
  · rw [memU_append]; exact h3

theorem op_callG {o : Oper} {a : Act} {callee : Operand} {args : Array Operand} {ts : Array TypeId} {f base : Nat} {ex : List V} {cs : Array Value} {vs : List V} {ml : Mem} {p : Option Prop} {v : V} {m : Mem} (hΓ : Sound P tab Γ) (hm : mem = look ml)
    (ho : o.op = .call { callee := .value callee, args := args, argTypes := ts }) (I : Inv tab μ mem w S) (hfn : a.eval callee = .func (.func f) #[] cs) (hex : RelVs tab μ mem w S ex cs.toList) (ha : RelVs tab μ mem w S vs (args.toList.map a.eval))
    {names : List Nat} (h : callX Γ tab base (memAt ml names) f (vs ++ ex) = some (p, v, m)) (hp : under p True) (hF : FreshP base mem names m) :
    Runs P o a w (After tab μ mem w S m v) := by
  have hsees : Sees (memAt ml names) mem := fun r B h hal => by
    subst hm
    obtain ⟨j, hj⟩ := get_of_look h
    simp only [memAt, List.getElem?_map, Option.map_eq_some_iff, Prod.mk.injEq] at hj
    obtain ⟨q, _, rfl, rfl⟩ := hj
    cases hq : look ml q with
    | none => rw [hq] at hal; exact hal.elim
    | some D => rfl
  have hargs : RelVs tab μ mem w S (vs ++ ex) (args.toList.map a.eval ++ cs.toList) := relVs_append ha hex
  have hxs : args.map a.eval ++ cs = (args.toList.map a.eval ++ cs.toList).toArray := by
    apply Array.ext'
    simp
  unfold callX at h
  split at h
  · cases h
  rename_i C hC
  obtain ⟨hsound, fn, hfn1, hfn2, hfn3⟩ := hΓ f C hC
  simp only at h
  split at h
  · rename_i p0 v0 bs hc
    split at h <;> try cases h
    rename_i hk hok
    rw [memAt_fst] at hc hok hF ⊢
    obtain ⟨n1, n2, n3, n4⟩ := okSeen_spec hok
    have H := handed_of hm n1 n4
    have hkl := (kindsOk_len hk).1
    rw [List.length_map, show (memAt ml names).length = names.length by simp [memAt]] at hkl
    have K : Back mem names base bs.length := ⟨n1, n2, by omega, fun j hj1 hj2 => by
      obtain ⟨B, hB⟩ := backs_mem (seen := names) (base := base) hj2
      rw [backName_new hj1] at hB
      exact (hF _ _ hB).1 (by omega)⟩
    have hins : ((memAt ml names).map fun p => p.2.ren (idx names)) = ((memAt ml names).map (·.2)).map (Blk.ren (idx names)) := by rw [List.map_map]; rfl
    rw [hins] at hc
    have hac := hsound _ _ _ _ _ hc hp w S (muC names μ) _ (H.inv I) (H.pick hargs n3)
    refine Calls.runs hfn1 hfn2 hfn3 ho cs hfn rfl ?_
    rw [hxs]
    refine hac.mono fun e w' ⟨x, μ', S', h1, h2, h3, h4⟩ => ⟨x, h1, ?_⟩
    obtain ⟨k1, k2, k3⟩ := call_back I H K h2 h3 h4
    exact ⟨_, S', k1, k2, k3⟩
  · rename_i hc
    split at h
    · exact op_callM (us := (vs ++ ex).map unNil) hm ho hsound hfn1 hfn2 hfn3 I hfn hxs (unNil_rels hargs) h hp hF
    rename_i ds ns hds
    split at h <;> try cases h
    rename_i p0 v0 bs hc'
    have I0 : Inv tab (fun _ => none) (memL []) w (Froz μ mem S ns) := by
      obtain ⟨_, Ik⟩ := kills_EI (ns := ns) I
      exact ⟨fun r B h => by simp [memL] at h, fun r r' _ ⟨B, h, _⟩ => by simp [memL] at h, fun r ⟨B, h, _⟩ => by simp [memL] at h, Ik.lt, Ik.pow⟩
    have hrel := datsOf_rel (N := ns) I hsees (unNil_rels hargs) hds (fun r hr => hr) (μ0 := fun _ => none) (mem0 := memL [])
    split at h
    · rename_i hpl
      cases h
      have hac := hsound _ _ _ _ _ hc' hp w (Froz μ mem S ns) (fun _ => none) _ I0 hrel
      refine Calls.runs hfn1 hfn2 hfn3 ho cs hfn rfl ?_
      rw [hxs]
      refine hac.mono fun e w' ⟨x, μ', S', h1, E, I', h4⟩ => ⟨x, h1, ?_⟩
      have hall : ∀ b, b < w.heap.size → w'.heap[b]? = w.heap[b]? := fun b hb => E.heap b hb fun ⟨r, l, ⟨B, hB, _⟩, _⟩ => by simp [memL] at hB
      have E1 : Ext μ mem w S μ mem w' S := ⟨fun _ h => h, (Ext.refl (μ := μ) (mem := mem) (w := w) (S := S)).kinds, fun _ h => h, E.size, fun b hb _ => hall b hb, fun _ h => .inl h, fun _ h => .inl h, E.os, E.tape, E.output⟩
      refine ⟨μ, S, E1, ⟨fun q B hB hal => ?_, I.inj, I.sep, fun b hb => Nat.lt_of_lt_of_le (I.lt b hb) E.size, I.powExt E1⟩, plain_rel hpl h4⟩
      obtain ⟨l, k1, k2⟩ := I.rel q B hB hal
      exact ⟨l, k1, k2.ext E1 I fun b hb => hall b (I.blockLt ⟨B, hB, hal⟩ k1 hb)⟩
    · split at h <;> try cases h
      rename_i hk hbel
      obtain ⟨E0, I1⟩ := kills_EI (ns := ns) I
      have H : Handed (memU (deads ns) mem) [] [] := ⟨List.nodup_nil, rfl, fun j r h => by simp at h, fun B hB => by simp at hB⟩
      have hmu : muC [] μ = fun _ => none := by funext j; simp [muC]
      have K : Back (memU (deads ns) mem) [] base _ := ⟨List.nodup_nil, fun r hr => by simp at hr, Nat.zero_le _, fun j hj1 hj2 => by
        obtain ⟨B, hB⟩ := backs_mem (seen := []) (base := base) hj2
        rw [backName_new hj1] at hB
        have hno : base + (j - ([] : List Nat).length) ∉ ns := fun hmem => by
          have := allBelow_lt hbel _ hmem
          omega
        rcases memU_deads (mem := mem) ns (base + (j - ([] : List Nat).length)) with ⟨h1, _⟩ | ⟨_, h2⟩
        · exact absurd h1 hno
        · rw [h2]
          exact (hF _ _ (List.mem_append_left _ hB)).1 (by omega)⟩
      have hac := hsound _ _ _ _ _ hc' hp w (Froz μ mem S ns) (fun _ => none) _ I0 hrel
      refine Calls.runs hfn1 hfn2 hfn3 ho cs hfn rfl ?_
      rw [hxs]
      refine hac.mono fun e w' ⟨x, μ', S', h1, h2, h3, h4⟩ => ⟨x, h1, ?_⟩
      obtain ⟨k1, k2, k3⟩ := call_back (μ := μ) (blks := []) I1 H K (by rw [hmu]; exact h2) h3 h4
      exact ⟨_, S', by rw [memU_append]; exact E0.trans k1, by rw [memU_append]; exact k2, by rw [memU_append]; exact k3⟩

theorem op_call {o : Oper} {a : Act} {callee : Operand} {args : Array Operand} {ts : Array TypeId} {f base : Nat} {caps : List Nat} {vs : List V} {ml : Mem} {p : Option Prop} {v : V} {m : Mem} (hΓ : Sound P tab Γ) (hm : mem = look ml)
    (ho : o.op = .call { callee := .value callee, args := args, argTypes := ts }) (I : Inv tab μ mem w S) (hf : RelV tab μ mem w S (.one (.fn f caps)) (a.eval callee)) (ha : RelVs tab μ mem w S vs (args.toList.map a.eval))
    {names : List Nat} (h : callX Γ tab base (memAt ml names) f (vs ++ caps.map fun r => .one (.ptr r 0)) = some (p, v, m)) (hp : under p True) (hF : FreshP base mem names m) :
    Runs P o a w (After tab μ mem w S m v) := by
  obtain ⟨_, hcap, cs, hfn, hsz, hcs⟩ := hf
  refine op_callG hΓ hm ho I hfn (relVs_caps (by simpa using hsz) fun i r hi => ?_) ha h hp hF
  obtain ⟨y, y1, y2, y3⟩ := hcs i r hi
  exact ⟨y, by simpa using y1, y2, hcap r (List.mem_of_getElem? hi), y3⟩

theorem op_callW {o : Oper} {a : Act} {callee x : Operand} {ts : Array TypeId} {d : Option Int} {n : Int} (hT : TabOk P tab) (hw : tab.w = true)
    (ho : o.op = .call { callee := .value callee, args := #[x], argTypes := ts }) (I : Inv tab μ mem w S) (hf : RelV tab μ mem w S (.one (.dat .fnw d)) (a.eval callee)) (hx : RelV tab μ mem w S (.one (.dat .int n)) (a.eval x)) :
    Runs P o a w (After tab μ mem w S [] (.one (.dat .int (fnwApp d n)))) := by
  obtain ⟨⟨g0, p1, p2, p3⟩, ⟨g1, q1, q2, q3⟩, r0, r1⟩ := hT.fnw hw
  have ex := rel_int hx
  obtain ⟨_, hf⟩ := hf
  generalize hv : a.eval callee = v at hf
  cases hf with
  | fnw0 =>
    refine Calls.runs p1 p2 p3 ho #[] hv rfl ?_
    rw [show #[x].map a.eval ++ #[] = #[.int .i64 n] by simp [ex]]
    exact (r0 n w).mono fun e w' ⟨h1, h2⟩ => ⟨_, h1, by rw [h2]; exact after_same I (mk_int _)⟩
  | fnw1 m b cur e fz hS hb hc =>
    refine Calls.runs q1 q2 q3 ho _ hv rfl ?_
    rw [show #[x].map a.eval ++ #[Value.pointer (some (at0 b 0))] = #[.int .i64 n, .pointer (some (at0 b 0))] by simp [ex]]
    exact (r1 n m b w (cell?_at hb hc)).mono fun e w' ⟨h1, h2⟩ => ⟨_, h1, by rw [h2]; exact after_same I (mk_int _)⟩
end
end Vm
end Go.Proofs.YtlbppjmekiemiacDoor


/- The executor on data: one operation, whichever it is. No condition. -/
namespace Go.Proofs.YtlbppjmekiemiacDoor
namespace Vm
section
variable {P : Program} {tab : Tab} {Γ : Ctx} {μ μ' : Mu} {mem mem' : MemF} {w w' : World} {S S' : Nat → Prop}

theorem sees_memAt {ml : Mem} {names : List Nat} (hm : mem = look ml) : Sees (memAt ml names) mem := fun r B h hal => by
  subst hm
  obtain ⟨j, hj⟩ := get_of_look h
  simp only [memAt, List.getElem?_map, Option.map_eq_some_iff, Prod.mk.injEq] at hj
  obtain ⟨q, _, rfl, rfl⟩ := hj
  cases hq : look ml q with
  | none => rw [hq] at hal; exact hal.elim
  | some D => rfl

theorem pairUp_snd : ∀ (ts : List Nat) (os : List Operand), (pairUp ts os).map (·.2) = os
  | t :: ts, o :: os => by simp [pairUp, pairUp_snd ts os]
  | [], o :: os => by simp [pairUp, pairUp_snd [] os]
  | [], [] => rfl
  | _ :: _, [] => rfl

theorem pairUp_eval (a : Act) (ts : List Nat) (os : List Operand) : (pairUp ts os).map (fun p => a.eval p.2) = os.map a.eval := by
  have := congrArg (List.map a.eval) (pairUp_snd ts os)
  rw [← this, List.map_map]; rfl

theorem ptr_ad {r o : Nat} {cs : List C} {x : Value} {lm : Mem} (hs : Sees lm mem) (I : Inv tab μ mem w S) (h : look lm r = some (.box cs)) (hx : RelV tab μ mem w S (.one (.ptr r o)) x) :
    ∃ b k, x = .pointer (some (at0 b k)) := by
  obtain ⟨b, vs, e, h1, _⟩ := sees_box_ptr hs I h hx
  exact ⟨b, o, h1⟩

theorem optr_ad {r i k : Nat} {t : Ty} {l : List t.den} {x : Value} {lm : Mem} (hs : Sees lm mem) (I : Inv tab μ mem w S) (h : look lm r = some (.arr t l)) (hx : RelV tab μ mem w S (.one (.optr r i k)) x) :
    ∃ b k, x = .pointer (some (at0 b k)) := by
  obtain ⟨b, cap, cur, e, h1, _⟩ := sees_arr_ptr hs I h hx
  exact ⟨b, _, h1⟩

theorem eptr_ad {t : Ty} {l : List t.den} {i k : Nat} {x : Value} (hx : RelV tab μ mem w S (.one (.eptr t l i k)) x) : ∃ b k, x = .pointer (some (at0 b k)) := by
  obtain ⟨_, b, off, _, h1⟩ := hx
  exact ⟨b, _, h1⟩

theorem ptrsOf_spec : ∀ {vs : List V} {rs : List Nat} {ops : List Operand} {a : Act}, ptrsOf vs = some rs → RelVs tab μ mem w S vs (ops.map a.eval) →
    ops.length = rs.length ∧ ∀ (i r : Nat), rs[i]? = some r → ∃ x, ops[i]? = some x ∧ RelV tab μ mem w S (.one (.ptr r 0)) (a.eval x)
  | [], rs, [], a, h, hv => by simp [ptrsOf] at h; subst h; simp
  | [], rs, _ :: _, a, h, hv => hv.elim
  | v :: vs, rs, [], a, h, hv => hv.elim
  | v :: vs, rs, x :: ops, a, h, hv => by
    unfold ptrsOf at h
    split at h <;> try cases h
    · rename_i he; cases he
    · rename_i r rest he
      cases he
      split at h <;> try cases h
      rename_i rs' hr
      obtain ⟨h1, h2⟩ := ptrsOf_spec hr hv.2
      refine ⟨by simp [h1], fun i q hq => ?_⟩
      cases i with
      | zero => simp at hq; subst hq; exact ⟨x, rfl, hv.1⟩
      | succ i => simp at hq ⊢; exact h2 i q hq

theorem sameOp_eq {x y : Operand} (h : sameOp x y = true) : x = y := by
  cases x <;> cases y <;> simp [sameOp] at h
  subst h; rfl

theorem bind_tyAt {ts : List Nat} {ti : TI} (h : (ts.head?).bind (tyAt tab) = some ti) : ∃ T, ts.head? = some T ∧ tyAt tab T = some ti := by
  cases ts with
  | nil => cases h
  | cons T ts => exact ⟨T, rfl, h⟩

theorem elem_isSlice {ti : TI} {t : Ty} (h : ti.elem = some t) : ti.isSlice t = true := by
  unfold TI.elem at h
  unfold TI.isSlice
  split at h <;> try cases h
  simp

theorem args1 {args : Array Operand} {a : Act} {v : V} (h : RelVs tab μ mem w S [v] (args.toList.map a.eval)) : ∃ x, args = #[x] ∧ RelV tab μ mem w S v (a.eval x) := by
  obtain ⟨l⟩ := args
  cases l with
  | nil => exact h.elim
  | cons x l => cases l with
    | nil => exact ⟨x, rfl, h.1⟩
    | cons y l => exact h.2.elim

theorem args2 {args : Array Operand} {a : Act} {v u : V} (h : RelVs tab μ mem w S [v, u] (args.toList.map a.eval)) : ∃ x y, args = #[x, y] ∧ RelV tab μ mem w S v (a.eval x) ∧ RelV tab μ mem w S u (a.eval y) := by
  obtain ⟨l⟩ := args
  cases l with
  | nil => exact h.elim
  | cons x l => cases l with
    | nil => exact h.2.elim
    | cons y l => cases l with
      | nil => exact ⟨x, y, rfl, h.1, h.2.1⟩
      | cons z l => exact h.2.2.elim

theorem appendX_base {ti : TI} {base bytes : Nat} {lm : Mem} {c d : C} {p : Option Prop} {v : V} {m : Mem} (h : appendX ti base bytes lm c d = some (p, v, m)) : ∃ B, (base, B) ∈ m := by
  unfold appendX at h
  repeat' split at h
  all_goals (try cases h)
  all_goals first
    | exact ⟨_, List.mem_cons_self ..⟩
    | exact ⟨_, List.mem_cons_of_mem _ (List.mem_cons_self ..)⟩

theorem optAt_eval {lo : Option Operand} {vs vs' : List V} {l : Option Int} {a : Act} {xs : List Value} (h : optAt lo vs = some (l, vs')) (hr : RelVs tab μ mem w S vs (lo.toList.map a.eval ++ xs)) :
    lo.map a.eval = iv l ∧ RelVs tab μ mem w S vs' xs := by
  cases lo with
  | none => simp only [optAt] at h; cases h; exact ⟨rfl, hr⟩
  | some op =>
    simp only [optAt] at h
    split at h <;> try cases h
    obtain ⟨h1, h2⟩ := hr
    exact ⟨by simp [iv, rel_int h1], h2⟩

theorem op_bin {o : Oper} {a : Act} {x y : Operand} {op : BinOp} {t t' : TypeId} {u v : V} {p : Option Prop} {z : V} {m : Mem} (hT : TabOk P tab) (ho : o.op = .binOp op t x y t') (I : Inv tab μ mem w S)
    (hx : RelV tab μ mem w S u (a.eval x)) (hy : RelV tab μ mem w S v (a.eval y)) (h : binX tab op t u v = some (p, z, m)) (hp : under p True) :
    Runs P o a w (After tab μ mem w S m z) := by
  have h0 := h
  unfold binX at h
  split at h
  · split at h <;> try cases h
    rename_i hi
    exact op_binInt ho I hx hy hi hp
  · split at h <;> try cases h
    rename_i ht
    simp only [Option.map_eq_some_iff] at ht
    obtain ⟨ti, h1, h2⟩ := ht
    split at h <;> try cases h
    · exact op_binBool hT ho h1 h2 I hx hy (.inl ⟨rfl, rfl⟩)
    · exact op_binBool hT ho h1 h2 I hx hy (.inr ⟨rfl, rfl⟩)
  · split at h <;> try cases h
    exact op_binU64 ho I hx hy
  · exact op_binStr ho I hx hy h0 hp
  · split at h <;> try cases h
    rename_i hm hr hti
    split at h <;> try cases h
    rename_i hq
    split at h <;> try cases h
    · exact op_binAgg hT ho hm hti hq I hx hy hr (.inl ⟨rfl, rfl⟩)
    · exact op_binAgg hT ho hm hti hq I hx hy hr (.inr ⟨rfl, rfl⟩)
  · cases h

theorem op_binErr {o : Oper} {a : Act} {x : Operand} {c : Value} {op : BinOp} {t t' : TypeId} {ti : TI} {b : Bool} {v : V} (hT : TabOk P tab) (ho : o.op = .binOp op t x (.const c) t') (ht : tyAt tab t = some ti) (hk : ti.isIface = true) (I : Inv tab μ mem w S)
    (hx : RelV tab μ mem w S (.one (.dat .err b)) (a.eval x)) (hy : RelV tab μ mem w S (.one (.dat .err true)) (a.eval (.const c)))
    (h : (op = .eql ∧ v = .one (.dat .bool b)) ∨ (op = .neq ∧ v = .one (.dat .bool (!b)))) :
    Runs P o a w (After tab μ mem w S [] v) := by
  obtain ⟨ms, hu⟩ : ∃ ms, P.underlying t = some (.interface ms) := by
    have hk2 := (hT.ok t ti ht).kind
    unfold TI.isIface at hk
    split at hk
    · rename_i e; rw [e] at hk2; exact hk2
    · cases hk
  have ey : a.eval (.const c) = .nilIface := by
    obtain ⟨z, hz⟩ : ∃ z, a.eval (.const c) = z := ⟨_, rfl⟩
    rw [hz] at hy ⊢
    have h2 : RepC tab w S (.dat .err true) z := hy.2
    cases h2; rfl
  have ex : (b = true ∧ a.eval x = .nilIface) ∨ (b = false ∧ ∃ te u, a.eval x = .iface te u) := by
    obtain ⟨z, hz⟩ : ∃ z, a.eval x = z := ⟨_, rfl⟩
    rw [hz] at hx ⊢
    have h2 : RepC tab w S (.dat .err b) z := hx.2
    cases h2 with
    | err0 => exact .inl ⟨rfl, rfl⟩
    | err1 te u => exact .inr ⟨rfl, te, u, rfl⟩
  have key0 : ∀ d, (Op.equalIn (d + 1) t .nilIface .nilIface).run P w = .ok true w := fun d => by simp [Op.equalIn, run_underlying hu]
  have key1 : ∀ d te u, (Op.equalIn (d + 1) t (.iface te u) .nilIface).run P w = .ok false w := fun d te u => by simp [Op.equalIn, run_underlying hu]
  have eq : (Op.equal t (a.eval x) .nilIface).run P w = .ok b w := by
    rcases ex with ⟨e1, e2⟩ | ⟨e1, te, u, e2⟩
    · rw [e1, e2]; exact key0 9999
    · rw [e1, e2]; exact key1 9999 te u
  have gd : (eqGuard op t x (.const c) (a.eval x) .nilIface).run P w = .ok () w := by
    unfold eqGuard
    rcases ex with ⟨_, e2⟩ | ⟨_, te, u, e2⟩ <;> rw [e2] <;> cases op <;> cases x <;> rfl
  have fin : ∀ z : Value, RelV tab μ mem w S v z → (binOp op t (a.eval x) .nilIface).run P w = .ok z w → Runs P o a w (After tab μ mem w S [] v) := fun z hz hr => by
    refine runs_of (s := do eqGuard op t x (.const c) (a.eval x) (a.eval (.const c)); binOp op t (a.eval x) (a.eval (.const c))) (x := z) (w' := w) (by simp only [execOp, ho]) ?_ (after_same I hz)
    rw [ey, Sem.run_bind, gd]
    exact hr
  rcases h with ⟨rfl, rfl⟩ | ⟨rfl, rfl⟩
  · refine fin (.bool b) (mk_bool _) ?_
    have : binOp .eql t (a.eval x) .nilIface = (do pure (.bool (← Op.equal t (a.eval x) .nilIface)) : Sem Value) := by
      rcases ex with ⟨_, e2⟩ | ⟨_, te, u, e2⟩ <;> rw [e2] <;> rfl
    rw [this, Sem.run_bind, eq]
    rfl
  · refine fin (.bool (!b)) (mk_bool _) ?_
    have : binOp .neq t (a.eval x) .nilIface = (do pure (.bool (!(← Op.equal t (a.eval x) .nilIface))) : Sem Value) := by
      rcases ex with ⟨_, e2⟩ | ⟨_, te, u, e2⟩ <;> rw [e2] <;> rfl
    rw [this, Sem.run_bind, eq]
    rfl
theorem op_X {o : Oper} {a : Act} {base : Nat} {vs : List V} {ml : Mem} {names : List Nat} {p : Option Prop} {v : V} {m : Mem} (hT : TabOk P tab) (hΓ : Sound P tab Γ) (hm : mem = look ml)
    (I : Inv tab μ mem w S) (hv : RelVs tab μ mem w S vs ((operands o).map fun p => a.eval p.2)) (h : opX Γ tab base o vs (memAt ml names) = some (p, v, m)) (hp : under p True) (hF : FreshP base mem names m) :
    Runs P o a w (After tab μ mem w S m v) := by
  have hs : Sees (memAt ml names) mem := sees_memAt hm
  have hbase : ∀ B, (base, B) ∈ m → mem base = none := fun B hB => (hF _ _ hB).1 (Nat.le_refl _)
  unfold opX at h
  split at h
  all_goals (rename_i ho; try simp only [operands, ho] at hv)
  · cases h; exact op_move (.inl ho) I hv.1
  · cases h; exact op_move (.inr ho) I hv.1
  · rename_i c u1 u2
    cases h
    cases c with
    | true => exact op_pick (b := true) ho I hv.1 hv.2.1 hv.2.2.1
    | false => exact op_pick (b := false) ho I hv.1 hv.2.1 hv.2.2.1
  · split at h <;> try cases h
    rename_i ht
    exact op_alloc hT ho ht I (hbase _ (List.mem_singleton.2 rfl))
  · split at h <;> try cases h
    rename_i ht hc
    split at h <;> try cases h
    exact op_box ho hv.1 hc I (hbase _ (List.mem_singleton.2 rfl))
  · split at h <;> try cases h
    rename_i ht
    split at h <;> try cases h
    rename_i hk
    split at h <;> try cases h
    rename_i hf
    split at h <;> try cases h
    rename_i hpl
    exact op_build hT ho ht hk I (by simpa [List.map_map, Function.comp_def] using hv) hf hpl
  · split at h <;> try cases h
    rename_i ht
    split at h <;> try cases h
    rename_i hk
    split at h <;> try cases h
    rename_i hc he
    split at h <;> try cases h
    rename_i hmb
    split at hc <;> try cases hc
    rename_i hn
    refine op_buildSlice hT ho ht (elem_isSlice hk) I hs (by simpa [List.map_map, Function.comp_def] using hv) he (Nat.le_of_ble_eq_true hn) ?_ (hbase _ (List.mem_cons_self ..)) (memb_no hmb)
    split at hc
    · rename_i hq
      exact .inl (Nat.eq_of_beq_eq_true hq).symm
    · exact .inr hc
  · split at h <;> try cases h
    rename_i ht
    exact op_load hT ho ht I hs hv.1 h hp
  · split at h <;> try cases h
    rename_i ht
    exact op_store hT ho ht I hs hv.1 hv.2.1 h hp
  · split at h <;> try cases h
    rename_i hb
    obtain ⟨b, k, hk⟩ := ptr_ad hs I hb hv.1
    exact op_nilCheck ho I hv.1 ⟨_, hk⟩
  · split at h <;> try cases h
    rename_i hb
    obtain ⟨b, k, hk⟩ := optr_ad hs I hb hv.1
    exact op_nilCheck ho I hv.1 ⟨_, hk⟩
  · cases h
    obtain ⟨b, k, hk⟩ := eptr_ad hv.1
    exact op_nilCheck ho I hv.1 ⟨_, hk⟩
  · cases h
    exact op_nilCheck_fn ho I hv.1
  · split at h <;> try cases h
    all_goals
      rename_i h1
      simp only [Option.map_eq_some_iff] at h1
      obtain ⟨ti, h3, h4⟩ := h1
    · exact op_binErr hT ho h3 h4 I hv.1 hv.2.1 (.inl ⟨rfl, rfl⟩)
    · exact op_binErr hT ho h3 h4 I hv.1 hv.2.1 (.inr ⟨rfl, rfl⟩)
  · exact op_bin hT ho I hv.1 hv.2.1 h hp
  · cases h; exact op_not ho I hv.1
  · cases h; exact op_neg ho I hv.1
  · split at h <;> try cases h
    · rename_i h1 h2
      simp only [Option.map_eq_some_iff] at h1 h2
      obtain ⟨ti, h3, h4⟩ := h1
      obtain ⟨tj, h5, h6⟩ := h2
      exact op_convert hT ho h3 h4 h5 h6 I hv.1
    · rename_i h1 _
      split at h <;> try cases h
      rename_i h2
      simp only [Option.map_eq_some_iff] at h1 h2
      obtain ⟨ti, h3, h4⟩ := h1
      obtain ⟨tj, h5, h6⟩ := h2
      exact op_convU hT ho h3 h4 h5 h6 I hv.1
  · split at h <;> try cases h
    rename_i h1 h2
    simp only [Option.map_eq_some_iff] at h1 h2
    obtain ⟨ti, h3, h4⟩ := h1
    obtain ⟨tj, h5, h6⟩ := h2
    exact op_convI hT ho h3 h4 h5 h6 I hv.1
  · split at h <;> try cases h
    rename_i hfs hr
    rename_i fs cs _ _ _
    have hfs' : fs = #[] := Array.toList_eq_nil_iff.1 hfs
    subst hfs'
    obtain ⟨h1, h2⟩ := ptrsOf_spec (ops := cs.toList) hr (by simpa [Op.operands, List.map_map, Function.comp_def] using hv)
    exact op_makeFunc ho rfl I (by simpa using h1) (fun i r hr => by simpa using h2 i r hr)
  · split at h <;> try cases h
    rename_i hse
    split at h <;> try cases h
    rename_i ht
    split at h <;> try cases h
    rename_i hk
    split at h <;> try cases h
    rename_i hf
    exact op_makeSlice hT ho (by rw [sameOp_eq hse]) ht (elem_isSlice hk) hf I hv.1 hp.1.1 hp.1.2.1 hp.1.2.2 (hbase _ (List.mem_singleton.2 rfl))
  · split at h <;> try cases h
    rename_i ht hl
    split at h <;> try cases h
    rename_i hh
    split at h <;> try cases h
    rename_i hmx
    simp only [Op.operands, Array.toList_append, List.map_append, List.map_map, List.append_assoc, List.cons_append, List.nil_append, Option.toList_toArray, List.map_cons] at hv
    have hv1 := hv.1
    have hv2 := hv.2
    have e : ∀ l : List Operand, (l.map ((fun p : Nat × Operand => a.eval p.2) ∘ fun x => (0, x))) = l.map a.eval := fun l => rfl
    simp only [e] at hv2
    obtain ⟨e1, hv3⟩ := optAt_eval hl hv2
    obtain ⟨e2, hv4⟩ := optAt_eval hh hv3
    obtain ⟨e3, hv5⟩ := optAt_eval (xs := []) hmx (by simpa using hv4)
    exact op_slice hT ho ht I hs hv1 e1 e2 e3 h hp
  · split at h <;> try cases h
    rename_i ht
    split at h <;> try cases h
    rename_i hf
    split at hf <;> try cases hf
    rename_i hk
    split at h <;> try cases h
    · split at h <;> try cases h
      rename_i hb
      exact op_fieldAddr hT ho ht hk hf I hv.1 (.inl ⟨_, _, rfl, rfl⟩) (ptr_ad hs I hb hv.1)
    · split at h <;> try cases h
      rename_i hb
      exact op_fieldAddr hT ho ht hk hf I hv.1 (.inr (.inl ⟨_, _, _, rfl, rfl⟩)) (optr_ad hs I hb hv.1)
    · exact op_fieldAddr hT ho ht hk hf I hv.1 (.inr (.inr ⟨_, _, _, _, rfl, rfl⟩)) (eptr_ad hv.1)
  · split at h <;> try cases h
    rename_i ht
    exact op_indexAddr hT ho ht I hs hv.1 hv.2.1 h hp
  · split at h <;> try cases h
    rename_i ht
    split at h <;> try cases h
    rename_i hk
    split at h <;> try cases h
    rename_i h2 h3
    exact op_index hT ho ht hk I hv.1 hv.2.1 hp.1.1 hp.1.2 (Nat.le_of_ble_eq_true h2) (Nat.le_of_ble_eq_true h3)
  · split at h <;> try cases h
    rename_i hm2 hti hc
    split at h <;> try cases h
    rename_i hq
    exact op_field hT ho hm2 hti hq hc I hv.1
  · split at h <;> try cases h
    rename_i hk
    exact op_makeMap ho I (hbase _ (List.mem_singleton.2 rfl))
  · split at h <;> try cases h
    rename_i hk hks
    exact op_mapUpdate hT ho hk I hs hv.1 hv.2.1 hv.2.2.1 hks
  · split at h <;> try cases h
    rename_i hk hks
    exact op_lookup hT ho hk I hs hv.1 hv.2.1 hks
  · split at h <;> try cases h
    rename_i hu
    exact op_extract ho I hv.1 hu
  · split at h <;> try cases h
    rename_i ht
    rw [pairUp_eval] at hv
    obtain ⟨x, rfl, hx⟩ := args1 hv
    obtain ⟨T, h1, h2⟩ := bind_tyAt ht
    exact op_len hT ho h1 h2 I hs hx h
  · split at h <;> try cases h
    rename_i hts
    split at h <;> try cases h
    rename_i h1 h2
    split at h <;> try cases h
    rename_i h3
    rw [pairUp_eval] at hv
    obtain ⟨x, y, rfl, hx, hy⟩ := args2 hv
    have hts' := Array.toList_inj.1 (hts.trans (List.toList_toArray (as := [_, _])).symm)
    rw [hts'] at ho
    exact op_append hT ho h1 h2 h3 I hs (by
      obtain ⟨B, hB⟩ := appendX_base h
      exact hbase B hB) hx hy h hp
  · split at h <;> try cases h
    rename_i hts
    split at h <;> try cases h
    rename_i h1
    rw [pairUp_eval] at hv
    obtain ⟨x, y, rfl, hx, hy⟩ := args2 hv
    have hts' := Array.toList_inj.1 (hts.trans (List.toList_toArray (as := [_, _])).symm)
    rw [hts'] at ho
    exact op_copy hT ho h1 I hs hx hy h hp
  · split at h <;> try cases h
    rename_i hts
    split at h <;> try cases h
    rename_i h1
    rw [pairUp_eval] at hv
    obtain ⟨x, rfl, hx⟩ := args1 hv
    have hts' := Array.toList_inj.1 (hts.trans (List.toList_toArray (as := [_])).symm)
    rw [hts'] at ho
    exact op_clear hT ho h1 I hs hx h hp
  · cases h
    rw [pairUp_eval] at hv
    obtain ⟨x, y, rfl, hx, hy⟩ := args2 hv
    exact op_min ho I hx hy
  · cases h
    rw [pairUp_eval] at hv
    obtain ⟨x, y, rfl, hx, hy⟩ := args2 hv
    exact op_max ho I hx hy
  · refine op_call hΓ hm ho I hv.1 ?_ h hp hF
    have := hv.2
    rw [pairUp_eval] at this
    exact this
  · split at h <;> try cases h
    rename_i hw
    have := hv.2
    rw [pairUp_eval] at this
    obtain ⟨x, rfl, hx⟩ := args1 this
    exact op_callW hT hw ho I hv.1 hx
  · cases h
end
end Vm
end Go.Proofs.YtlbppjmekiemiacDoor


/- The executor on data: a state and a frame. No condition. -/
namespace Go.Proofs.YtlbppjmekiemiacDoor
namespace Vm

/-- The frame and the world are as the state says. -/
structure StRel (tab : Tab) (N : Nat) (env : Env) (mem : Mem) (a : Act) (w : World) (μ : Mu) (S : Nat → Prop) : Prop where
  size : a.tmps.size = N
  defers : a.defers = []
  inv : Inv tab μ (look mem) w S
  env : ∀ t v, look env t = some v → RelV tab μ (look mem) w S v (a.eval (.tmp t)) ∧ (v = .one .undef → a.eval (.tmp t) = Go.undef)

def Fresh (n : Nat) (mem : Mem) : Prop := ∀ r, n ≤ r → look mem r = none

section
variable {P : Program} {tab : Tab} {Γ : Ctx} {N : Nat} {μ μ' : Mu} {env env' : Env} {mem mem' : Mem} {a : Act} {w w' : World} {S S' : Nat → Prop}

theorem constC_rel {ty : Nat} {x : Value} {v : V} {mf : MemF} (h : constC tab ty x = some v) : RelV tab μ mf w S v x := by
  unfold constC at h
  split at h
  · cases h; exact mk_int _
  · cases h; exact mk_u64 _
  · cases h; exact mk_bool _
  · cases h; simpa using mk_str (tab := tab) (μ := μ) (mem := mf) (w := w) (S := S) _
  · cases h; exact ⟨rfl, RepC.err0⟩
  · split at h <;> try cases h
    rename_i h1 h2 _
    split at h <;> try cases h
    have e1 := Nat.eq_of_beq_eq_true h1
    have e2 := Nat.eq_of_beq_eq_true h2
    subst e1 e2
    exact ⟨rfl, rfl⟩
  · cases h

theorem StRel.eval (R : StRel tab N env mem a w μ S) {ty : Nat} {o : Operand} {v : V} (h : evalO tab env ty o = some v) : RelV tab μ (look mem) w S v (a.eval o) := by
  cases o with
  | tmp t => exact (R.env t v h).1
  | const x => exact constC_rel h
  | global g => cases h
  | func f =>
    cases h
    exact ⟨rfl, by simp, #[], rfl, rfl, by simp⟩

theorem StRel.evalAll (R : StRel tab N env mem a w μ S) : ∀ {l : List (Nat × Operand)} {vs : List V}, evalAll tab env l = some vs → RelVs tab μ (look mem) w S vs (l.map fun p => a.eval p.2)
  | [], vs, h => by simp [Vm.evalAll] at h; subst h; trivial
  | (ty, o) :: l, vs, h => by
    simp only [Vm.evalAll] at h
    split at h <;> try cases h
    rename_i hv
    split at h <;> try cases h
    rename_i hvs
    exact ⟨R.eval hv, R.evalAll hvs⟩

theorem freshIn_spec {base : Nat} {names : List Nat} : ∀ {m : Mem}, freshIn base mem names m = true →
    FreshP base (look mem) names m ∧ ∀ r B, (r, B) ∈ m → look mem r = none → r < base + 8
  | [], _ => ⟨fun r B h => by simp at h, fun r B h => by simp at h⟩
  | (q, D) :: m, h => by
    simp only [freshIn] at h
    split at h
    · rename_i hq
      split at h <;> try cases h
      rename_i h8 hn
      obtain ⟨i1, i2⟩ := freshIn_spec h
      have hle : base ≤ q := Nat.le_of_ble_eq_true hq
      refine ⟨fun r B hr => ?_, fun r B hr => ?_⟩
      · rcases List.mem_cons.1 hr with e | hr
        · cases e; exact ⟨fun _ => hn, fun hlt => absurd hlt (by omega)⟩
        · exact i1 r B hr
      · rcases List.mem_cons.1 hr with e | hr
        · cases e
          intro _
          have : ¬ base + 8 ≤ q := fun hh => by rw [Nat.ble_eq_true_of_le hh] at h8; cases h8
          omega
        · exact i2 r B hr
    · rename_i hq
      split at h <;> try cases h
      rename_i hmem
      obtain ⟨i1, i2⟩ := freshIn_spec h
      have hlt : ¬ base ≤ q := fun hh => by rw [Nat.ble_eq_true_of_le hh] at hq; cases hq
      refine ⟨fun r B hr => ?_, fun r B hr => ?_⟩
      · rcases List.mem_cons.1 hr with e | hr
        · cases e; exact ⟨fun hh => absurd hh hlt, fun _ => (memb_iff _ _).1 hmem⟩
        · exact i1 r B hr
      · rcases List.mem_cons.1 hr with e | hr
        · cases e; intro _; omega
        · exact i2 r B hr

theorem look_memU (m mem : Mem) : memU m (look mem) = look (m ++ mem) := by
  funext r
  simp only [memU, look_append]

theorem eval_put_self {d : Nat} {x : Value} (h : d < a.tmps.size) : (a.put (some d) x).eval (.tmp d) = x := by
  simp [Act.put, Act.eval, h]

theorem eval_put_ne {d t : Nat} {x : Value} (h : t ≠ d) : (a.put (some d) x).eval (.tmp t) = a.eval (.tmp t) := by
  simp [Act.put, Act.eval, Array.getD_eq_getD_getElem?, Ne.symm h]

def putE (d : Option Tmp) (v : V) (env : Env) : Env := match d with | some t => (t, v) :: env | none => env

/-- Nothing of the frame's changes but one place. -/
theorem StRel.put (R : StRel tab N env mem a w μ S) (E : Ext μ (look mem) w S μ' (look mem') w' S') (I : Inv tab μ' (look mem') w' S') {d : Option Tmp} {v : V} {x : Value}
    (hv : RelV tab μ' (look mem') w' S' v x) (hu : d ≠ none → v = .one .undef → x = Go.undef) (hd : ∀ t, d = some t → t < N) :
    StRel tab N (putE d v env) mem' (a.put d x) w' μ' S' := by
  have hold : ∀ t u, look env t = some u → RelV tab μ' (look mem') w' S' u (a.eval (.tmp t)) := fun t u h => relV_ext E R.inv (R.env t u h).1
  refine ⟨?_, ?_, I, ?_⟩
  · cases d <;> simp [Act.put, R.size]
  · cases d <;> simp [Act.put, R.defers]
  · intro t u h
    cases d with
    | none => exact ⟨hold t u h, (R.env t u h).2⟩
    | some d =>
      by_cases e : t = d
      · subst e
        simp only [putE, look, Nat.beq_refl] at h
        cases h
        have hx : (a.put (some t) x).eval (.tmp t) = x := eval_put_self (by rw [R.size]; exact hd t rfl)
        rw [hx]
        exact ⟨hv, hu (by simp)⟩
      · simp only [putE, look, beq_ne e] at h
        rw [eval_put_ne e]
        exact ⟨hold t u h, (R.env t u h).2⟩

/-- One operation, at a state. -/
theorem step_op {o : Oper} {base : Nat} {names : List Nat} {vs : List V} {p : Option Prop} {v : V} {m : Mem} (hT : TabOk P tab) (hΓ : Sound P tab Γ) (R : StRel tab N env mem a w μ S)
    (hev : evalAll tab env (operands o) = some vs) (hX : opX Γ tab base o vs (memAt mem names) = some (p, v, m)) (hp : under p True) (hF : FreshP base (look mem) names m) (hdo : dstOk o.dst v = true) (hd : ∀ t, o.dst = some t → t < N)
    {K : Act → World → Prop} {Q : Exit → Act → World → Prop} (hK : ∀ a' w' μ' S', StRel tab N (putE o.dst v env) (m ++ mem) a' w' μ' S' → Ext μ (look mem) w S μ' (look (m ++ mem)) w' S' → K a' w') :
    o.wp P a w K Q := by
  refine op_X hT hΓ rfl R.inv (R.evalAll hev) hX hp hF K Q fun x w' hx => ?_
  obtain ⟨μ', S', E, I, hv⟩ := hx
  rw [look_memU] at E I hv
  refine hK _ _ μ' S' (R.put E I hv (fun h1 h2 => ?_) hd) E
  subst h2
  cases hdst : o.dst with
  | none => exact absurd hdst h1
  | some t => rw [hdst] at hdo; cases hdo
end
end Vm
end Go.Proofs.YtlbppjmekiemiacDoor


/- The executor on data: a test against nil; an operation as the executor does it. No condition. -/
namespace Go.Proofs.YtlbppjmekiemiacDoor
namespace Vm
section
variable {P : Program} {tab : Tab} {Γ : Ctx} {N : Nat} {μ μ' : Mu} {env env' : Env} {mem mem' : Mem} {a : Act} {w w' : World} {S S' : Nat → Prop}

theorem op_nilTest {o : Oper} {T : Nat} {ti : TI} {t : Ty} {x : Operand} {n m : Nat} {t' : TypeId} {ad : Option Addr} {len cap : Nat} {R : Value → World → Prop} (hT : TabOk P tab)
    (ho : o.op = .binOp .eql T x (.const (.slice none n m)) t') (ht : tyAt tab T = some ti) (hk : ti.elem = some t) (hx : a.eval x = .slice ad len cap) (hR : R (.bool ad.isNone) w) : Runs P o a w R := by
  obtain ⟨e, i, z, hs⟩ := und_slice hT ht (elem_isSlice hk)
  have hu := hs.und
  refine runs_of (s := do eqGuard .eql T x (.const (.slice none n m)) (a.eval x) (.slice none n m); binOp .eql T (a.eval x) (.slice none n m)) (x := .bool ad.isNone) (w' := w) (by simp only [execOp, ho]; rfl) ?_ hR
  rw [hx]
  have he0 : ∀ k, (Op.equalIn (k + 1) T (.slice ad len cap) (.slice none n m)).run P w = .ok ad.isNone w := fun k => by
    cases ad <;> simp [Op.equalIn, run_underlying hu]
  have he : (Op.equal T (.slice ad len cap) (.slice none n m)).run P w = .ok ad.isNone w := he0 9999
  have hg : (eqGuard .eql T x (.const (.slice none n m)) (.slice ad len cap) (.slice none n m)).run P w = .ok () w := by
    simp [eqGuard]
  rw [Sem.run_bind, hg]
  simp [binOp, he]

theorem StRel.look_env (R : StRel tab N env mem a w μ S) (h : ∀ t, look env' t = look env t) : StRel tab N env' mem a w μ S :=
  ⟨R.size, R.defers, R.inv, fun t v hv => R.env t v (h t ▸ hv)⟩

theorem putE_same {d : Nat} {v : V} (h : look env d = some v) (t : Nat) : look (putE (some d) v env) t = look env t := by
  by_cases e : t = d
  · subst e; simp [putE, look, Nat.beq_refl, h]
  · simp [putE, look, beq_ne e]

theorem fresh_upd {base : Nat} {m : Mem} {n : Nat} (h8 : ∀ r B, (r, B) ∈ m → look mem r = none → r < base + 8) (hn : Fresh n mem) (hb : base + 8 ≤ n) : Fresh n (m ++ mem) := by
  intro r hr
  rw [look_append, hn r hr]
  cases hm : look m r with
  | none => rfl
  | some B =>
    obtain ⟨j, hj⟩ := get_of_look hm
    have := h8 r B (List.mem_of_getElem? hj) (hn r hr)
    omega

/-- The machine skips, or goes on. -/
theorem wanted_of {ops : List Oper} {o : Oper} {j d : Nat} {want b : Bool} (hg : o.guard = some (j, want)) (hd : (ops[j]?).bind (·.dst) = some d) (hx : a.eval (.tmp d) = .bool b) :
    Region.wanted o (yielded ops.toArray a.tmps) = (b == want) := by
  have hy : yielded ops.toArray a.tmps j = some b := by
    unfold yielded
    simp only [List.getElem?_toArray, hd, Option.bind_some]
    have h1 : a.tmps[d]? = some (.bool b) := by
      simp only [Act.eval, Array.getD_eq_getD_getElem?] at hx
      cases hq : a.tmps[d]? with
      | none => rw [hq] at hx; cases hx
      | some y => rw [hq] at hx; simp at hx; rw [hx]
    rw [h1]
  simp [Region.wanted, hg, hy]

theorem unwanted_of {ops : List Oper} {o : Oper} {j d : Nat} {want : Bool} (hg : o.guard = some (j, want)) (hd : (ops[j]?).bind (·.dst) = some d) (hx : a.eval (.tmp d) = Go.undef) :
    Region.wanted o (yielded ops.toArray a.tmps) = false := by
  have hy : yielded ops.toArray a.tmps j = none := by
    unfold yielded
    simp only [List.getElem?_toArray, hd, Option.bind_some]
    simp only [Act.eval, Array.getD_eq_getD_getElem?] at hx
    cases hq : a.tmps[d]? with
    | none => rfl
    | some y => rw [hq] at hx; simp at hx; rw [hx]; rfl
  simp [Region.wanted, hg, hy]

/-- What is left out yields nothing. -/
theorem StRel.skip (R : StRel tab N env mem a w μ S) {d : Option Tmp} (hd : ∀ t, d = some t → t < N) : StRel tab N (putE d (.one .undef) env) mem (a.put d Go.undef) w μ S :=
  R.put Ext.refl R.inv trivial (fun _ _ => rfl) hd

def boundOps (N : Nat) : List Oper → Bool
  | [] => true
  | o :: rest => match o.dst with
    | none => boundOps N rest
    | some t => match Nat.ble (t + 1) N with | true => boundOps N rest | false => false

theorem boundOps_spec : ∀ {ops : List Oper}, boundOps N ops = true → ∀ o ∈ ops, ∀ t, o.dst = some t → t < N
  | [], _, o, h => by cases h
  | q :: ops, hb, o, h => by
    intro t ht
    unfold boundOps at hb
    split at hb
    · rename_i hn
      rcases List.mem_cons.1 h with e | h
      · subst e; rw [hn] at ht; cases ht
      · exact boundOps_spec hb o h t ht
    · rename_i hn
      split at hb <;> try cases hb
      rename_i hle
      rcases List.mem_cons.1 h with e | h
      · subst e; rw [hn] at ht; cases ht
        exact Nat.le_of_ble_eq_true hle
      · exact boundOps_spec hb o h t ht
end
end Vm
end Go.Proofs.YtlbppjmekiemiacDoor


/- The executor on data: a list that is written no more. No condition. -/
namespace Go.Proofs.YtlbppjmekiemiacDoor
namespace Vm
section
variable {P : Program} {tab : Tab} {Γ : Ctx} {N : Nat} {μ : Mu} {w : World} {S : Nat → Prop}

/-- What is asked of the blocks is their kind alone. -/
theorem RelC.kinds {m1 m2 : MemF} {c : C} {x : Value} (h : RelC tab μ m1 w S c x) (h0 : ∀ q, m1 q ≠ none → m2 q ≠ none) (h1 : ∀ q cs, m2 q = some (.box cs) → ∃ cs', m1 q = some (.box cs')) (h2 : ∀ q t l, m2 q = some (.arr t l) → ∃ l', m1 q = some (.arr t l')) (h3 : ∀ q ks, m2 q = some (.set ks) → ∃ ks', m1 q = some (.set ks')) :
    RelC tab μ m2 w S c x := by
  cases c with
  | dat t d => exact h
  | nil t => exact h
  | undef => trivial
  | any => trivial
  | eptr t l i k => exact h
  | mp r => exact ⟨h0 r h.1, fun cs hc => by obtain ⟨cs', hc'⟩ := h3 r cs hc; exact h.2 cs' hc'⟩
  | ptr r o => exact ⟨h0 r h.1, fun cs hc => by obtain ⟨cs', hc'⟩ := h1 r cs hc; exact h.2 cs' hc'⟩
  | own r => exact ⟨h0 r h.1, fun t l hc => by obtain ⟨l', hc'⟩ := h2 r t l hc; exact h.2 t l' hc'⟩
  | view r off n => exact ⟨h0 r h.1, fun t l hc => by obtain ⟨l', hc'⟩ := h2 r t l hc; exact h.2 t l' hc'⟩
  | optr r i k => exact ⟨h0 r h.1, fun t l hc => by obtain ⟨l', hc'⟩ := h2 r t l hc; exact h.2 t l' hc'⟩
  | fn f caps =>
    obtain ⟨g0, vs, g1, g2, g3⟩ := h
    refine ⟨fun r hr => h0 r (g0 r hr), vs, g1, g2, fun i r hr => ?_⟩
    obtain ⟨y, y1, y2, y3⟩ := g3 i r hr
    exact ⟨y, y1, y2, fun cs hc => by obtain ⟨cs', hc'⟩ := h1 r cs hc; exact y3 cs' hc'⟩

theorem look_map {f : Blk → Blk} : ∀ (m : Mem) (q : Nat), look (m.map fun p => (p.1, f p.2)) q = (look m q).map f
  | [], q => rfl
  | (k, b) :: m, q => by
    by_cases e : q = k
    · subst e; simp [look, Nat.beq_refl]
    · simp [look, beq_ne e, look_map m q]

theorem look_mapV {f : V → V} : ∀ (m : Env) (q : Nat), look (m.map fun p => (p.1, f p.2)) q = (look m q).map f
  | [], q => rfl
  | (k, b) :: m, q => by
    by_cases e : q = k
    · subst e; simp [look, Nat.beq_refl]
    · simp [look, beq_ne e, look_mapV m q]

theorem frz1_sound {r : Nat} {st : St} {a : Act} {n : Nat} (R : StRel tab N st.env st.mem a w μ S) (hF : Fresh n st.mem) :
    ∃ S', StRel tab N (frz1 r st).env (frz1 r st).mem a w μ S' ∧ Fresh n (frz1 r st).mem ∧ Ext μ (look st.mem) w S μ (look (frz1 r st).mem) w S' ∧ (frz1 r st).base = st.base := by
  unfold frz1
  split
  · rename_i t l hl
    obtain ⟨E, I⟩ := kills_EI (ns := [r]) R.inv
    have hd : memU (deads [r]) (look st.mem) = fun q => if q = r then some .dead else look st.mem q := by
      funext q
      rcases memU_deads (mem := look st.mem) [r] q with ⟨h1, h2⟩ | ⟨h1, h2⟩
      · simp at h1; rw [h2, if_pos h1]
      · simp at h1; rw [h2, if_neg h1]
    have hm : look ((r, Blk.dead) :: st.mem.map fun p => (p.1, p.2.frz r t l)) = fun q => if q = r then some .dead else (look st.mem q).map (Blk.frz r t l) := by
      funext q
      by_cases e : q = r
      · subst e; simp [look, Nat.beq_refl]
      · simp [look, beq_ne e, look_map, e]
    -- one cell
    have cell : ∀ (c : C) (x : Value), x.oneCell' = true ∧ RelC tab μ (look st.mem) w S c x → RelC tab μ (look ((r, Blk.dead) :: st.mem.map fun p => (p.1, p.2.frz r t l))) w (Froz μ (look st.mem) S [r]) (c.frz r t l) x := fun c x hx => by
      have same : ∀ c', RelC tab μ (look st.mem) w S c' x → RelC tab μ (look ((r, Blk.dead) :: st.mem.map fun p => (p.1, p.2.frz r t l))) w (Froz μ (look st.mem) S [r]) c' x := fun c' h => by
        have := h.ext E R.inv
        rw [hd] at this
        rw [hm]
        refine this.kinds (fun q hq => ?_) (fun q cs hq => ?_) (fun q t' l' hq => ?_) (fun q ks hq => ?_)
        · by_cases e : q = r
          · simp [e]
          · simp only [if_neg e] at hq ⊢
            cases hh : look st.mem q with
            | none => exact absurd hh hq
            | some b => simp
        · by_cases e : q = r
          · simp [e] at hq
          · simp only [if_neg e] at hq ⊢
            cases hh : look st.mem q with
            | none => rw [hh] at hq; cases hq
            | some b => cases b with
              | box cs0 => exact ⟨cs0, rfl⟩
              | _ => rw [hh] at hq; cases hq
        · by_cases e : q = r
          · simp [e] at hq
          · simp only [if_neg e] at hq ⊢
            cases hh : look st.mem q with
            | none => rw [hh] at hq; cases hq
            | some b => cases b with
              | arr t0 l0 => rw [hh] at hq; cases hq; exact ⟨_, rfl⟩
              | _ => rw [hh] at hq; cases hq
        · by_cases e : q = r
          · simp [e] at hq
          · simp only [if_neg e] at hq ⊢
            cases hh : look st.mem q with
            | none => rw [hh] at hq; cases hq
            | some b => cases b with
              | set ks0 => exact ⟨_, rfl⟩
              | _ => rw [hh] at hq; cases hq
      cases c with
      | own q =>
        cases hq : Nat.beq q r with
        | true =>
          simp only [C.frz, hq]
          have hq := Nat.eq_of_beq_eq_true hq
          subst hq
          have := toDat_rel (lm := st.mem) (c := .own q) (d := .dat (.list t) l) (ns := [q]) R.inv (fun _ _ h _ => h) hx (by simp [toDat, hl])
          exact RepC.relC this.2
        | false =>
          simp only [C.frz, hq]
          exact same _ hx.2
      | _ => exact same _ hx.2
    refine ⟨Froz μ (look st.mem) S [r], ⟨R.size, R.defers, ⟨fun q B hB ha => ?_, fun q q' hne h1 h2 => ?_, fun q h1 => ?_, I.lt, I.pow⟩, fun u v hv => ?_⟩, fun q hq => ?_, ⟨fun q hq => ?_, fun q B B' h1 h2 => ?_, E.sub, Nat.le_refl _, fun _ _ _ => rfl, E.only, fun b hb => ?_, rfl, rfl, rfl⟩, rfl⟩
    · rw [hm] at hB
      by_cases e : q = r
      · simp [e] at hB; subst hB; exact ha.elim
      · simp only [if_neg e] at hB
        cases hh : look st.mem q with
        | none => rw [hh] at hB; cases hB
        | some B0 =>
          rw [hh] at hB
          simp only [Option.map_some, Option.some.injEq] at hB
          subst hB
          have ha0 : B0.alive := by cases B0 <;> first | trivial | exact ha
          obtain ⟨L, hL, hrel⟩ := R.inv.rel q B0 hh ha0
          refine ⟨L, hL, ?_⟩
          cases B0 with
          | dead => exact ha.elim
          | set ks => cases L <;> exact hrel
          | arr t0 l0 =>
            cases L with
            | bx b => exact hrel
            | ar x =>
              rcases hrel with h | ⟨b, cap, cur, e', g1, g2, g3, g4, g5, g6⟩
              · exact .inl h
              · exact .inr ⟨b, cap, cur, e', g1, g2, g3, g4, g5, fun i j c hi hc => let ⟨y, y1, y2, y3⟩ := g6 i j c hi hc; ⟨y, y1, y2, mono_froz y3⟩⟩
          | box cs =>
            cases L with
            | ar x => exact hrel
            | bx b =>
              obtain ⟨vs, e', g1, g2, g3⟩ := hrel
              refine ⟨vs, e', g1, by simpa using g2, fun i c hc => ?_⟩
              rw [List.getElem?_map] at hc
              cases hci : cs[i]? with
              | none => rw [hci] at hc; cases hc
              | some c0 =>
                rw [hci] at hc
                simp only [Option.map_some, Option.some.injEq] at hc
                subst hc
                obtain ⟨y, y1, y2, y3⟩ := g3 i c0 hci
                exact ⟨y, y1, y2, cell c0 y ⟨y2, y3⟩⟩
    · have back : ∀ z, Live (look ((r, Blk.dead) :: st.mem.map fun p => (p.1, p.2.frz r t l))) z → Live (look st.mem) z := fun z ⟨B, hB, ha⟩ => by
        rw [hm] at hB
        by_cases e : z = r
        · simp [e] at hB; subst hB; exact ha.elim
        · simp only [if_neg e] at hB
          cases hh : look st.mem z with
          | none => rw [hh] at hB; cases hB
          | some B0 =>
            rw [hh] at hB
            simp only [Option.map_some, Option.some.injEq] at hB
            subst hB
            exact ⟨B0, hh, by cases B0 <;> first | trivial | exact ha⟩
      exact R.inv.inj q q' hne (back q h1) (back q' h2)
    · have hq : Live (memU (deads [r]) (look st.mem)) q := by
        obtain ⟨B, hB, ha⟩ := h1
        rw [hm] at hB
        rw [hd]
        by_cases e : q = r
        · simp [e] at hB; subst hB; exact ha.elim
        · simp only [if_neg e] at hB
          cases hh : look st.mem q with
          | none => rw [hh] at hB; cases hB
          | some B0 =>
            rw [hh] at hB
            simp only [Option.map_some, Option.some.injEq] at hB
            subst hB
            exact ⟨B0, by simp [e, hh], by cases B0 <;> first | trivial | exact ha⟩
      exact I.sep q hq
    · rw [look_mapV (f := V.frz r t l)] at hv
      cases hh : look st.env u with
      | none => rw [hh] at hv; cases hv
      | some v0 =>
        rw [hh] at hv
        simp only [Option.map_some, Option.some.injEq] at hv
        subst hv
        obtain ⟨k1, k2⟩ := R.env u v0 hh
        have one : ∀ {c : C} {x : Value}, RelW tab μ (look st.mem) w S (.one c) x → RelW tab μ (look ((r, Blk.dead) :: st.mem.map fun p => (p.1, p.2.frz r t l))) w (Froz μ (look st.mem) S [r]) (.one (c.frz r t l)) x := fun {c x} h => ⟨h.1, cell c x h⟩
        have agg : ∀ {cs : List C} {x : Value}, RelW tab μ (look st.mem) w S (.agg cs) x → RelW tab μ (look ((r, Blk.dead) :: st.mem.map fun p => (p.1, p.2.frz r t l))) w (Froz μ (look st.mem) S [r]) (.agg (cs.map (C.frz r t l))) x := fun {cs x} h => by
          obtain ⟨xs, g1, g2, g3⟩ := h
          refine ⟨xs, g1, by simpa using g2, fun i c hc => ?_⟩
          rw [List.getElem?_map] at hc
          cases hci : cs[i]? with
          | none => rw [hci] at hc; cases hc
          | some c0 =>
            rw [hci] at hc
            simp only [Option.map_some, Option.some.injEq] at hc
            subst hc
            obtain ⟨y, y1, y2, y3⟩ := g3 i c0 hci
            exact ⟨y, y1, y2, cell c0 y ⟨y2, y3⟩⟩
        cases v0 with
        | one c =>
          by_cases hu : c = .undef
          · subst hu; exact ⟨trivial, fun _ => k2 rfl⟩
          · have hw : RelW tab μ (look st.mem) w S (.one c) (a.eval (.tmp u)) := by cases c <;> first | exact absurd rfl hu | exact k1
            have h1 := one hw
            have hne : c.frz r t l ≠ .undef := by
              cases c with
              | own q => cases hq : Nat.beq q r <;> simp [C.frz, hq]
              | undef => exact absurd rfl hu
              | _ => exact fun h => by cases h
            refine ⟨?_, fun h => ?_⟩
            · show RelV tab μ _ w _ (.one (c.frz r t l)) _
              generalize c.frz r t l = c' at h1 hne ⊢
              cases c' <;> first | exact absurd rfl hne | exact h1
            · exact absurd (by injection h) hne
        | agg cs => exact ⟨agg k1, fun h => by cases h⟩
        | tup vs =>
          obtain ⟨xs, g1, g2, g3⟩ := k1
          refine ⟨⟨xs, g1, by simpa using g2, fun i v hv => ?_⟩, fun h => by cases h⟩
          rw [List.getElem?_map] at hv
          cases hvi : vs[i]? with
          | none => rw [hvi] at hv; cases hv
          | some v0 =>
            rw [hvi] at hv
            simp only [Option.map_some, Option.some.injEq] at hv
            obtain ⟨y, y1, y2⟩ := g3 i v0 hvi
            refine ⟨y, y1, ?_⟩
            subst hv
            cases v0 with
            | one c => exact one y2
            | agg cs => exact agg y2
            | tup us => exact y2.elim
    · rw [hm]
      have := hF q hq
      by_cases e : q = r
      · subst e; rw [hl] at this; cases this
      · simp [e, this]
    · rw [hm]
      by_cases e : q = r
      · simp [e]
      · simp only [if_neg e]
        cases hh : look st.mem q with
        | none => exact absurd hh hq
        | some b => simp
    · rw [hm] at h2
      by_cases e : q = r
      · simp [e] at h2; subst h2
        exact ⟨by cases B <;> trivial, fun _ => rfl⟩
      · simp only [if_neg e, h1, Option.map_some, Option.some.injEq] at h2
        subst h2
        exact ⟨by cases B <;> trivial, fun _ => rfl⟩
    · obtain ⟨q, L, ⟨B, hB, ha⟩, h2, h3⟩ := hb
      refine .inl ⟨q, L, ?_, h2, h3⟩
      rw [hm] at hB
      by_cases e : q = r
      · simp [e] at hB; subst hB; exact ha.elim
      · simp only [if_neg e] at hB
        cases hh : look st.mem q with
        | none => rw [hh] at hB; cases hB
        | some B0 =>
          rw [hh] at hB
          simp only [Option.map_some, Option.some.injEq] at hB
          subst hB
          exact ⟨B0, hh, by cases B0 <;> first | trivial | exact ha⟩
  · exact ⟨S, R, hF, Ext.refl, rfl⟩

theorem frzAll_sound {a : Act} {n : Nat} : ∀ (rs : List Nat) {st : St} {S : Nat → Prop}, StRel tab N st.env st.mem a w μ S → Fresh n st.mem →
    ∃ S', StRel tab N (frzAll rs st).env (frzAll rs st).mem a w μ S' ∧ Fresh n (frzAll rs st).mem ∧ Ext μ (look st.mem) w S μ (look (frzAll rs st).mem) w S' ∧ (frzAll rs st).base = st.base
  | [], st, S, R, hF => ⟨S, R, hF, Ext.refl, rfl⟩
  | r :: rs, st, S, R, hF => by
    obtain ⟨S1, R1, F1, E1, b1⟩ := frz1_sound (r := r) R hF
    obtain ⟨S2, R2, F2, E2, b2⟩ := frzAll_sound rs R1 F1
    exact ⟨S2, R2, F2, E1.trans E2, b2.trans b1⟩
end
end Vm
end Go.Proofs.YtlbppjmekiemiacDoor


/- The executor on data: an operation as the executor does it; a region in order. No condition. -/
namespace Go.Proofs.YtlbppjmekiemiacDoor
namespace Vm
section
variable {P : Program} {tab : Tab} {Γ : Ctx} {N : Nat} {μ μ' μ0 : Mu} {env env' : Env} {mem mem' : Mem} {a : Act} {w w' w0 : World} {S S' S0 : Nat → Prop} {mem0 : MemF}

theorem nilTest_sound {o : Oper} {vs : List V} {K : V → Prop} (hT : TabOk P tab) (R : StRel tab N env mem a w μ S) (hn : isNilTest o = true) (hev : evalAll tab env (operandsOf o) = some vs) (h : nilTest vs K) :
    ∃ b : Bool, K (.one (.dat .bool b)) ∧ Runs P o a w fun x w' => x = .bool b ∧ w' = w := by
  unfold isNilTest at hn
  split at hn <;> try cases hn
  rename_i T x n m t' ho
  simp only [operandsOf, ho] at hev
  simp only [evalAll] at hev
  split at hev <;> try cases hev
  rename_i v hv
  split at hev <;> try cases hev
  rename_i us hus
  split at hus <;> try cases hus
  rename_i u hu
  simp only [evalO, constC] at hu
  split at hu <;> try cases hu
  rename_i ti _ _ ht
  split at hu <;> try cases hu
  rename_i t hk
  have hr := R.eval hv
  unfold nilTest at h
  split at h
  · rename_i e
    cases e
    obtain ⟨_, hr⟩ := hr
    generalize hx : a.eval x = y at hr
    cases hr with
    | empty t0 ad cap => exact ⟨ad.isNone, h _ fun _ => rfl, op_nilTest hT ho ht hk hx ⟨rfl, rfl⟩⟩
    | list t0 l b off cap cs hS hcap hc hr => exact ⟨false, h _ (fun e => by cases e), op_nilTest hT ho ht hk hx ⟨rfl, rfl⟩⟩
  · rename_i e
    cases e
    obtain ⟨_, hr⟩ := hr
    exact ⟨true, h, op_nilTest hT ho ht hk hr ⟨rfl, rfl⟩⟩
  · exact h.elim

theorem operandsOf_eq {o : Oper} (h : isNilTest o = false) : operandsOf o = operands o := by
  unfold operandsOf
  split
  · rename_i ho
    simp [isNilTest, ho] at h
  · rfl

theorem under_iff {p : Option Prop} {q : Prop} : under p q ↔ under p True ∧ q := by
  cases p <;> simp [under]

theorem doOp_sound {o : Oper} {i : Nat} {tr : List Tr} {st : St} {K : List Tr → Kont} {KK : Act → World → Prop} {Q : Exit → Act → World → Prop} (hT : TabOk P tab) (hΓ : Sound P tab Γ)
    (h : doOp Γ tab o i tr st K) (R : StRel tab N st.env st.mem a w μ S) (hFr : Fresh (st.base + 8 * i) st.mem) (hd : ∀ t, o.dst = some t → t < N)
    (hK : ∀ tr' st' a' w' μ' S', st'.base = st.base → StRel tab N st'.env st'.mem a' w' μ' S' → Fresh (st.base + 8 * (i + 1)) st'.mem → Ext μ (look st.mem) w S μ' (look st'.mem) w' S' → K tr' st' → KK a' w') :
    o.wp P a w KK Q := by
  unfold doOp at h
  split at h
  · exact h.elim
  rename_i vs hev
  split at h
  · rename_i hn
    obtain ⟨b, hb, hr⟩ := nilTest_sound hT R hn hev h
    refine hr _ _ fun x w' hx => ?_
    obtain ⟨rfl, rfl⟩ := hx
    have R' := R.put (d := o.dst) (v := .one (.dat .bool b)) Ext.refl R.inv (mk_bool b) (fun _ e => by cases e) hd
    refine hK tr (st.put o.dst (.one (.dat .bool b))) _ _ μ S ?_ ?_ ?_ ?_ hb
    · cases o.dst <;> rfl
    · cases hdst : o.dst <;> rw [hdst] at R' <;> exact R'
    · cases o.dst <;> exact fun r hr => hFr r (by omega)
    · cases o.dst <;> exact Ext.refl
  · rename_i hn
    rw [operandsOf_eq hn] at hev
    simp only at h
    split at h
    · exact h.elim
    rename_i p v m hX
    split at h
    · rename_i hfr hdo
      obtain ⟨hp, hk⟩ := under_iff.1 h
      obtain ⟨hF, h8⟩ := freshIn_spec hfr
      refine step_op hT hΓ R hev hX hp hF hdo hd fun a' w' μ' S' R' E => ?_
      refine hK _ _ _ _ μ' S' ?_ ?_ ?_ ?_ hk
      · cases o.dst <;> rfl
      · cases hdst : o.dst <;> rw [hdst] at R' <;> exact R'
      · have := fresh_upd (n := st.base + 8 * (i + 1)) h8 (fun r hr => hFr r (by omega)) (by omega)
        cases o.dst <;> exact this
      · cases o.dst <;> exact E
    · exact h.elim

theorem put_st {st : St} {d : Option Tmp} {v : V} : st.put d v = { st with env := putE d v st.env } := by cases d <;> rfl

/-- The guard's place, once its truth is known. -/
theorem StRel.known (R : StRel tab N env mem a w μ S) {d : Nat} {b : Bool} (h : look env d = some (.one (.dat .bool b))) : a.eval (.tmp d) = .bool b ∧ StRel tab N (putE (some d) (.one (.dat .bool b)) env) mem a w μ S :=
  ⟨rel_bool (R.env d _ h).1, R.look_env (putE_same h)⟩

theorem StRel.unknown (R : StRel tab N env mem a w μ S) {d : Nat} (h : look env d = some (.one .undef)) : a.eval (.tmp d) = Go.undef := (R.env d _ h).2 rfl

/-- What an operation of a region in order does, once what it wants is prepared. -/
def execBody (Γ : Ctx) (tab : Tab) (ops : List Oper) (K : Kont) (o : Oper) (rest : List Oper) (i : Nat) (tr : List Tr) (st : St) : Prop :=
    match o.guard with
    | none => doOp Γ tab o i tr st (execOps Γ tab false ops K rest (i + 1))
    | some (j, want) =>
      match (ops[j]?).bind (·.dst) with
      | none => False
      | some d => match look st.env d with
        | some (.one (.dat .bool b)) =>
          br b
            (let st1 := st.put (some d) (.one (.dat .bool true))
             match want with
             | true => doOp Γ tab o i tr st1 (execOps Γ tab false ops K rest (i + 1))
             | false => execOps Γ tab false ops K rest (i + 1) tr (st1.put o.dst (.one .undef)))
            (let st1 := st.put (some d) (.one (.dat .bool false))
             match want with
             | false => doOp Γ tab o i tr st1 (execOps Γ tab false ops K rest (i + 1))
             | true => execOps Γ tab false ops K rest (i + 1) tr (st1.put o.dst (.one .undef)))
        | some (.one .undef) => execOps Γ tab false ops K rest (i + 1) tr (st.put o.dst (.one .undef))
        | _ => False

/-- A region, in order. -/
theorem execOps_sound {ops : List Oper} {Q : Exit → Act → World → Prop} {K : Kont} (hT : TabOk P tab) (hΓ : Sound P tab Γ) (hB : boundOps N ops = true) : ∀ (rest : List Oper) (i : Nat) (tr : List Tr) (st : St) (a : Act) (w : World) (μ : Mu) (S : Nat → Prop),
    ops.drop i = rest → i + rest.length = ops.length → execOps Γ tab false ops K rest i tr st → StRel tab N st.env st.mem a w μ S → Fresh (st.base + 8 * i) st.mem →
    (∀ st' a' w' μ' S', StRel tab N st'.env st'.mem a' w' μ' S' → Fresh st'.base st'.mem → Ext μ (look st.mem) w S μ' (look st'.mem) w' S' → K st' → Q .normal a' w') →
    wpOps P ops.toArray Q (List.range' i rest.length) a w
  | [], i, tr, st, a, w, μ, S, hr, hl, h, R, hFr, hQ => by
    refine hQ { st with base := st.base + 8 * ops.length } a w μ S R ?_ Ext.refl h
    have : i = ops.length := by simpa using hl
    subst this
    exact hFr
  | o :: rest, i, tr, st0, a, w, μ, S0, hr, hl, h, R0, hFr0, hQ0 => by
    obtain ⟨S, st, R, hFr, E0, hb0, h⟩ : ∃ S st, StRel tab N st.env st.mem a w μ S ∧ Fresh (st0.base + 8 * i) st.mem ∧ Ext μ (look st0.mem) w S0 μ (look st.mem) w S ∧ st.base = st0.base ∧ execBody Γ tab ops K o rest i tr st := by
      unfold execOps prepK at h
      simp only at h
      split at h
      · exact ⟨S0, st0, R0, hFr0, Ext.refl, rfl, h⟩
      · rename_i r rs _
        obtain ⟨S, R, hFr, E0, hb0⟩ := frzAll_sound (r :: rs) R0 hFr0
        exact ⟨S, _, R, hFr, E0, hb0, h⟩
    have hQ : ∀ st' a' w' μ' S', StRel tab N st'.env st'.mem a' w' μ' S' → Fresh st'.base st'.mem → Ext μ (look st.mem) w S μ' (look st'.mem) w' S' → K st' → Q .normal a' w' := fun st' a' w' μ' S' g1 g2 g3 g4 => hQ0 st' a' w' μ' S' g1 g2 (E0.trans g3) g4
    unfold execBody at h
    rw [← hb0] at hFr
    have ho : ops[i]? = some o := by
      have := congrArg (fun l => l[0]?) hr
      simpa using this
    have hr' : ops.drop (i + 1) = rest := by
      have := congrArg List.tail hr
      simpa using this
    have hl' : i + 1 + rest.length = ops.length := by simp at hl; omega
    have hd : ∀ t, o.dst = some t → t < N := boundOps_spec hB o (List.mem_of_getElem? ho)
    have next : ∀ (tr' : List Tr) (st' : St) (a' : Act) (w' : World) (μ' : Mu) (S' : Nat → Prop), st'.base = st.base → StRel tab N st'.env st'.mem a' w' μ' S' → Fresh (st.base + 8 * (i + 1)) st'.mem → Ext μ (look st.mem) w S μ' (look st'.mem) w' S' →
        execOps Γ tab false ops K rest (i + 1) tr' st' → wpOps P ops.toArray Q (List.range' (i + 1) rest.length) a' w' := fun tr' st' a' w' μ' S' hb R' hF' E' hk =>
      execOps_sound hT hΓ hB rest (i + 1) tr' st' a' w' μ' S' hr' hl' hk R' (by rw [hb]; exact hF') fun st2 a2 w2 μ2 S2 R2 F2 E2 k2 => hQ st2 a2 w2 μ2 S2 R2 F2 (E'.trans E2) k2
    have skips : ∀ (tr' : List Tr) (st' : St), st'.base = st.base → st'.mem = st.mem → StRel tab N st'.env st'.mem a w μ S → execOps Γ tab false ops K rest (i + 1) tr' (st'.put o.dst (.one .undef)) →
        wpOps P ops.toArray Q (List.range' (i + 1) rest.length) (a.put o.dst Go.undef) w := fun tr' st' hb hm R' hk => by
      refine next tr' _ _ _ μ S ?_ ?_ ?_ ?_ hk
      · rw [put_st]; exact hb
      · rw [put_st]; exact R'.skip hd
      · rw [put_st, hm]; exact fun r hr => hFr r (by omega)
      · rw [put_st, hm]; exact Ext.refl
    have does : ∀ (st' : St), st'.base = st.base → st'.mem = st.mem → StRel tab N st'.env st'.mem a w μ S → doOp Γ tab o i tr st' (execOps Γ tab false ops K rest (i + 1)) →
        o.wp P a w (wpOps P ops.toArray Q (List.range' (i + 1) rest.length)) Q := fun st' hb hm R' hk => by
      refine doOp_sound hT hΓ hk R' (by rw [hb, hm]; exact hFr) hd fun tr2 st2 a2 w2 μ2 S2 b2 R2 F2 E2 k2 => ?_
      exact next tr2 st2 a2 w2 μ2 S2 (b2.trans hb) R2 (by rw [hb] at F2; exact F2) (by rw [hm] at E2; exact E2) k2
    rw [List.length_cons, List.range'_succ, wpOps_cons]
    unfold wpOp
    simp only [List.getElem?_toArray, ho]
    split at h
    · rename_i hg
      have hw : Region.wanted o (yielded ops.toArray a.tmps) = true := by simp [Region.wanted, hg]
      rw [if_pos hw]
      exact .inl (does st rfl rfl R h)
    · rename_i j want hg
      split at h
      · exact h.elim
      rename_i d hd'
      split at h
      · rename_i b hb
        obtain ⟨hx, R1⟩ := R.known hb
        rw [wanted_of hg hd' hx]
        cases b with
        | true =>
          simp only [br] at h
          cases want with
          | true => rw [if_pos (by rfl)]; exact .inl (does (st.put (some d) _) rfl rfl R1 h)
          | false => rw [if_neg (by simp)]; exact skips tr (st.put (some d) _) rfl rfl R1 h
        | false =>
          simp only [br] at h
          cases want with
          | true => rw [if_neg (by simp)]; exact skips tr (st.put (some d) _) rfl rfl R1 h
          | false => rw [if_pos (by rfl)]; exact .inl (does (st.put (some d) _) rfl rfl R1 h)
      · rename_i hb
        rw [unwanted_of hg hd' (R.unknown hb), if_neg (by simp)]
        exact skips tr st rfl rfl R h
      · exact h.elim
end
end Vm
end Go.Proofs.YtlbppjmekiemiacDoor


/- The executor on data: code, from a loop's head to the next. No condition. -/
namespace Go.Proofs.YtlbppjmekiemiacDoor
namespace Vm

theorem forceL_eq {α : Type} : ∀ (l : List Nat) (k : List Nat → α), forceL l k = k l
  | [], _ => rfl
  | 0 :: l, k => by simp only [forceL]; exact forceL_eq l _
  | (m + 1) :: l, k => by simp only [forceL]; exact forceL_eq l _

/-- A loop, at its body's start. -/
def LoopW (P : Program) (b : Code) (Q : Exit → Act → World → Prop) (a : Act) (w : World) : Prop :=
  ∀ (fr : Frame) (k : List Item) (cs : List Frame), ∃ e a' w', Q e a' w' ∧ Arrives P (lone (fr.at a (.code b :: .inLoop b :: k)) cs w) fr k cs e a' w'

section
variable {P : Program} {tab : Tab} {Γ : Ctx} {N k0 : Nat} {a : Act} {w w' : World} {Q : Exit → Act → World → Prop}

theorem loopW_round {b : Code} (h : b.wp P (Exit.then (LoopW P b Q) Q) a w) : LoopW P b Q a w := by
  intro fr k cs
  obtain ⟨e, a₁, w₁, hq, harr⟩ := h fr (.inLoop b :: k) cs
  cases e with
  | normal =>
    obtain ⟨e₂, a₂, w₂, hq₂, harr₂⟩ := hq fr k cs
    exact ⟨e₂, a₂, w₂, hq₂, .of_steps (Steps.trans harr (.one step_inLoop)) harr₂⟩
  | exit id => exact ⟨_, a₁, w₁, hq, .pass (x := .inLoop b) rfl (fun _ _ => .inl (by simp)) harr⟩
  | goto l => exact ⟨_, a₁, w₁, hq, .pass (x := .inLoop b) rfl (fun _ _ => .inl (by simp)) harr⟩
  | ret => exact ⟨_, a₁, w₁, hq, .pass (x := .inLoop b) rfl (fun _ _ => .inl (by simp)) harr⟩
  | panic ch => exact ⟨_, a₁, w₁, hq, .pass (x := .inLoop b) rfl (fun _ _ => .inl (by simp)) harr⟩
  | outgrown => exact ⟨_, a₁, w₁, hq, .pass (x := .inLoop b) rfl (fun _ _ => .inl (by simp)) harr⟩

theorem loopW_wp {b : Code} (h : LoopW P b Q a w) : (Code.loop b).wp P Q a w := fun fr k cs =>
  let ⟨e, a', w', hq, harr⟩ := h fr k cs
  ⟨e, a', w', hq, .of_steps (.one step_loop) harr⟩

/-- What is asked behind what is still to do. -/
def kwp (P : Program) (Q : Exit → Act → World → Prop) : List It → Exit → Act → World → Prop
  | [] => Q
  | .code c :: k => Exit.then (c.wp P (kwp P Q k)) (kwp P Q k)
  | .inBlock id :: k => Exit.inBlock id (kwp P Q k)
  | .inLoop _ b :: k => Exit.then (LoopW P b (kwp P Q k)) (kwp P Q k)

def boundC (N : Nat) : Code → Bool
  | .skip | .exit _ | .ret => true
  | .region _ ops _ => boundOps N ops.toList
  | .seq a b => match boundC N a with | true => boundC N b | false => false
  | .cond _ a b => match boundC N a with | true => boundC N b | false => false
  | .block _ b => boundC N b
  | .loop b => boundC N b
  | _ => false

def boundI (N : Nat) : List It → Bool
  | [] => true
  | .code c :: k => match boundC N c with | true => boundI N k | false => false
  | .inBlock _ :: k => boundI N k
  | .inLoop _ b :: k => match boundC N b with | true => boundI N k | false => false

def exOf : Ex → Exit
  | .normal => .normal
  | .ret => .ret
  | .exit id => .exit id

variable {μ0 : Mu} {mem0 : MemF} {w0 : World} {S0 : Nat → Prop}

def Good (tab : Tab) (N : Nat) (μ0 : Mu) (mem0 : MemF) (w0 : World) (S0 : Nat → Prop) (st : St) (a : Act) (w : World) : Prop :=
  ∃ μ S, StRel tab N st.env st.mem a w μ S ∧ Fresh st.base st.mem ∧ Ext μ0 mem0 w0 S0 μ (look st.mem) w S

/-- A region, as seg needs it. -/
def RegionOk (P : Program) (tab : Tab) (Γ : Ctx) (N : Nat) (μ0 : Mu) (mem0 : MemF) (w0 : World) (S0 : Nat → Prop) : Prop :=
  ∀ (id : Nat) (ops : Array Oper) (draw : Bool) (K : Kont) (Q : Exit → Act → World → Prop) (st : St) (a : Act) (w : World), boundOps N ops.toList = true → execOps Γ tab draw ops.toList K ops.toList 0 [] st → Good tab N μ0 mem0 w0 S0 st a w →
    (∀ st' a' w', Good tab N μ0 mem0 w0 S0 st' a' w' → K st' → Q .normal a' w') → (Code.region id ops draw).wp P Q a w

def CanonOk (tab : Tab) (N k0 : Nat) (μ0 : Mu) (mem0 : MemF) (w0 : World) (S0 : Nat → Prop) : Prop :=
  ∀ (keys : List Nat) (st st' : St) (a : Act) (w : World), canon k0 keys st = some st' → Good tab N μ0 mem0 w0 S0 st a w → Good tab N μ0 mem0 w0 S0 st' a w

theorem kwp_ret : ∀ (k : List It), Q .ret a w → kwp P Q k .ret a w
  | [], h => h
  | .code _ :: k, h => kwp_ret k h
  | .inBlock _ :: k, h => kwp_ret k h
  | .inLoop _ _ :: k, h => kwp_ret k h

theorem seg_sound (hR : RegionOk P tab Γ N μ0 mem0 w0 S0) (hC : CanonOk tab N k0 μ0 mem0 w0 S0) {res : List Nat} {rec : List It → St → Prop} {fin : St → Prop}
    (hrec : ∀ keys b k st a w, rec (.inLoop keys b :: k) st → boundI N (.inLoop keys b :: k) = true → Good tab N μ0 mem0 w0 S0 st a w → LoopW P b (kwp P Q k) a w)
    (hfin : ∀ st a w, Good tab N μ0 mem0 w0 S0 st a w → fin st → Q .normal a w ∧ Q .ret a w) : ∀ (n : Nat) (todo : List It) (ex : Ex) (st : St) (a : Act) (w : World),
    seg Γ tab k0 res rec fin n todo ex st → boundI N todo = true → Good tab N μ0 mem0 w0 S0 st a w → kwp P Q todo (exOf ex) a w
  | 0, todo, ex, st, a, w, h, hb, G => by simp [seg] at h
  | n + 1, todo, .ret, st, a, w, h, hb, G => by simp [seg] at h
  | n + 1, todo, .exit id, st, a, w, h, hb, G => by
    unfold seg at h
    cases todo with
    | nil => exact h.elim
    | cons x k =>
      cases x with
      | code c =>
        simp only [boundI] at hb
        split at hb <;> try cases hb
        exact seg_sound hR hC hrec hfin n k (.exit id) st a w h hb G
      | inLoop keys b =>
        simp only [boundI] at hb
        split at hb <;> try cases hb
        exact seg_sound hR hC hrec hfin n k (.exit id) st a w h hb G
      | inBlock j =>
        simp only [boundI] at hb
        simp only at h
        show Exit.inBlock j (kwp P Q k) (.exit id) a w
        simp only [Exit.inBlock]
        split at h
        · rename_i hj
          rw [if_pos (Nat.eq_of_beq_eq_true hj).symm]
          exact seg_sound hR hC hrec hfin n k .normal st a w h hb G
        · rename_i hj
          rw [if_neg (fun e => by subst e; rw [Nat.beq_refl] at hj; cases hj)]
          exact seg_sound hR hC hrec hfin n k (.exit id) st a w h hb G
  | n + 1, todo, .normal, st, a, w, h, hb, G => by
    unfold seg at h
    cases todo with
    | nil => exact (hfin st a w G h).1
    | cons x k =>
      cases x with
      | inBlock j =>
        simp only [boundI] at hb
        exact seg_sound hR hC hrec hfin n k .normal st a w h hb G
      | inLoop keys b =>
        simp only at h
        unfold onSome at h
        split at h
        · rename_i st' hc
          exact hrec keys b k st' a w h hb (hC keys st st' a w hc G)
        · exact h.elim
      | code c =>
        have hbk : boundC N c = true ∧ boundI N k = true := by
          simp only [boundI] at hb
          split at hb <;> try cases hb
          rename_i hc
          exact ⟨hc, hb⟩
        obtain ⟨hbc, hbk⟩ := hbk
        show c.wp P (kwp P Q k) a w
        cases c with
        | skip => exact wp_skip (seg_sound hR hC hrec hfin n k .normal st a w h hbk G)
        | seq x y =>
          simp only [boundC] at hbc
          split at hbc <;> try cases hbc
          rename_i hx
          have := seg_sound hR hC hrec hfin n (.code x :: .code y :: k) .normal st a w h (by simp [boundI, hx, hbc, hbk]) G
          exact wp_seq this
        | region id ops draw =>
          exact hR id ops draw _ _ st a w hbc h G fun st' a' w' G' k' => seg_sound hR hC hrec hfin n k .normal st' a' w' k' hbk G'
        | cond c x y =>
          simp only [boundC] at hbc
          split at hbc <;> try cases hbc
          rename_i hx
          simp only at h
          split at h
          · rename_i t hev
            obtain ⟨μ, S, R, hF, E⟩ := G
            have hc := rel_bool (R.eval hev)
            refine wp_cond hc ?_
            cases t with
            | true => exact seg_sound hR hC hrec hfin n (.code x :: k) .normal st a w h (by simp [boundI, hx, hbk]) ⟨μ, S, R, hF, E⟩
            | false => exact seg_sound hR hC hrec hfin n (.code y :: k) .normal st a w h (by simp [boundI, hbc, hbk]) ⟨μ, S, R, hF, E⟩
          · exact h.elim
        | block id b =>
          simp only [boundC] at hbc
          have := seg_sound hR hC hrec hfin n (.code b :: .inBlock id :: k) .normal st a w h (by simp [boundI, hbc, hbk]) G
          refine wp_block (wp_mono this fun e a w he => ?_)
          cases e <;> exact he
        | loop b =>
          simp only [forceL_eq] at h
          unfold onSome at h
          split at h
          · rename_i st' hc
            exact loopW_wp (hrec _ b k st' a w h (by simpa [boundI, boundC] using hb) (hC _ st st' a w hc G))
          · exact h.elim
        | exit id => exact wp_exit (seg_sound hR hC hrec hfin n k (.exit id) st a w h hbk G)
        | ret => exact wp_ret (kwp_ret k (hfin st a w G h).2)
        | _ => exact h.elim

theorem run_sound (hR : RegionOk P tab Γ N μ0 mem0 w0 S0) (hC : CanonOk tab N k0 μ0 mem0 w0 S0) {res : List Nat} {fin : St → Prop}
    (hfin : ∀ st a w, Good tab N μ0 mem0 w0 S0 st a w → fin st → Q .normal a w ∧ Q .ret a w) : ∀ (m : Nat),
    (∀ keys b k st a w, run Γ tab k0 res fin m (.inLoop keys b :: k) st → boundI N (.inLoop keys b :: k) = true → Good tab N μ0 mem0 w0 S0 st a w → LoopW P b (kwp P Q k) a w) ∧
    ∀ c st a w, run Γ tab k0 res fin m [.code c] st → boundC N c = true → Good tab N μ0 mem0 w0 S0 st a w → c.wp P Q a w
  | 0 => ⟨fun keys b k st a w h => by simp [run] at h, fun c st a w h => by simp [run] at h⟩
  | m + 1 => by
    obtain ⟨ih, _⟩ := run_sound hR hC hfin m
    refine ⟨fun keys b k st a w h hb G => ?_, fun c st a w h hb G => ?_⟩
    · unfold run at h
      have hb' : boundI N (.code b :: .inLoop keys b :: k) = true := by
        have h2 := hb
        simp only [boundI] at h2
        split at h2 <;> try cases h2
        rename_i hc
        simp [boundI, hc, h2]
      exact loopW_round (seg_sound hR hC ih hfin 4000 (.code b :: .inLoop keys b :: k) .normal st a w h hb' G)
    · unfold run at h
      exact seg_sound hR hC ih hfin 4000 [.code c] .normal st a w h (by simp [boundI, hb]) G
end
end Vm
end Go.Proofs.YtlbppjmekiemiacDoor


/- The executor on data: a loop's head is reached with a state in order. No condition. -/
namespace Go.Proofs.YtlbppjmekiemiacDoor
namespace Vm
section
variable {P : Program} {tab : Tab} {Γ : Ctx} {N k0 : Nat} {a : Act} {w w' : World} {Q : Exit → Act → World → Prop} {μ μ' : Mu} {S S' : Nat → Prop}

theorem rel_own {mf : MemF} {b : Nat} {e : Ty} {x : Value} (hx : x = .slice none 0 0) : RelV tab (muU b (.ar (.slice none 0 0)) μ) (memU [(b, .arr e [])] mf) w S (.one (.own b)) x := by
  subst hx
  refine ⟨rfl, ?_, fun t l _ => muU_eq⟩
  rw [memU_eq]; simp

/-- The frame's places, with names for the nil ones. -/
def NilsOk (tab : Tab) (μ : Mu) (mem : Mem) (w : World) (S : Nat → Prop) (a : Act) (b : Nat) (q : Env × Mem) : Prop :=
  ∃ μ', Ext μ (look mem) w S μ' (look (q.2 ++ mem)) w S ∧ Inv tab μ' (look (q.2 ++ mem)) w S ∧ Fresh (b + q.2.length) (q.2 ++ mem) ∧ (∀ r, r < b → look q.2 r = none) ∧
    ∀ p ∈ q.1, RelV tab μ' (look (q.2 ++ mem)) w S p.2 (a.eval (.tmp p.1)) ∧ (p.2 = .one .undef → a.eval (.tmp p.1) = Go.undef)

theorem ownNils_sound {mem : Mem} (I : Inv tab μ (look mem) w S) : ∀ {env : Env} {b : Nat}, Fresh b mem → (∀ p ∈ env, RelV tab μ (look mem) w S p.2 (a.eval (.tmp p.1)) ∧ (p.2 = .one .undef → a.eval (.tmp p.1) = Go.undef)) →
    NilsOk tab μ mem w S a b (ownNils b env)
  | [], b, hF, h => ⟨μ, Ext.refl, I, hF, fun _ _ => rfl, fun p hp => by cases hp⟩
  | (t, v) :: env, b, hF, h => by
    have hrest : ∀ p ∈ env, RelV tab μ (look mem) w S p.2 (a.eval (.tmp p.1)) ∧ (p.2 = .one .undef → a.eval (.tmp p.1) = Go.undef) := fun p hp => h p (List.mem_cons_of_mem _ hp)
    have keep : ownNils b ((t, v) :: env) = ((t, v) :: (ownNils b env).1, (ownNils b env).2) → NilsOk tab μ mem w S a b (ownNils b ((t, v) :: env)) := fun he => by
      obtain ⟨μ', E, I', F', hlt, hr⟩ := ownNils_sound I hF hrest
      rw [he]
      refine ⟨μ', E, I', F', hlt, fun q hq => ?_⟩
      rcases List.mem_cons.1 hq with rfl | hq
      · have := h (t, v) (List.mem_cons_self ..)
        exact ⟨relV_ext E I this.1, this.2⟩
      · exact hr q hq
    have nils : ∀ e, v = .one (.nil e) → NilsOk tab μ mem w S a b (ownNils b ((t, v) :: env)) := fun e hv => by
      subst hv
      have hF1 : Fresh (b + 1) mem := fun r hr => hF r (by omega)
      obtain ⟨μ', E, I', F', hlt, hr⟩ := ownNils_sound (b := b + 1) I hF1 hrest
      have hb : look ((ownNils (b + 1) env).2 ++ mem) b = none := by
        rw [look_append, hlt b (by omega)]
        exact hF b (Nat.le_refl _)
      obtain ⟨E2, I2⟩ := name_EI (t := e) I' hb
      rw [show memU [(b, .arr e [])] (look ((ownNils (b + 1) env).2 ++ mem)) = look (((b, .arr e []) :: (ownNils (b + 1) env).2) ++ mem) from look_memU _ _] at E2 I2
      have hd : (ownNils b ((t, .one (.nil e)) :: env)) = ((t, .one (.own b)) :: (ownNils (b + 1) env).1, (b, .arr e []) :: (ownNils (b + 1) env).2) := rfl
      rw [hd]
      refine ⟨_, E.trans E2, I2, ?_, ?_, fun q hq => ?_⟩
      · intro r hr'
        simp only [List.length_cons] at hr'
        have hne : r ≠ b := by omega
        show look ((b, _) :: ((ownNils (b + 1) env).2 ++ mem)) r = none
        simp only [look, beq_ne hne]
        exact F' r (by omega)
      · intro r hr'
        have hne : r ≠ b := by omega
        simp only [look, beq_ne hne]
        exact hlt r (by omega)
      · rcases List.mem_cons.1 hq with rfl | hq
        · have := (h (t, .one (.nil e)) (List.mem_cons_self ..)).1
          have h2 := rel_own (tab := tab) (μ := μ') (w := w) (S := S) (mf := look ((ownNils (b + 1) env).2 ++ mem)) (b := b) (e := e) this.2
          rw [show memU [(b, .arr e [])] (look ((ownNils (b + 1) env).2 ++ mem)) = look (((b, .arr e []) :: (ownNils (b + 1) env).2) ++ mem) from look_memU _ _] at h2
          exact ⟨h2, fun hh => by cases hh⟩
        · exact ⟨relV_ext E2 I' (hr q hq).1, (hr q hq).2⟩
    cases v with
    | one c => cases c <;> first | exact keep rfl | exact nils _ rfl
    | agg cs => exact keep rfl
    | tup vs => exact keep rfl
end
end Vm
end Go.Proofs.YtlbppjmekiemiacDoor


/- The executor on data: nil slices in blocks get names. No condition. -/
namespace Go.Proofs.YtlbppjmekiemiacDoor
namespace Vm
section
variable {P : Program} {tab : Tab} {Γ : Ctx} {N k0 : Nat} {a : Act} {w w' : World} {Q : Exit → Act → World → Prop} {μ μ' : Mu} {S S' : Nat → Prop}

def CellOk (tab : Tab) (μ : Mu) (mf : MemF) (w : World) (S : Nat → Prop) (c : C) (o : Option Value) : Prop := ∃ y, o = some y ∧ y.oneCell' = true ∧ RelC tab μ mf w S c y

def NilCOk (tab : Tab) (μ : Mu) (mem : Mem) (w : World) (S : Nat → Prop) (b : Nat) (cs : List C) (q : List C × Mem) : Prop :=
  ∃ μ', Ext μ (look mem) w S μ' (look (q.2 ++ mem)) w S ∧ Inv tab μ' (look (q.2 ++ mem)) w S ∧ (∀ r, look q.2 r ≠ none → b ≤ r ∧ r < b + q.2.length) ∧ q.1.length = cs.length ∧
    ∀ ys : Nat → Option Value, (∀ (i : Nat) c, cs[i]? = some c → CellOk tab μ (look mem) w S c (ys i)) → ∀ (i : Nat) c, q.1[i]? = some c → CellOk tab μ' (look (q.2 ++ mem)) w S c (ys i)

theorem CellOk.ext {mf mf' : MemF} (E : Ext μ mf w S μ' mf' w' S') (I : Inv tab μ mf w S) {c : C} {o : Option Value} (h : CellOk tab μ mf w S c o) : CellOk tab μ' mf' w' S' c o :=
  let ⟨y, h1, h2, h3⟩ := h
  ⟨y, h1, h2, h3.ext E I⟩

theorem ownNilC_sound {mem : Mem} (I : Inv tab μ (look mem) w S) : ∀ {cs : List C} {b : Nat}, (∀ r, b ≤ r → r < b + (ownNilC b cs).2.length → look mem r = none) → NilCOk tab μ mem w S b cs (ownNilC b cs)
  | [], b, hF => ⟨μ, Ext.refl, I, fun r h => absurd rfl h, rfl, fun ys h => h⟩
  | c :: cs, b, hF => by
    have keep : ownNilC b (c :: cs) = (c :: (ownNilC b cs).1, (ownNilC b cs).2) → NilCOk tab μ mem w S b (c :: cs) (ownNilC b (c :: cs)) := fun he => by
      rw [he] at hF ⊢
      obtain ⟨μ', E, I', hlt, hl, hr⟩ := ownNilC_sound I (b := b) hF
      refine ⟨μ', E, I', hlt, by simp [hl], fun ys h i c' hc => ?_⟩
      cases i with
      | zero => simp at hc; subst hc; exact (h 0 _ rfl).ext E I
      | succ i => exact hr (fun j => ys (j + 1)) (fun j c hj => h (j + 1) c hj) i c' hc
    have nils : ∀ e, c = .nil e → NilCOk tab μ mem w S b (c :: cs) (ownNilC b (c :: cs)) := fun e hv => by
      subst hv
      have hd : ownNilC b (.nil e :: cs) = (.own b :: (ownNilC (b + 1) cs).1, (b, .arr e []) :: (ownNilC (b + 1) cs).2) := rfl
      rw [hd] at hF ⊢
      simp only [List.length_cons] at hF
      obtain ⟨μ', E, I', hlt, hl, hr⟩ := ownNilC_sound I (cs := cs) (b := b + 1) (fun r h1 h2 => hF r (by omega) (by omega))
      have hb : look ((ownNilC (b + 1) cs).2 ++ mem) b = none := by
        rw [look_append]
        cases hq : look (ownNilC (b + 1) cs).2 b with
        | none => exact hF b (Nat.le_refl _) (by omega)
        | some B => have := (hlt b (by rw [hq]; simp)).1; omega
      obtain ⟨E2, I2⟩ := name_EI (t := e) I' hb
      have hlk : memU [(b, .arr e [])] (look ((ownNilC (b + 1) cs).2 ++ mem)) = look (((b, .arr e []) :: (ownNilC (b + 1) cs).2) ++ mem) := look_memU _ _
      have h2 : ∀ x, x = .slice none 0 0 → RelV tab _ _ w S (.one (.own b)) x := fun x hx => rel_own (tab := tab) (μ := μ') (w := w) (S := S) (mf := look ((ownNilC (b + 1) cs).2 ++ mem)) (b := b) (e := e) hx
      rw [hlk] at E2 I2
      refine ⟨_, E.trans E2, I2, ?_, by simp [hl], fun ys h i c' hc => ?_⟩
      · intro r hr'
        by_cases e1 : r = b
        · subst e1; simp only [List.length_cons]; omega
        · simp only [look, beq_ne e1] at hr'
          have := hlt r hr'
          simp only [List.length_cons]; omega
      · cases i with
        | zero =>
          simp at hc; subst hc
          obtain ⟨y, y1, y2, y3⟩ := h 0 _ rfl
          have h3 := h2 y y3
          rw [hlk] at h3
          exact ⟨y, y1, y2, h3.2⟩
        | succ i =>
          exact (hr (fun j => ys (j + 1)) (fun j c hj => h (j + 1) c hj) i c' hc).ext E2 I'
    cases c <;> first | exact keep rfl | exact nils _ rfl

def NilMOk (tab : Tab) (μ : Mu) (mem : Mem) (w : World) (S : Nat → Prop) (b : Nat) (m0 m1 : Mem) : Prop :=
  ∃ μ', Ext μ (look mem) w S μ' (look (m1 ++ mem)) w S ∧ Inv tab μ' (look (m1 ++ mem)) w S ∧ ∀ r, look m1 r ≠ none → r ∈ m0.map (·.1) ∨ b ≤ r

theorem ownNilM_sound {mem : Mem} (I : Inv tab μ (look mem) w S) : ∀ {m0 : Mem} {b : Nat}, Fresh b mem → (∀ p ∈ m0, look mem p.1 = some p.2) → (m0.map (·.1)).Nodup → NilMOk tab μ mem w S b m0 (ownNilM b m0)
  | [], b, hF, h, hn => ⟨μ, Ext.refl, I, fun r h => absurd rfl h⟩
  | (r, B) :: m0, b, hF, h, hn => by
    have hB : look mem r = some B := h (r, B) (List.mem_cons_self ..)
    have hrest : ∀ p ∈ m0, look mem p.1 = some p.2 := fun p hp => h p (List.mem_cons_of_mem _ hp)
    have hn' : (m0.map (·.1)).Nodup := (List.nodup_cons.1 hn).2
    have hnr : r ∉ m0.map (·.1) := (List.nodup_cons.1 hn).1
    have hrb : r < b := by
      apply Nat.lt_of_not_le
      intro hle
      rw [hF r hle] at hB; cases hB
    have keep : ownNilM b ((r, B) :: m0) = (r, B) :: ownNilM b m0 → NilMOk tab μ mem w S b ((r, B) :: m0) (ownNilM b ((r, B) :: m0)) := fun he => by
      rw [he]
      obtain ⟨μ', E, I', hlt⟩ := ownNilM_sound I hF hrest hn'
      have hno : look (ownNilM b m0) r = none := by
        cases hq : look (ownNilM b m0) r with
        | none => rfl
        | some D => rcases hlt r (by rw [hq]; simp) with h1 | h1
                    · exact absurd h1 hnr
                    · omega
      have hsame : look (((r, B) :: ownNilM b m0) ++ mem) = look (ownNilM b m0 ++ mem) := by
        funext q
        by_cases e : q = r
        · subst e
          rw [look_append (ownNilM b m0), hno]
          simp [look, Nat.beq_refl, hB]
        · simp [look, beq_ne e]
      refine ⟨μ', by rw [hsame]; exact E, by rw [hsame]; exact I', fun q hq => ?_⟩
      by_cases e : q = r
      · subst e; exact .inl (by simp)
      · simp only [look, beq_ne e] at hq
        rcases hlt q hq with h1 | h1
        · exact .inl (by simp only [List.map_cons, List.mem_cons]; exact .inr h1)
        · exact .inr h1
    cases B with
    | arr t l => exact keep rfl
    | dead => exact keep rfl
    | set ks => exact keep rfl
    | box cs =>
      have hd : ownNilM b ((r, .box cs) :: m0) = (r, .box (ownNilC b cs).1) :: (ownNilC b cs).2 ++ ownNilM (b + (ownNilC b cs).2.length) m0 := rfl
      rw [hd]
      generalize hb' : b + (ownNilC b cs).2.length = b'
      obtain ⟨μ1, E1, I1, hlt1⟩ := ownNilM_sound (b := b') I (fun q hq => hF q (by omega)) hrest hn'
      have hknown : ∀ q, q ∈ m0.map (·.1) → q < b := fun q hq => by
        obtain ⟨p, hp, rfl⟩ := List.mem_map.1 hq
        apply Nat.lt_of_not_le
        intro hle
        have := hrest p hp
        rw [hF _ hle] at this; cases this
      have hfree : ∀ q, b ≤ q → q < b + (ownNilC b cs).2.length → look (ownNilM b' m0 ++ mem) q = none := fun q h1 h2 => by
        rw [look_append]
        cases hq : look (ownNilM b' m0) q with
        | none => exact hF q h1
        | some D => rcases hlt1 q (by rw [hq]; simp) with h3 | h3
                    · have := hknown q h3; omega
                    · omega
      obtain ⟨μ2, E2, I2, hlt2, hl2, hr2⟩ := ownNilC_sound I1 (cs := cs) (b := b) hfree
      have hat1 : look (ownNilM b' m0 ++ mem) r = some (.box cs) := by
        rw [look_append]
        cases hq : look (ownNilM b' m0) r with
        | none => exact hB
        | some D => rcases hlt1 r (by rw [hq]; simp) with h3 | h3
                    · exact absurd h3 hnr
                    · omega
      have hat2 : look ((ownNilC b cs).2 ++ (ownNilM b' m0 ++ mem)) r = some (.box cs) := by
        rw [look_append]
        cases hq : look (ownNilC b cs).2 r with
        | none => exact hat1
        | some D => have := (hlt2 r (by rw [hq]; simp)).1; omega
      obtain ⟨l, hμ, hbr⟩ := I1.rel r _ hat1 trivial
      cases l with
      | ar x => exact hbr.elim
      | bx blk =>
        obtain ⟨vs, e, hh, hsz, hcells⟩ := hbr
        have hμ2 : μ2 r = some (.bx blk) := (E2.kinds r _ _ hat1 hat2).2 ⟨_, hat2, trivial⟩ ▸ hμ
        have E3 := write_E (μ := μ2) (mem := look ((ownNilC b cs).2 ++ (ownNilM b' m0 ++ mem))) (w := w) (w' := w) (S := S) (r := r) (b := blk) (B := .box cs) (B' := .box (ownNilC b cs).1) (l := .bx blk) hat2 trivial hμ2 rfl trivial rfl (fun _ _ => rfl) rfl rfl rfl
        have I3 := write_I hat2 trivial hμ2 rfl rfl (fun _ _ => rfl) E3 I2 ⟨vs, e, hh, by rw [hl2]; exact hsz, fun i c hc => (hr2 (fun i => vs[i]?) (fun i c hc => hcells i c hc) i c hc).ext E3 I2⟩
        have hlk : memU [(r, .box (ownNilC b cs).1)] (look ((ownNilC b cs).2 ++ (ownNilM b' m0 ++ mem))) = look (((r, .box (ownNilC b cs).1) :: (ownNilC b cs).2 ++ ownNilM b' m0) ++ mem) := by
          rw [look_memU]; simp
        rw [hlk] at E3 I3
        refine ⟨μ2, (E1.trans E2).trans E3, I3, fun q hq => ?_⟩
        by_cases e1 : q = r
        · subst e1; exact .inl (by simp)
        · rw [look_append] at hq
          simp only [look, beq_ne e1] at hq
          cases hq2 : look (ownNilC b cs).2 q with
          | some D => exact .inr (hlt2 q (by rw [hq2]; simp)).1
          | none =>
            rw [hq2] at hq
            rcases hlt1 q hq with h3 | h3
            · exact .inl (by simp only [List.map_cons, List.mem_cons]; exact .inr h3)
            · exact .inr (by omega)
end
end Vm
end Go.Proofs.YtlbppjmekiemiacDoor


/- The executor on data: a loop's head. No condition. -/
namespace Go.Proofs.YtlbppjmekiemiacDoor
namespace Vm
section
variable {P : Program} {tab : Tab} {Γ : Ctx} {N k0 : Nat} {a : Act} {w w' : World} {Q : Exit → Act → World → Prop} {μ μ' : Mu} {S S' : Nat → Prop} {μ0 : Mu} {w0 : World} {S0 : Nat → Prop}

theorem allKnown_spec {mem : Mem} : ∀ {l : List Nat}, allKnown mem l = true → ∀ r ∈ l, ∃ B, look mem r = some B
  | [], _, r, h => by cases h
  | q :: l, hk, r, h => by
    simp only [allKnown] at hk
    split at hk <;> try cases hk
    rename_i B hB
    rcases List.mem_cons.1 h with rfl | h
    · exact ⟨B, hB⟩
    · exact allKnown_spec hk r h

theorem prefixOk_spec : ∀ {l : List Nat} {i k : Nat}, prefixOk i k l = true → ∀ j, j < k → l[j]? = some (i + j)
  | _, i, 0, _, j, hj => by omega
  | [], i, k + 1, h, j, hj => by simp [prefixOk] at h
  | r :: l, i, k + 1, h, j, hj => by
    simp only [prefixOk] at h
    split at h <;> try cases h
    rename_i hr
    have := Nat.eq_of_beq_eq_true hr
    subst this
    cases j with
    | zero => rfl
    | succ j => simp only [List.getElem?_cons_succ]; rw [prefixOk_spec h j (by omega)]; congr 1; omega

theorem mem_keepEnv {env : Env} : ∀ {keys : List Nat} {p : Nat × V}, p ∈ keepEnv env keys → look env p.1 = some p.2
  | [], p, h => by cases h
  | q :: keys, p, h => by
    simp only [keepEnv] at h
    split at h
    · rename_i u hu
      rcases List.mem_cons.1 h with rfl | h
      · exact hu
      · exact mem_keepEnv h
    · exact mem_keepEnv h

theorem mem_of_look {env : Env} {t : Nat} {v : V} (h : look env t = some v) : (t, v) ∈ env := by
  induction env with
  | nil => simp [look] at h
  | cons p env ih =>
    obtain ⟨q, u⟩ := p
    by_cases e : t = q
    · subst e; simp [look, Nat.beq_refl] at h; subst h; simp
    · simp only [look, beq_ne e] at h
      exact List.mem_cons_of_mem _ (ih h)

theorem canonOk_spec {k : Nat} {mem m1 : Mem} {names seen : List Nat} {vs : List V} {bs : List Blk} (h : canonOk k mem m1 names seen vs bs = true) :
    names.Nodup ∧ (∀ r ∈ names, ∃ B, look mem r = some B) ∧ seen.Nodup ∧ (∀ r ∈ seen, ∃ B, look m1 r = some B) ∧ (∀ j, j < k → seen[j]? = some j) ∧
      (∀ v ∈ vs, ∀ r ∈ v.allNames, r ∈ seen) ∧ ∀ B ∈ bs, ∀ r ∈ B.names, r ∈ seen := by
  unfold canonOk at h
  split at h
  · rename_i h1 h2 h3 h4 h5
    split at h
    · rename_i h6 h7 h8
      exact ⟨distinct_nodup h1, allKnown_spec h2, distinct_nodup h3, allKnown_spec h4, fun j hj => by simpa using prefixOk_spec h5 j hj, names_of_args h7 h6,
        fun B hB r hr => allIn_mem h8 r (List.mem_flatMap.2 ⟨B, hB, hr⟩)⟩
    · cases h
  · cases h

theorem look_zipFrom (bs : List Blk) : look (zipFrom 0 bs) = memL bs := by
  funext r
  have key : ∀ (bs : List Blk) (i r : Nat), look (zipFrom i bs) r = if i ≤ r then bs[r - i]? else none := by
    intro bs
    induction bs with
    | nil => intro i r; simp [zipFrom, look]
    | cons B bs ih =>
      intro i r
      by_cases e : r = i
      · subst e; simp [zipFrom, look, Nat.beq_refl]
      · simp only [zipFrom, look, beq_ne e, ih]
        by_cases h : i ≤ r
        · have h1 : i + 1 ≤ r := by omega
          rw [if_pos h, if_pos h1, show r - i = (r - (i + 1)) + 1 by omega]
          simp
        · rw [if_neg h, if_neg (by omega)]
  rw [key]
  simp [memL]

theorem canon_sound {bs0 : List Blk} {keys : List Nat} {st st' : St} (hk : bs0.length = k0) (h : canon k0 keys st = some st') (G : Good tab N μ0 (memL bs0) w0 S0 st a w) : Good tab N μ0 (memL bs0) w0 S0 st' a w := by
  obtain ⟨μ, S, R, hF, E⟩ := G
  unfold canon at h
  simp only [forceL_eq] at h
  generalize hq : ownNils st.base (keepEnv st.env keys) = q at h
  generalize hnm : reachK k0 (q.2 ++ st.mem) (q.1.map (·.2)) = names at h
  generalize hm1 : ownNilM (st.base + q.2.length) (memAt (q.2 ++ st.mem) names) = m1 at h
  generalize hsn : reachK k0 m1 (q.1.map (·.2)) = seen at h
  split at h <;> try cases h
  rename_i hok
  obtain ⟨c1, c2, c3, c4, c5, c6, c7⟩ := canonOk_spec hok
  obtain ⟨μ1, E1, I1, F1, _, hr1⟩ := hq ▸ ownNils_sound (a := a) R.inv (env := keepEnv st.env keys) hF (fun p hp => R.env p.1 p.2 (mem_keepEnv hp))
  have hmm : ∀ p ∈ memAt (q.2 ++ st.mem) names, look (q.2 ++ st.mem) p.1 = some p.2 := fun p hp => by
    obtain ⟨r, hr, rfl⟩ := List.mem_map.1 hp
    obtain ⟨B, hB⟩ := c2 r hr
    simp [hB]
  obtain ⟨μ2, E2, I2, _⟩ := hm1 ▸ ownNilM_sound I1 (m0 := memAt (q.2 ++ st.mem) names) F1 hmm (by rw [memAt_fst]; exact c1)
  have H : Handed (look (m1 ++ (q.2 ++ st.mem))) seen (seen.map fun r => (look m1 r).getD .dead) := by
    refine ⟨c3, by simp, fun j r hj => ?_, c7⟩
    obtain ⟨B, hB⟩ := c4 r (List.mem_of_getElem? hj)
    simp [hj, hB, look_append]
  have E12 := E.trans (E1.trans E2)
  have hlk := look_zipFrom ((seen.map fun r => (look m1 r).getD .dead).map (Blk.ren (idx seen)))
  refine ⟨muC seen μ2, S, ⟨R.size, R.defers, ?_, ?_⟩, ?_, ?_⟩
  · show Inv tab (muC seen μ2) (look (zipFrom 0 _)) w S
    rw [hlk]; exact H.inv I2
  · intro t v hv
    have hv' := mem_of_look hv
    obtain ⟨p, hp, he⟩ := List.mem_map.1 hv'
    obtain ⟨p1, p2⟩ := p
    cases he
    obtain ⟨r1, r2⟩ := hr1 _ hp
    show RelV tab (muC seen μ2) (look (zipFrom 0 _)) w S _ _ ∧ _
    rw [hlk]
    refine ⟨(relV_ext E2 I1 r1).ren fun r hr => H.ren (c6 p2 (List.mem_map.2 ⟨_, hp, rfl⟩) r hr), fun hu => ?_⟩
    apply r2
    cases p2 with
    | one c => cases c <;> simp [V.ren, C.ren] at hu ⊢
    | agg cs => simp [V.ren] at hu
    | tup vs => simp [V.ren] at hu
  · intro r hr
    show look (zipFrom 0 _) r = none
    rw [hlk]
    simp only [memL, List.map_map, List.getElem?_eq_none_iff, List.length_map]
    exact hr
  · show Ext μ0 (memL bs0) w0 S0 (muC seen μ2) (look (zipFrom 0 _)) w S
    rw [hlk]
    refine ⟨fun r h0 => ?_, fun r B B' hB hB' => ?_, E12.sub, E12.size, E12.heap, E12.only, fun b hb => ?_, E12.os, E12.tape, E12.output⟩
    · have hlt : r < k0 := by
        rw [← hk]
        apply Nat.lt_of_not_le
        intro hle
        exact h0 (by simp [memL, hle])
      rw [H.memC (c5 r hlt)]; simp
    · have hlt : r < k0 := by
        rw [← hk]
        exact (List.getElem?_eq_some_iff.1 hB).1
      have hs := c5 r hlt
      rw [H.memC hs] at hB'
      cases hB'
      obtain ⟨D, hD⟩ := c4 r (List.mem_of_getElem? hs)
      have hD' : look (m1 ++ (q.2 ++ st.mem)) r = some D := by rw [look_append, hD]
      have hkind := E12.kinds r B D hB hD'
      rw [hD']
      refine ⟨?_, fun hl => ?_⟩
      · have h1 := hkind.1
        cases B <;> cases D <;> first | exact h1 | trivial
      · have hl' : Live (look (m1 ++ (q.2 ++ st.mem))) r := by
          obtain ⟨B2, hB2, ha⟩ := hl
          rw [H.memC hs, hD'] at hB2
          cases hB2
          exact ⟨D, hD', alive_ren.1 ha⟩
        have := hkind.2 hl'
        simp only [muC, hs]
        exact this
    · obtain ⟨r, hr, l, hl, hμ, hb⟩ := H.own hb
      exact E12.own b ⟨r, l, hl, hμ, hb⟩
end
end Vm
end Go.Proofs.YtlbppjmekiemiacDoor

