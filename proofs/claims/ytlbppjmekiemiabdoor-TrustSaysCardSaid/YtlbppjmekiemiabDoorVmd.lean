/- The executor on data: part 4 of 4. No condition. -/
import Derived.Test.YtlbppjmekiemiabDoorVmc
/- The executor on data: from a law's contract to what its row asks. No condition. -/
namespace Go.Proofs.YtlbppjmekiemiabDoor
namespace Vm
open Go.ChangeShapes Go.WideShapes Go.RowKit

/-- A parameter: is it a struct; its cells. -/
abbrev Par := Bool × List Ty

def structB (P : Program) (t : Nat) : Option Bool :=
  match P.underlying t with
  | some (.struct _) => some true
  | some (.int .i64) | some .bool | some .string | some (.slice _) => some false
  | _ => none

def parsB (P : Program) (m : Nat) : List Par → List Nat → Bool
  | [], [] => true
  | (b, L) :: ps, t :: ts => fitB P m L t && (match structB P t with | some b' => b == b' | none => false) && P.readableRec t && decide (t < P.types.size) && parsB P m ps ts
  | _, _ => false

def ArgIs : Par → V → Prop
  | (true, L), .agg cs => Shapes L cs ∧ ∀ c ∈ cs, SzC c
  | (false, L), .one c => Shapes L [c] ∧ SzC c
  | _, _ => False

def ArgsAre : List Par → List V → Prop
  | [], [] => True
  | p :: ps, v :: vs => ArgIs p v ∧ ArgsAre ps vs
  | _, _ => False

section
variable {H : Type} {enc : TypeId × Value → H} {P : Program} {tab : Tab} {w : World} {sp : Nat → Bool} {held : Bool} {base : Nat}

theorem structB_false {t : Nat} {v : Value} (hs : structB P t = some false) (h : Value.okWide P w .any base t v) : v.oneCell' = true ∧ v.cells.toList = [v] := by
  unfold structB at hs
  split at hs <;> try cases hs
  · rename_i hu; obtain ⟨n, rfl⟩ := okWide_int hu h; exact ⟨rfl, rfl⟩
  · rename_i hu; obtain ⟨n, rfl⟩ := okWide_bool hu h; exact ⟨rfl, rfl⟩
  · rename_i hu; obtain ⟨n, rfl⟩ := okWide_string hu h; exact ⟨rfl, rfl⟩
  · rename_i hu; obtain ⟨a, b, c, rfl⟩ := okWide_slice hu h; exact ⟨rfl, rfl⟩

theorem structB_true {t : Nat} {v : Value} (hs : structB P t = some true) (h : Value.okWide P w .any base t v) : ∃ cs, v = .agg cs := by
  unfold structB at hs
  split at hs <;> try cases hs
  rename_i hu
  obtain ⟨cs, h1, _⟩ := okWide_struct hu h
  exact ⟨cs, h1⟩

theorem relV_dat {μ : Mu} {mf : MemF} {S : Nat → Prop} {ds : List C} {xs : Array Value} (h : CellsAre tab w ds xs.toList) (hl : xs.size = ds.length) (hd : ∀ c ∈ ds, ∃ τ d, c = .dat τ d) (hS : S = fun b => b < w.heap.size) : RelV tab μ mf w S (.agg ds) (.agg xs) := by
  subst hS
  refine ⟨xs, rfl, hl, fun i c hc => ?_⟩
  obtain ⟨y, y1, y2, y3, _⟩ := h i c hc
  obtain ⟨τ, d, rfl⟩ := hd c (List.mem_of_getElem? hc)
  exact ⟨y, by simpa using y1, y2, y3⟩

theorem shapes_dat : ∀ {L : List Ty} {cs : List C}, Shapes L cs → ∀ c ∈ cs, ∃ τ d, c = .dat τ d
  | _ :: _, c :: _, h, x, hx => by
    rcases List.mem_cons.1 hx with rfl | hx
    · obtain ⟨d, hd⟩ := h.1; exact ⟨_, d, hd⟩
    · exact shapes_dat h.2 x hx
  | [], [], _, x, hx => by cases hx
  | [], _ :: _, h, _, _ => h.elim
  | _ :: _, [], h, _, _ => h.elim

theorem arg_rel {m : Nat} {L : List Ty} {b : Bool} {t : Nat} {v : Value} {d : DataW H} {p : List MemPlace} (hf : fitB P m L t = true) (hs : structB P t = some b) (hv : Value.okWide P w .any base t v) (h : DataW.Trod enc P w 0 sp held t v d p)
    (hw : ∀ k ∈ d.weights P t, k ≤ reachBytes) : ∃ u, ArgIs (b, L) u ∧ RelV tab (fun _ => none) (memL []) w (fun b => b < w.heap.size) u v := by
  obtain ⟨n, hn⟩ := h
  obtain ⟨ds, h1, h2, h3⟩ := read_rep (tab := tab) n m L t _ _ hf hn hw
  cases b with
  | true =>
    obtain ⟨cs, rfl⟩ := structB_true hs hv
    refine ⟨.agg ds, ⟨h1, fun c hc => ?_⟩, relV_dat h3 (by simpa [Value.cells] using h2) (shapes_dat h1) rfl⟩
    obtain ⟨i, hi⟩ := List.getElem?_of_mem hc
    obtain ⟨y, _, _, _, y4⟩ := h3 i c hi
    exact y4
  | false =>
    obtain ⟨g1, g2⟩ := structB_false hs hv
    rw [g2] at h2 h3
    match ds, h1, h2, h3 with
    | [c], h1, _, h3 =>
      obtain ⟨y, y1, y2, y3, y4⟩ := h3 0 c rfl
      simp at y1; subst y1
      refine ⟨.one c, ⟨h1, y4⟩, ?_⟩
      obtain ⟨τ, dd, rfl⟩ := shapes_dat h1 c (List.mem_cons_self ..)
      exact ⟨y2, y3⟩

theorem args_rel {m : Nat} : ∀ {ps : List Par} {ts : List Nat} {vs : List Value} {ds : List (DataW H)} {p : List MemPlace}, parsB P m ps ts = true → (∀ (j : Nat) t v, ts[j]? = some t → vs[j]? = some v → Value.okWide P w .any base t v) →
    DataW.TrodAll enc P w 0 sp held ts vs ds p → (∀ k ∈ DataW.weightsEach P ts ds, k ≤ reachBytes) → ∃ us, ArgsAre ps us ∧ RelVs tab (fun _ => none) (memL []) w (fun b => b < w.heap.size) us vs
  | [], [], vs, ds, p, _, _, h, _ => by
    match vs, ds, h with
    | [], [], _ => exact ⟨[], trivial, trivial⟩
  | (b, L) :: ps, t :: ts, vs, ds, p, hp, hv, h, hw => by
    match vs, ds, h with
    | v :: vs, d :: ds, h =>
      simp only [parsB, Bool.and_eq_true] at hp
      obtain ⟨⟨⟨⟨f1, f2⟩, _⟩, _⟩, f3⟩ := hp
      obtain ⟨p1, p2, h1, h2, _⟩ := h
      have hs : structB P t = some b := by
        split at f2
        · rename_i b' hb; rw [hb, beq_iff_eq.1 f2]
        · cases f2
      obtain ⟨u, u1, u2⟩ := arg_rel (tab := tab) f1 hs (hv 0 t v rfl rfl) h1 (fun k hk => hw k (by simp [DataW.weightsEach, hk]))
      obtain ⟨us, k1, k2⟩ := args_rel f3 (fun j t v ht hv' => hv (j + 1) t v (by simpa using ht) (by simpa using hv')) h2 (fun k hk => hw k (by simp [DataW.weightsEach, hk]))
      exact ⟨u :: us, ⟨u1, k1⟩, u2, k2⟩
  | [], _ :: _, _, _, _, hp, _, _, _ => by simp [parsB] at hp
  | _ :: _, [], _, _, _, hp, _, _, _ => by simp [parsB] at hp

theorem trodAll_stays {m : Nat} {W W' : World} (hl : laidOutB P = true) (hb : Below W.heap.size W W') {sp' : Nat → Bool} : ∀ {ps : List Par} {ts : List Nat} {vs : List Value} {ds : List (DataW H)} {p : List MemPlace}, parsB P m ps ts = true →
    DataW.TrodAll enc P W 0 (fun _ => true) true ts vs ds p → (∀ x ∈ p, x.block < W.heap.size) → (∀ x ∈ p, sp' x.block = true) → DataW.TrodAll enc P W' 0 sp' true ts vs ds p
  | [], [], vs, ds, p, _, h, _, _ => by
    match vs, ds, h with
    | [], [], h => exact h
  | (b, L) :: ps, t :: ts, vs, ds, p, hp, h, h1, h2 => by
    match vs, ds, h with
    | v :: vs, d :: ds, h =>
      simp only [parsB, Bool.and_eq_true, decide_eq_true_eq] at hp
      obtain ⟨⟨⟨⟨_, _⟩, f1⟩, f2⟩, f3⟩ := hp
      obtain ⟨p1, p2, g1, g2, rfl⟩ := h
      exact ⟨p1, p2, Go.WideElems.Trod_stays hl f1 f2 g1 (fun x hx => hb.same (h1 x (List.mem_append_left _ hx))) (fun x hx => h2 x (List.mem_append_left _ hx)),
        trodAll_stays hl hb f3 g2 (fun x hx => h1 x (List.mem_append_right _ hx)) (fun x hx => h2 x (List.mem_append_right _ hx)), rfl⟩
  | [], _ :: _, _, _, _, hp, _, _, _ => by simp [parsB] at hp
  | _ :: _, [], _, _, _, hp, _, _, _ => by simp [parsB] at hp

theorem post_of_below {f : Func} {s : ChangeSpec} {apart fresh handsOn again : Bool} {W W' : World} {args : Array Value} {v : Value} {ds gs : List (DataW H)} {before pa pv : List MemPlace}
    (hW : DataW.Whole enc P f.params.toList s.vars apart W args.toList ds gs before)
    (hres : ∀ (b : Nat) (sp : Nat → Bool) (hd : Bool), DataW.TrodAll enc P W' b sp hd f.resultTypes.toList (v.resultList f.resultTypes.size) (s.fn H (ds ++ gs)).results [])
    (hargs : ∀ sp : Nat → Bool, (∀ p ∈ before, sp p.block = true) → DataW.TrodAll enc P W' 0 sp true f.params.toList args.toList (s.fn H (ds ++ gs)).args pa)
    (hvars : ∀ sp : Nat → Bool, (∀ p ∈ before, sp p.block = true) → DataW.TrodVars enc P W' sp s.vars (s.fn H (ds ++ gs)).vars pv)
    (hps : before = pa ++ pv) (hb : Below W.heap.size W W')
    (hok : ∀ (j : Nat) (t : TypeId) (r : Value), f.resultTypes[j]? = some t → (v.resultList f.resultTypes.size)[j]? = some r → Value.okWide P W' .any 0 t r) :
    s.post enc P f apart fresh handsOn again W args v W' := by
  have hlt : ∀ p ∈ before, p.block < W.heap.size := fun p hp => hW.lt p hp
  have hold : ∀ p ∈ before, (fun b => decide (b < W.heap.size)) p.block = true := fun p hp => by simpa using hlt p hp
  refine ⟨ds, gs, before, [], pa, pv, hW, hres _ _ _, hargs _ hold, hvars _ hold, World.keptBut_mono (fun p hp => ⟨hp, ?_⟩) (hb.frame (· ∈ before)), fun _ => ?_⟩
  · rw [hps, List.mem_append] at hp
    exact Or.inr hp
  · obtain ⟨_, _, _, _, _, hz, hn⟩ := hW
    refine ⟨hok, _, _, ([] ++ pa) ++ pv, ⟨[] ++ pa, pv, trodAll_append (hargs _ (fun _ _ => rfl)) (hres _ _ _), hvars _ (fun _ _ => rfl), rfl, ?_, ?_⟩, ?_⟩
    · intro b off hp
      have hin : MemPlace.cell b off ∈ before := by rw [hps]; simpa using hp
      rw [hb.frozen (hlt _ hin)]
      exact hz b off hin
    · intro ha
      have := hn ha
      rw [hps] at this
      simpa using this
    · intro p hp _
      rw [hps]
      simpa using hp

theorem args_cons {p : Par} {ps : List Par} {us : List V} (h : ArgsAre (p :: ps) us) : ∃ u us', us = u :: us' ∧ ArgIs p u ∧ ArgsAre ps us' := by
  match us, h with
  | u :: us', h => exact ⟨u, us', rfl, h.1, h.2⟩

theorem args_nil {us : List V} (h : ArgsAre [] us) : us = [] := by
  match us, h with
  | [], _ => rfl

theorem shapes_cons {τ : Ty} {L : List Ty} {cs : List C} (h : Shapes (τ :: L) cs) : ∃ (d : τ.den) (cs' : List C), cs = .dat τ d :: cs' ∧ Shapes L cs' := by
  match cs, h with
  | _ :: cs', ⟨⟨d, rfl⟩, h⟩ => exact ⟨d, cs', rfl, h⟩

theorem shapes_nil {cs : List C} (h : Shapes [] cs) : cs = [] := by
  match cs, h with
  | [], _ => rfl

theorem arg_one {τ : Ty} {u : V} (h : ArgIs (false, [τ]) u) : ∃ d : τ.den, u = .one (.dat τ d) ∧ SzC (.dat τ d) := by
  match u, h with
  | .one c, ⟨h1, h2⟩ =>
    obtain ⟨d, cs', e, _⟩ := shapes_cons h1
    cases e
    exact ⟨d, rfl, h2⟩

theorem arg_agg {L : List Ty} {u : V} (h : ArgIs (true, L) u) : ∃ cs, u = .agg cs ∧ Shapes L cs ∧ ∀ c ∈ cs, SzC c := by
  match u, h with
  | .agg cs, ⟨h1, h2⟩ => exact ⟨cs, rfl, h1, h2⟩

theorem szc_int {n : Int} (h : SzC (.dat .int n)) : I64 n := by cases h; assumption
theorem szc_list {t : Ty} {l : List t.den} (h : SzC (.dat (.list t) l)) : l.length * t.bytes ≤ 140737488351232 ∧ ∀ (i j : Nat) (c : C), i < l.length → (t.cells (nth l i t.dflt))[j]? = some c → SzC c := by
  cases h with
  | list _ _ h he => exact ⟨h, he⟩

/-- A law whose call answers true, whatever its arguments are. -/
theorem law_calls {f : Nat} {fn : Func} {s : ChangeSpec} {apart fresh handsOn again : Bool} {m tb : Nat} {ps : List Par} (hlo : laidOutB P = true) (hps : parsB P m ps fn.params.toList = true) (hrt : fn.resultTypes = #[tb]) (hbu : P.underlying tb = some .bool) (hvars : s.vars = [])
    (hsp : ∀ ds : List (DataW H), ds.length = ps.length → (s.fn H (ds ++ [])).results = [.lit (.bool true)] ∧ (s.fn H (ds ++ [])).args = ds ∧ (s.fn H (ds ++ [])).vars = [])
    (hC : ∀ us, ArgsAre ps us → AC P tab f us [] (.one (.dat .bool true)) [])
    {W : World} {args : Array Value} {ds gs : List (DataW H)} {before : List MemPlace} (hval : ∀ (j : Nat) t v, fn.params[j]? = some t → args[j]? = some v → Value.okWide P W .any base t v)
    (hW : DataW.Whole enc P fn.params.toList s.vars apart W args.toList ds gs before) (hsz : (DataW.weightsEach P (fn.params.toList ++ s.plain.varTypes P) (ds ++ gs)).all (· ≤ reachBytes) = true)
    (hpow : PowIs tab W (fun b => b < W.heap.size)) :
    Calls P f args W fun e W' => ∃ v, e = .returned v ∧ s.post enc P fn apart fresh handsOn again W args v W' := by
  have hW' := hW
  obtain ⟨p, q, hA, hV, rfl, hfz, hnd⟩ := hW
  have hgs : gs = [] ∧ q = [] := by rw [hvars] at hV; exact trodVars_none hV
  obtain ⟨rfl, rfl⟩ := hgs
  have hlen : ∀ {ps : List Par} {ts : List Nat} {vs : List Value} {ds : List (DataW H)} {p : List MemPlace}, parsB P m ps ts = true → DataW.TrodAll enc P W 0 (fun _ => true) true ts vs ds p → ds.length = ps.length := by
    intro ps
    induction ps with
    | nil => intro ts vs ds p hp h; cases ts <;> cases vs <;> cases ds <;> simp_all [parsB, DataW.TrodAll]
    | cons a ps ih =>
      intro ts vs ds p hp h
      match ts, vs, ds, h with
      | t :: ts, v :: vs, d :: ds, h =>
        simp only [parsB, Bool.and_eq_true] at hp
        obtain ⟨_, _, _, h2, _⟩ := h
        simp [ih hp.2 h2]
      | [], _, _, _ => simp [parsB] at hp
  have hl := hlen hps hA
  obtain ⟨us, u1, u2⟩ := args_rel (tab := tab) hps (fun j t v ht hv => hval j t v (by simpa using ht) (by simpa using hv)) hA (fun k hk => by
    have := List.all_eq_true.1 hsz k (by
      have : ∀ (ts : List Nat) (xs : List (DataW H)) (ts' : List Nat), k ∈ DataW.weightsEach P ts xs → k ∈ DataW.weightsEach P (ts ++ ts') (xs ++ []) := by
        intro ts
        induction ts with
        | nil => intro xs ts' h; cases xs <;> simp [DataW.weightsEach] at h
        | cons t ts ih =>
          intro xs ts' h
          cases xs with
          | nil => simp [DataW.weightsEach] at h
          | cons x xs =>
            simp only [DataW.weightsEach, List.mem_append, List.cons_append] at h ⊢
            exact h.imp id (ih xs ts')
      exact this _ _ _ hk)
    simpa using this)
  have hI : Inv tab (fun _ => none) (memL []) W (fun b => b < W.heap.size) := ⟨fun r B h => by simp [memL] at h, fun r r' _ ⟨B, hB, _⟩ => by simp [memL] at hB, fun r ⟨B, hB, _⟩ => by simp [memL] at hB, fun b hb => hb, hpow⟩
  have := hC us u1 W _ _ args.toList hI u2
  rw [Array.toArray_toList] at this
  refine this.mono fun e W1 ⟨x, μ', S', h1, h2, _, h4⟩ => ?_
  have hx : x = .bool true := by
    obtain ⟨_, h4⟩ := h4
    cases h4; rfl
  subst hx
  have hb : Below W.heap.size W W1 := ⟨h2.os, h2.tape, h2.output, h2.size, fun k hk => h2.heap k hk fun ⟨r, l, ⟨B, hB, _⟩, _⟩ => by simp [memL] at hB⟩
  obtain ⟨s1, s2, s3⟩ := hsp ds hl
  simp only [List.append_nil] at hW'
  have hlt : ∀ y ∈ p, y.block < W.heap.size := fun y hy => hW'.lt y hy
  refine ⟨_, h1, post_of_below (pa := p) (pv := []) hW' (fun b sp hd => ?_) (fun sp hsp' => ?_) (fun _ _ => ?_) (by simp) hb (ok_one hrt (by rfl) (okWide_bool_mk hbu _))⟩
  · rw [s1, hrt]
    exact trodAll_mk1 (shut_bool hbu _)
  · rw [s2]
    exact trodAll_stays hlo hb hps hA hlt (fun y hy => hsp' y (by simpa using hy))
  · rw [s3, hvars]; rfl
end
end Vm
end Go.Proofs.YtlbppjmekiemiabDoor
