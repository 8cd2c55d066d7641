/- What the functions of MetaSays compute (part 1 of 1). No condition. -/
import Derived.Test.YtlbppjmekiemiacDoorTab
import Derived.Test.YtlbppjmekiemiacDoorSpec
import Derived.KernelRfl
import Derived.Test.YtlbppjmekiemiacDoorShelf
import Derived.Below
import Derived.Lib.ConvBytes
/- strconv.Itoa: the shelf's contract as one of ours. The number is no less than 0. -/
namespace Go.Proofs.YtlbppjmekiemiacDoor
open Go.RowKit Go.Lib Go.Sort Vm
def c_strconv_Itoa : Contract := fun vs bs => match vs, bs with
  | [.one (.dat .int n)], [] => some (some (0 ≤ n ∧ n ≤ 9223372036854775807), .one (.dat .str (numT n)), [])
  | _, _ => none
theorem sound_strconv_Itoa : SoundC Tryd.prog tab n_strconv_Itoa c_strconv_Itoa := by
  intro vs bs p v bs' h hp w S μ xs I hx
  unfold c_strconv_Itoa at h
  split at h
  · cases h
    rename_i n
    obtain ⟨⟨h1, h2⟩, _⟩ := hp
    have h1 : (0 : Int) ≤ n := h1
    have h2 : (n : Int) ≤ 9223372036854775807 := h2
    match xs, hx with
    | [X], ⟨g1, _⟩ =>
      have e1 := rel_int g1
      subst e1
      obtain ⟨g, hg⟩ : ∃ g, tab.pow = some g := ⟨_, rfl⟩
      obtain ⟨_, ty, m, hb⟩ := I.pow.t g hg
      have htab : Go.Lib.TabIs Tryd.prog w "internal/strconv.uint64pow10" .u64 Go.Lib.pow10Tab := by
        have hgn : Tryd.prog.globalNamed "internal/strconv.uint64pow10" = tab.pow := by kernel_rfl
        unfold Go.Lib.TabIs World.var?
        rw [hgn, hg]
        simp only [Option.bind_some, hb]
        rfl
      refine (Tryd.strconv_Itoa n (by omega) h2 w htab).mono fun e w' ⟨he, k, os, hw⟩ => ?_
      subst hw he
      have hsz : (grow (w.drewN k) os).heap = w.heap ++ os := rfl
      have E : Ext μ (memL []) w S μ (memL []) (grow (w.drewN k) os) S := ⟨fun _ h => h, (Ext.refl (μ := μ) (mem := memL []) (w := w) (S := S)).kinds, fun _ h => h, by rw [hsz]; simp, fun b hb _ => by rw [hsz, Array.getElem?_append_left hb], fun _ h => .inl h, fun _ h => .inl h, rfl, rfl, rfl⟩
      refine ⟨_, μ, S, rfl, E, ⟨fun r B h => by simp [memL] at h, fun r r' _ ⟨B, h, _⟩ => by simp [memL] at h, fun r ⟨B, h, _⟩ => by simp [memL] at h, fun b hb => Nat.lt_of_lt_of_le (I.lt b hb) E.size, I.powExt E⟩, ?_⟩
      rw [itoa_eq h1 h2]
      exact mk_str _
  · cases h
end Go.Proofs.YtlbppjmekiemiacDoor

/- strings.Join: the shelf's contract as one of ours. What comes of it is no longer than memory holds. -/
namespace Go.Proofs.YtlbppjmekiemiacDoor
open Go.RowKit Go.Lib Vm
theorem below_EI {μ : Mu} {w w' : World} {S : Nat → Prop} (I : Inv tab μ (memL []) w S) (hb : Below w.heap.size w w') : Ext μ (memL []) w S μ (memL []) w' S ∧ Inv tab μ (memL []) w' S := by
  have E : Ext μ (memL []) w S μ (memL []) w' S := ⟨fun _ h => h, (Ext.refl (μ := μ) (mem := memL []) (w := w) (S := S)).kinds, fun _ h => h, hb.size, fun b hlt _ => hb.block b hlt, fun _ h => .inl h, fun _ h => .inl h, hb.os, hb.tape, hb.output⟩
  exact ⟨E, ⟨fun r B h => by simp [memL] at h, fun r r' _ ⟨B, h, _⟩ => by simp [memL] at h, fun r ⟨B, h, _⟩ => by simp [memL] at h, fun b hb => Nat.lt_of_lt_of_le (I.lt b hb) E.size, I.powExt E⟩⟩
def c_strings_Join : Contract := fun vs bs => match vs, bs with
  | [.one (.dat (.list .str) l), .one (.dat .str sep)], [] => some (some (l.length ≤ 140737488355328 ∧ (joinT sep l).length ≤ 140737488355328), .one (.dat .str (joinT sep l)), [])
  | _, _ => none
theorem sound_strings_Join : SoundC Tryd.prog tab n_strings_Join c_strings_Join := by
  intro vs bs p v bs' h hp w S μ xs I hx
  unfold c_strings_Join at h
  split at h
  · cases h
    rename_i l sep
    obtain ⟨⟨h1, h2⟩, _⟩ := hp
    match xs, hx with
    | [X, Y], ⟨g1, g2, _⟩ =>
      have e2 := rel_str g2
      subst e2
      obtain ⟨_, hr⟩ := g1
      cases hr with
      | empty t a cap =>
        refine (Tryd.strings_Join_none a cap ⟨sep.toArray⟩ w).mono fun e w' ⟨he, hw⟩ => ?_
        subst hw he
        exact ⟨_, μ, S, rfl, Ext.refl, I, mk_str []⟩
      | list t l b off cap cs hS hcap hc hr =>
        have hm : (l.map fun s : List UInt8 => (⟨s.toArray⟩ : ByteArray)).map (·.data.toList) = l := by simp [List.map_map, Function.comp_def]
        have hj : (Go.Lib.join ((l.map fun s : List UInt8 => (⟨s.toArray⟩ : ByteArray)).map (·.data.toList)) (⟨sep.toArray⟩ : ByteArray).data.toList) = joinT sep l := by rw [hm]; exact join_eq sep l
        have key := Tryd.strings_Join b off cap (l.map fun s : List UInt8 => (⟨s.toArray⟩ : ByteArray)) ⟨sep.toArray⟩ w (fun j x hx => by
          rw [List.getElem?_map] at hx
          obtain ⟨s, hs, rfl⟩ := Option.map_eq_some_iff.1 hx
          have hjl : j < l.length := (List.getElem?_eq_some_iff.1 hs).1
          have c1 := hc j 0 hjl (by decide)
          have e : nth l j (Ty.dflt .str) = s := by simp [nth, List.getD_eq_getElem?_getD, hs]
          have c2 := hr j 0 (.dat .str s) hjl (by rw [e]; rfl)
          have c3 : cs j 0 = .string ⟨s.toArray⟩ := by
            generalize cs j 0 = y at c2
            cases c2; rfl
          rw [c3] at c1
          simpa [at0, Ty.width] using c1) (I.lt b hS) (by simpa using h1) (by simpa using hcap) (by rw [hj]; exact h2)
        rw [List.length_map, hj] at key
        refine key.mono fun e w' ⟨he, hb⟩ => ?_
        subst he
        obtain ⟨E, I'⟩ := below_EI I hb
        exact ⟨_, μ, S, rfl, E, I', mk_str _⟩
  · cases h
end Go.Proofs.YtlbppjmekiemiacDoor

/- strings.Split: the shelf's contract as one of ours. The text is no longer than 4000000 bytes, what it is cut at is not empty. -/
namespace Go.Proofs.YtlbppjmekiemiacDoor
open Go.RowKit Go.Lib Vm
theorem allocd_EI {μ : Mu} {w : World} {S : Nat → Prop} (I : Inv tab μ (memL []) w S) (o : Obj) : Ext μ (memL []) w S μ (memL []) (w.alloc o) (fun b => S b ∨ b = w.heap.size) ∧ Inv tab μ (memL []) (w.alloc o) (fun b => S b ∨ b = w.heap.size) := by
  have hb : Below w.heap.size w (w.alloc o) := (Below.refl _ w).alloc (Nat.le_refl _) o
  have hsz : (w.alloc o).heap.size = w.heap.size + 1 := Array.size_push ..
  have E : Ext μ (memL []) w S μ (memL []) (w.alloc o) (fun b => S b ∨ b = w.heap.size) := ⟨fun _ h => h, (Ext.refl (μ := μ) (mem := memL []) (w := w) (S := S)).kinds, fun _ h => .inl h, hb.size, fun b hlt _ => hb.block b hlt, fun b h => by
    rcases h with h | h
    · exact .inl h
    · exact .inr (.inl (by omega)), fun _ h => .inl h, hb.os, hb.tape, hb.output⟩
  exact ⟨E, ⟨fun r B h => by simp [memL] at h, fun r r' _ ⟨B, h, _⟩ => by simp [memL] at h, fun r ⟨B, h, _⟩ => by simp [memL] at h, fun b hb => by
    rcases hb with hb | hb
    · have := I.lt b hb
      omega
    · omega, I.powExt E⟩⟩
theorem splitB_is (s sep : List UInt8) : (Go.Lib.splitB ⟨sep.toArray⟩ 0 (Go.Lib.countB ⟨s.toArray⟩ ⟨sep.toArray⟩) ⟨s.toArray⟩).map Value.string = (Go.Lib.split s sep).map fun l => Value.string ⟨l.toArray⟩ := by
  have h := Go.Lib.splitB_data ⟨sep.toArray⟩ 0 (Go.Lib.countB ⟨s.toArray⟩ ⟨sep.toArray⟩) ⟨s.toArray⟩
  have e : Go.Lib.split s sep = Go.Lib.splitK sep 0 (Go.Lib.countB ⟨s.toArray⟩ ⟨sep.toArray⟩) s := rfl
  rw [e]
  have h : (Go.Lib.splitB ⟨sep.toArray⟩ 0 (Go.Lib.countB ⟨s.toArray⟩ ⟨sep.toArray⟩) ⟨s.toArray⟩).map (·.data.toList) = Go.Lib.splitK sep 0 (Go.Lib.countB ⟨s.toArray⟩ ⟨sep.toArray⟩) s := h
  rw [← h, List.map_map]
  rfl
def c_strings_Split : Contract := fun vs bs => match vs, bs with
  | [.one (.dat .str s), .one (.dat .str sep)], [] => some (some (s.length ≤ 4000000 ∧ 1 ≤ sep.length), .one (.dat (.list .str) (Go.Lib.split s sep)), [])
  | _, _ => none
theorem sound_strings_Split : SoundC Tryd.prog tab n_strings_Split c_strings_Split := by
  intro vs bs p v bs' h hp w S μ xs I hx
  unfold c_strings_Split at h
  split at h
  · cases h
    rename_i s sep
    obtain ⟨⟨h1, h2⟩, _⟩ := hp
    have h1 : s.length ≤ 4000000 := h1
    have h2 : 1 ≤ sep.length := h2
    match xs, hx with
    | [X, Y], ⟨g1, g2, _⟩ =>
      have e1 := rel_str g1
      have e2 := rel_str g2
      subst e1 e2
      obtain ⟨_, m, hm⟩ := I.pow.m _ rfl
      refine (Tryd.strings_Split ⟨s.toArray⟩ ⟨sep.toArray⟩ m w (show s.length < 4294967281 by omega) hm h2).mono fun e w' ⟨he, hw⟩ => ?_
      have hl : Go.Lib.countB ⟨s.toArray⟩ ⟨sep.toArray⟩ + 1 = (Go.Lib.split s sep).length := by
        have := congrArg List.length (splitB_is s sep)
        rw [List.length_map, List.length_map, Go.Lib.splitB_all ⟨sep.toArray⟩ h2 0 _ _ rfl] at this
        exact this
      rw [splitB_is] at hw
      rw [hl] at he
      subst hw he
      obtain ⟨E, I'⟩ := allocd_EI I (.cells ((Go.Lib.split s sep).map fun l => Value.string ⟨l.toArray⟩).toArray 9)
      refine ⟨_, μ, fun b => S b ∨ b = w.heap.size, rfl, E, I', rfl, ?_⟩
      refine RepC.list (S := fun b => S b ∨ b = w.heap.size) .str (Go.Lib.split s sep) w.heap.size 0 _ (fun i _ => .string ⟨(nth (Go.Lib.split s sep) i (Ty.dflt .str)).toArray⟩) (Or.inr rfl) (Nat.le_refl _) (fun i j hi hj => ?_) (fun i j c hi hc => ?_)
      · have hj : j < 1 := hj
        obtain rfl : j = 0 := by omega
        have e3 : (nth (Go.Lib.split s sep) i (Ty.dflt .str)) = (Go.Lib.split s sep)[i] := by simp [nth, List.getD_eq_getElem?_getD, hi]
        unfold at0
        rw [World.cell?_alloc_mark, e3]
        show (((Go.Lib.split s sep).map fun l => Value.string ⟨l.toArray⟩).toArray)[0 + i * 1 + 0]? = _
        rw [show 0 + i * 1 + 0 = i by omega]
        simp [hi]
      · cases j with
        | zero =>
          have hc : (some (C.dat .str (nth (Go.Lib.split s sep) i (Ty.dflt .str))) : Option C) = some c := hc
          cases hc
          exact .str _
        | succ j => cases hc
  · cases h
end Go.Proofs.YtlbppjmekiemiacDoor

/- strconv.Atoi: the shelf's contract as one of ours. The text is no longer than 4000000 bytes. -/
namespace Go.Proofs.YtlbppjmekiemiacDoor
open Go.RowKit Go.Lib Vm
theorem mk_pair_strconv_Atoi {μ : Mu} {w : World} {S : Nat → Prop} {a b : C} {x y : Value} (hx : RelW tab μ (memL []) w S (.one a) x) (hy : RelW tab μ (memL []) w S (.one b) y) : RelV tab μ (memL []) w S (.tup [.one a, .one b]) (.tuple #[x, y]) :=
  ⟨_, rfl, rfl, fun i v hi => by
    match i, hi with
    | 0, hi => cases hi; exact ⟨x, rfl, hx⟩
    | 1, hi => cases hi; exact ⟨y, rfl, hy⟩⟩
def c_strconv_Atoi : Contract := fun vs bs => match vs, bs with
  | [.one (.dat .str s)], [] => some (some (s.length ≤ 4000000), .tup [.one (.dat .int (atoiV s)), .one (.dat .err (atoiE s))], [])
  | _, _ => none
theorem sound_strconv_Atoi : SoundC Tryd.prog tab n_strconv_Atoi c_strconv_Atoi := by
  intro vs bs p v bs' h hp w S μ xs I hx
  unfold c_strconv_Atoi at h
  split at h
  · cases h
    rename_i s
    obtain ⟨h1, _⟩ := hp
    have h1 : s.length ≤ 4000000 := h1
    match xs, hx with
    | [X], ⟨g1, _⟩ =>
      have e1 := rel_str g1
      subst e1
      have hE : ∀ g, g ∈ tab.errs → ∃ ev, w.cell? ⟨g, 0, none⟩ = some ev ∧ (ev = .nilIface ∨ ∃ t u, ev = .iface t u) := fun g hg => (I.pow.e g hg).2
      cases ha : Go.Lib.atoiAll s with
      | ok v =>
        have e3 : atoiV s = v := by unfold atoiV; rw [ha]
        have e4 : atoiE s = true := by unfold atoiE; rw [ha]
        rw [e3, e4]
        refine (Tryd.strconv_Atoi_ok ⟨s.toArray⟩ (show s.length ≤ 9223372036854775806 by omega) v ha w).mono fun e w' ⟨he, hw⟩ => ?_
        subst he
        have hb : Below w.heap.size w w' := by
          rcases hw with rfl | ⟨t, rfl⟩
          · exact Below.refl _ _
          · exact ⟨rfl, rfl, rfl, by rw [Go.Lib.bytesWorld_size]; omega, fun k hk => Go.Lib.bytesWorld_at_old _ _ _ _ hk⟩
        obtain ⟨E, I'⟩ := below_EI I hb
        exact ⟨_, μ, S, rfl, E, I', mk_pair_strconv_Atoi ⟨rfl, .int _⟩ ⟨rfl, .err0⟩⟩
      | range =>
        have e3 : atoiV s = Go.Lib.atoiSat s := by unfold atoiV; rw [ha]
        have e4 : atoiE s = false := by unfold atoiE; rw [ha]
        rw [e3, e4]
        obtain ⟨ev, hv, hev⟩ := hE 1 (show 1 ∈ ([0, 1] : List Nat) by decide)
        refine (Tryd.strconv_Atoi_range ⟨s.toArray⟩ (show s.length ≤ 281474976710656 by omega) ha ev w hv hev).mono fun e w' ⟨N, he, _, _, hb⟩ => ?_
        subst he
        obtain ⟨E, I'⟩ := below_EI I hb
        exact ⟨_, μ, S, rfl, E, I', mk_pair_strconv_Atoi ⟨rfl, .int _⟩ ⟨rfl, .err1 _ _⟩⟩
      | _ =>
        have e3 : atoiV s = 0 := by unfold atoiV; rw [ha]
        have e4 : atoiE s = false := by unfold atoiE; rw [ha]
        rw [e3, e4]
        obtain ⟨ev, hv, hev⟩ := hE 0 (show 0 ∈ ([0, 1] : List Nat) by decide)
        refine (Any.strconv_Atoi_syntax Tryd.laysC172 ⟨s.toArray⟩ (show s.length ≤ 281474976710656 by omega) ha ev w hv hev).mono fun e w' ⟨N, he, _, _, hb⟩ => ?_
        subst he
        obtain ⟨E, I'⟩ := below_EI I hb
        exact ⟨_, μ, S, rfl, E, I', mk_pair_strconv_Atoi ⟨rfl, .int _⟩ ⟨rfl, .err1 _ _⟩⟩
  · cases h
end Go.Proofs.YtlbppjmekiemiacDoor

/- strconv.Itoa, of whatever number: the shelf's contract as one of ours. The number is one of 64 bits. -/
namespace Go.Proofs.YtlbppjmekiemiacDoor
open Go.RowKit Go.Lib Go.Sort Vm
abbrev n_strconv_Itoa_i : Nat := n_strconv_Itoa
noncomputable abbrev fn_strconv_Itoa_i : Func := fn_strconv_Itoa
theorem hf_strconv_Itoa_i : Tryd.prog.funcs[n_strconv_Itoa_i]? = some fn_strconv_Itoa_i := hf_strconv_Itoa
theorem hB_strconv_Itoa_i : fnB fn_strconv_Itoa_i = true := hB_strconv_Itoa
def c_strconv_Itoa_i : Contract := fun vs bs => match vs, bs with
  | [.one (.dat .int n)], [] => some (some (In64 n), .one (.dat .str (Go.Lib.itoa n)), [])
  | _, _ => none
theorem sound_strconv_Itoa_i : SoundC Tryd.prog tab n_strconv_Itoa c_strconv_Itoa_i := by
  intro vs bs p v bs' h hp w S μ xs I hx
  unfold c_strconv_Itoa_i at h
  split at h
  · cases h
    rename_i n
    obtain ⟨⟨h1, h2⟩, _⟩ := hp
    have h1 : (-9223372036854775808 : Int) ≤ n := h1
    have h2 : (n : Int) ≤ 9223372036854775807 := h2
    match xs, hx with
    | [X], ⟨g1, _⟩ =>
      have e1 := rel_int g1
      subst e1
      obtain ⟨g, hg⟩ : ∃ g, tab.pow = some g := ⟨_, rfl⟩
      obtain ⟨_, ty, m, hb⟩ := I.pow.t g hg
      have htab : Go.Lib.TabIs Tryd.prog w "internal/strconv.uint64pow10" .u64 Go.Lib.pow10Tab := by
        have hgn : Tryd.prog.globalNamed "internal/strconv.uint64pow10" = tab.pow := by kernel_rfl
        unfold Go.Lib.TabIs World.var?
        rw [hgn, hg]
        simp only [Option.bind_some, hb]
        rfl
      refine (Tryd.strconv_Itoa n h1 h2 w htab).mono fun e w' ⟨he, k, os, hw⟩ => ?_
      subst hw he
      have hsz : (grow (w.drewN k) os).heap = w.heap ++ os := rfl
      have E : Ext μ (memL []) w S μ (memL []) (grow (w.drewN k) os) S := ⟨fun _ h => h, (Ext.refl (μ := μ) (mem := memL []) (w := w) (S := S)).kinds, fun _ h => h, by rw [hsz]; simp, fun b hb _ => by rw [hsz, Array.getElem?_append_left hb], fun _ h => .inl h, fun _ h => .inl h, rfl, rfl, rfl⟩
      refine ⟨_, μ, S, rfl, E, ⟨fun r B h => by simp [memL] at h, fun r r' _ ⟨B, h, _⟩ => by simp [memL] at h, fun r ⟨B, h, _⟩ => by simp [memL] at h, fun b hb => Nat.lt_of_lt_of_le (I.lt b hb) E.size, I.powExt E⟩, mk_str _⟩
  · cases h
end Go.Proofs.YtlbppjmekiemiacDoor

/- strconv.ParseInt to base 10, of 64 bits: the shelf's contract as one of ours. The text is no longer than 4000000 bytes. -/
namespace Go.Proofs.YtlbppjmekiemiacDoor
open Go.RowKit Go.Lib Vm
theorem mk_pair_strconv_ParseInt {μ : Mu} {w : World} {S : Nat → Prop} {a b : C} {x y : Value} (hx : RelW tab μ (memL []) w S (.one a) x) (hy : RelW tab μ (memL []) w S (.one b) y) : RelV tab μ (memL []) w S (.tup [.one a, .one b]) (.tuple #[x, y]) :=
  ⟨_, rfl, rfl, fun i v hi => by
    match i, hi with
    | 0, hi => cases hi; exact ⟨x, rfl, hx⟩
    | 1, hi => cases hi; exact ⟨y, rfl, hy⟩⟩
def c_strconv_ParseInt : Contract := fun vs bs => match vs, bs with
  | [.one (.dat .str s), .one (.dat .int 10), .one (.dat .int 64)], [] => some (some (s.length ≤ 4000000), .tup [.one (.dat .int (intV s)), .one (.dat .err (atoiE s))], [])
  | _, _ => none
theorem sound_strconv_ParseInt : SoundC Tryd.prog tab n_strconv_ParseInt c_strconv_ParseInt := by
  intro vs bs p v bs' h hp w S μ xs I hx
  unfold c_strconv_ParseInt at h
  split at h
  · cases h
    rename_i s
    obtain ⟨h1, _⟩ := hp
    have h1 : s.length ≤ 4000000 := h1
    match xs, hx with
    | [X, Y, Z], ⟨g1, g2, g3, _⟩ =>
      have e1 := rel_str g1
      have e2 := rel_int g2
      have e3 := rel_int g3
      subst e1 e2 e3
      have hE : ∀ g, g ∈ tab.errs → ∃ ev, w.cell? ⟨g, 0, none⟩ = some ev ∧ (ev = .nilIface ∨ ∃ t u, ev = .iface t u) := fun g hg => (I.pow.e g hg).2
      cases ha : Go.Lib.parseIntB 64 s with
      | ok v =>
        have e3 : intV s = v := by unfold intV; rw [ha]
        have e4 : atoiE s = true := by unfold atoiE; rw [← parseInt_is, ha]
        rw [e3, e4]
        refine (Tryd.strconv_ParseInt_10_at64_ok ⟨s.toArray⟩ (show s.length ≤ 9223372036854775806 by omega) v ha w).mono fun e w' ⟨he, hw⟩ => ?_
        subst he
        have hb : Below w.heap.size w w' := by
          rcases hw with rfl | ⟨t, rfl⟩
          · exact Below.refl _ _
          · exact ⟨rfl, rfl, rfl, by rw [Go.Lib.bytesWorld_size]; omega, fun k hk => Go.Lib.bytesWorld_at_old _ _ _ _ hk⟩
        obtain ⟨E, I'⟩ := below_EI I hb
        exact ⟨_, μ, S, rfl, E, I', mk_pair_strconv_ParseInt ⟨rfl, .int _⟩ ⟨rfl, .err0⟩⟩
      | range =>
        have e3 : intV s = Go.Lib.intSat 64 s := by unfold intV; rw [ha]
        have e4 : atoiE s = false := by unfold atoiE; rw [← parseInt_is, ha]
        rw [e3, e4]
        obtain ⟨ev, hv, hev⟩ := hE 1 (show 1 ∈ ([0, 1] : List Nat) by decide)
        refine (Tryd.strconv_ParseInt_10_at64_range ⟨s.toArray⟩ (show s.length ≤ 281474976710656 by omega) ha ev w hv hev).mono fun e w' ⟨N, he, _, _, hb⟩ => ?_
        subst he
        obtain ⟨E, I'⟩ := below_EI I hb
        exact ⟨_, μ, S, rfl, E, I', mk_pair_strconv_ParseInt ⟨rfl, .int _⟩ ⟨rfl, .err1 _ _⟩⟩
      | _ =>
        have e3 : intV s = 0 := by unfold intV; rw [ha]
        have e4 : atoiE s = false := by unfold atoiE; rw [← parseInt_is, ha]
        rw [e3, e4]
        obtain ⟨ev, hv, hev⟩ := hE 0 (show 0 ∈ ([0, 1] : List Nat) by decide)
        refine (Any.strconv_ParseInt_10_at64_syntax Tryd.laysC174 ⟨s.toArray⟩ (show s.length ≤ 281474976710656 by omega) ha ev w hv hev).mono fun e w' ⟨N, he, _, _, hb⟩ => ?_
        subst he
        obtain ⟨E, I'⟩ := below_EI I hb
        exact ⟨_, μ, S, rfl, E, I', mk_pair_strconv_ParseInt ⟨rfl, .int _⟩ ⟨rfl, .err1 _ _⟩⟩
  · cases h
end Go.Proofs.YtlbppjmekiemiacDoor

/- strconv.FormatInt to base 10: the shelf's contract as one of ours. The number is one of 64 bits. -/
namespace Go.Proofs.YtlbppjmekiemiacDoor
open Go.RowKit Go.Lib Go.Sort Vm
def c_strconv_FormatInt : Contract := fun vs bs => match vs, bs with
  | [.one (.dat .int n), .one (.dat .int 10)], [] => some (some (In64 n), .one (.dat .str (Go.Lib.itoa n)), [])
  | _, _ => none
theorem sound_strconv_FormatInt : SoundC Tryd.prog tab n_strconv_FormatInt c_strconv_FormatInt := by
  intro vs bs p v bs' h hp w S μ xs I hx
  unfold c_strconv_FormatInt at h
  split at h
  · cases h
    rename_i n
    obtain ⟨⟨h1, h2⟩, _⟩ := hp
    have h1 : (-9223372036854775808 : Int) ≤ n := h1
    have h2 : (n : Int) ≤ 9223372036854775807 := h2
    match xs, hx with
    | [X, Y], ⟨g1, g2, _⟩ =>
      have e1 := rel_int g1
      have e2 := rel_int g2
      subst e1 e2
      obtain ⟨g, hg⟩ : ∃ g, tab.pow = some g := ⟨_, rfl⟩
      obtain ⟨_, ty, m, hb⟩ := I.pow.t g hg
      have htab : Go.Lib.TabIs Tryd.prog w "internal/strconv.uint64pow10" .u64 Go.Lib.pow10Tab := by
        have hgn : Tryd.prog.globalNamed "internal/strconv.uint64pow10" = tab.pow := by kernel_rfl
        unfold Go.Lib.TabIs World.var?
        rw [hgn, hg]
        simp only [Option.bind_some, hb]
        rfl
      refine (Tryd.strconv_FormatInt_10 n h1 h2 w htab).mono fun e w' ⟨he, k, os, hw⟩ => ?_
      subst hw he
      have hsz : (grow (w.drewN k) os).heap = w.heap ++ os := rfl
      have E : Ext μ (memL []) w S μ (memL []) (grow (w.drewN k) os) S := ⟨fun _ h => h, (Ext.refl (μ := μ) (mem := memL []) (w := w) (S := S)).kinds, fun _ h => h, by rw [hsz]; simp, fun b hb _ => by rw [hsz, Array.getElem?_append_left hb], fun _ h => .inl h, fun _ h => .inl h, rfl, rfl, rfl⟩
      refine ⟨_, μ, S, rfl, E, ⟨fun r B h => by simp [memL] at h, fun r r' _ ⟨B, h, _⟩ => by simp [memL] at h, fun r ⟨B, h, _⟩ => by simp [memL] at h, fun b hb => Nat.lt_of_lt_of_le (I.lt b hb) E.size, I.powExt E⟩, mk_str _⟩
  · cases h
end Go.Proofs.YtlbppjmekiemiacDoor

/- strings.CutPrefix: the shelf's contract as one of ours. No condition. -/
namespace Go.Proofs.YtlbppjmekiemiacDoor
open Go.RowKit Go.Lib Vm
theorem mk_two {μ : Mu} {w : World} {S : Nat → Prop} {a b : C} {x y : Value} (hx : RelW tab μ (memL []) w S (.one a) x) (hy : RelW tab μ (memL []) w S (.one b) y) : RelV tab μ (memL []) w S (.tup [.one a, .one b]) (.tuple #[x, y]) :=
  ⟨_, rfl, rfl, fun i v hi => by
    match i, hi with
    | 0, hi => cases hi; exact ⟨x, rfl, hx⟩
    | 1, hi => cases hi; exact ⟨y, rfl, hy⟩⟩
def c_strings_CutPrefix : Contract := fun vs bs => match vs, bs with
  | [.one (.dat .str s), .one (.dat .str p)], [] => some (none, .tup [.one (.dat .str (Go.Lib.trimPrefix s p)), .one (.dat .bool (Go.Lib.hasPrefix s p))], [])
  | _, _ => none
theorem sound_strings_CutPrefix : SoundC Tryd.prog tab n_strings_CutPrefix c_strings_CutPrefix := by
  intro vs bs p v bs' h hp w S μ xs I hx
  unfold c_strings_CutPrefix at h
  split at h
  · cases h
    rename_i s q
    match xs, hx with
    | [X, Y], ⟨g1, g2, _⟩ =>
      have e1 := rel_str g1
      have e2 := rel_str g2
      subst e1 e2
      refine (Tryd.strings_CutPrefix ⟨s.toArray⟩ ⟨q.toArray⟩ w).mono fun e w' ⟨he, hw⟩ => ?_
      subst hw he
      exact ⟨_, μ, S, rfl, Ext.refl, I, mk_two ⟨rfl, .str _⟩ ⟨rfl, .bool _⟩⟩
  · cases h
end Go.Proofs.YtlbppjmekiemiacDoor

/- strings.Cut: the shelf's contract as one of ours. The text is no longer than 4000000 bytes. -/
namespace Go.Proofs.YtlbppjmekiemiacDoor
open Go.RowKit Go.Lib Vm
theorem mk_three {μ : Mu} {w : World} {S : Nat → Prop} {a b c : C} {x y z : Value} (hx : RelW tab μ (memL []) w S (.one a) x) (hy : RelW tab μ (memL []) w S (.one b) y) (hz : RelW tab μ (memL []) w S (.one c) z) : RelV tab μ (memL []) w S (.tup [.one a, .one b, .one c]) (.tuple #[x, y, z]) :=
  ⟨_, rfl, rfl, fun i v hi => by
    match i, hi with
    | 0, hi => cases hi; exact ⟨x, rfl, hx⟩
    | 1, hi => cases hi; exact ⟨y, rfl, hy⟩
    | 2, hi => cases hi; exact ⟨z, rfl, hz⟩⟩
def c_strings_Cut : Contract := fun vs bs => match vs, bs with
  | [.one (.dat .str s), .one (.dat .str sep)], [] => some (some (s.length ≤ 4000000), .tup [.one (.dat .str (Go.Lib.cut s sep).1), .one (.dat .str (Go.Lib.cut s sep).2.1), .one (.dat .bool (Go.Lib.cut s sep).2.2)], [])
  | _, _ => none
theorem sound_strings_Cut : SoundC Tryd.prog tab n_strings_Cut c_strings_Cut := by
  intro vs bs p v bs' h hp w S μ xs I hx
  unfold c_strings_Cut at h
  split at h
  · cases h
    rename_i s sep
    obtain ⟨h1, _⟩ := hp
    have h1 : s.length ≤ 4000000 := h1
    match xs, hx with
    | [X, Y], ⟨g1, g2, _⟩ =>
      have e1 := rel_str g1
      have e2 := rel_str g2
      subst e1 e2
      obtain ⟨_, m, hm⟩ := I.pow.m _ rfl
      refine (Tryd.strings_Cut ⟨s.toArray⟩ ⟨sep.toArray⟩ m w (show s.length < 4294967281 by omega) hm).mono fun e w' ⟨he, k, hw⟩ => ?_
      subst hw he
      obtain ⟨E, I'⟩ := below_EI (w' := w.drewN k) I ⟨rfl, rfl, rfl, Nat.le_refl _, fun _ _ => rfl⟩
      exact ⟨_, μ, S, rfl, E, I', mk_three ⟨rfl, .str _⟩ ⟨rfl, .str _⟩ ⟨rfl, .bool _⟩⟩
  · cases h
end Go.Proofs.YtlbppjmekiemiacDoor
namespace Go.Proofs.YtlbppjmekiemiacDoor
open Vm
set_option maxHeartbeats 4000000
def c_meta_CheckRoot : Contract := fun vs bs => match vs, bs with
  | [.agg [.dat .int v, .dat (.list .int) ks, .dat .int t]], [] => some (none, .one (dI (checkRoot v ks t)), [])
  | _, _ => none
def Γ_meta_CheckRoot : Ctx := []
theorem ok_meta_CheckRoot : Ok Tryd.prog tab Γ_meta_CheckRoot := ok_nil
noncomputable def meta_CheckRoot_L0 : List It := [.inLoop [26, 25, 24, 2, 1] (Code.sub (bodyOf fn_meta_CheckRoot) [1, 1, 1, 0, 1, 0, 0]), .inBlock 0, .code (Code.sub (bodyOf fn_meta_CheckRoot) [1, 1, 1, 1])]
def meta_CheckRoot_S0 (x0 : Int) (x1 : Int) (x2 : (List Int)) (x3 : Int) (x4 : Int) (x5 : (List Int)) (x6 : Int) : St := ⟨[(26, .one (dI x0)), (25, .one (dI x1)), (24, .one (dL x2)), (2, .one (dI x3)), (1, .one (.ptr 0 0))], [(0, .box [dI x4, dL x5, dI x6])], 1⟩
theorem meta_CheckRoot_vc (v : Int) (ks : List Int) (t : Int) (rec : RK) (K : KK) : segD Γ_meta_CheckRoot tab fn_meta_CheckRoot 0 K rec [.code (bodyOf fn_meta_CheckRoot)] (initSt [.agg [dI v, dL ks, dI t]] []) = (
 br (lti v (1 : Int))
 (K (.one (dI (3 : Int))) [])
 (br (lti (1000 : Int) v)
 (K (.one (dI (3 : Int))) [])
 (br (eqi (((len ks) : Nat) : Int) (0 : Int))
 (K (.one (dI (2 : Int))) [])
 (br (lti (6 : Int) (((len ks) : Nat) : Int))
 (K (.one (dI (2 : Int))) [])
 (rec meta_CheckRoot_L0 (meta_CheckRoot_S0 (0 : Int) (((len ks) : Nat) : Int) ks (0 : Int) v ks t)))))) := by kernel_rfl
theorem meta_CheckRoot_vc0 (x0 : Int) (x1 : Int) (x2 : (List Int)) (x3 : Int) (x4 : Int) (x5 : (List Int)) (x6 : Int) (rec : RK) (K : KK) v0 (hv0 : v0 = (rec meta_CheckRoot_L0 (meta_CheckRoot_S0 (w64 (x0 + (1 : Int))) x1 x2 x3 x4 x5 x6))) : segD Γ_meta_CheckRoot tab fn_meta_CheckRoot 0 K rec (ent meta_CheckRoot_L0) (meta_CheckRoot_S0 x0 x1 x2 x3 x4 x5 x6) = (
 br (lti x0 x1)
 ((((0 : Int) ≤ x0) ∧ (x0 < (((len x2) : Nat) : Int))) ∧
 (br (lti (nth x2 (Int.toNat x0) (Ty.dflt Ty.int)) (1 : Int))
 (K (.one (dI (3 : Int))) [])
 (br (lti (50 : Int) (nth x2 (Int.toNat x0) (Ty.dflt Ty.int)))
 (K (.one (dI (3 : Int))) [])
 (br (lti (0 : Int) x0)
 ((((0 : Int) ≤ (w64 (x0 - (1 : Int)))) ∧ ((w64 (x0 - (1 : Int))) < (((len x5) : Nat) : Int))) ∧
 (br (lei (nth x2 (Int.toNat x0) (Ty.dflt Ty.int)) (nth x5 (Int.toNat (w64 (x0 - (1 : Int)))) (Ty.dflt Ty.int)))
 (K (.one (dI (6 : Int))) [])
 v0))
 v0))))
 (br (lti x6 (1 : Int))
 (K (.one (dI (4 : Int))) [])
 (br (lti (((len x5) : Nat) : Int) x6)
 (K (.one (dI (4 : Int))) [])
 (K (.one (dI (0 : Int))) [])))) := by subst_vars; kernel_rfl

theorem loop_meta_CheckRoot (ks : List Int) (v t : Int) (hl : ks.length ≤ 6) (K : KK) (last : Nat → Option Int) (h0 : last 0 = none) (hs : ∀ k, k < ks.length → last (k + 1) = some (nth ks k 0)) : ∀ (d k : Nat), k + d = ks.length →
    K (.one (dI (rootEnd (keysFrom (last k) (ks.drop k)) t ks.length))) [] →
    goD Γ_meta_CheckRoot tab fn_meta_CheckRoot 0 K (d + 1) meta_CheckRoot_L0 (meta_CheckRoot_S0 (k : Int) (((len ks) : Nat) : Int) ks 0 v ks t)
  | 0, k, hk, hK => by
    rw [goD_in (L := meta_CheckRoot_L0), meta_CheckRoot_vc0 _ _ _ _ _ _ _ _ _ _ rfl]
    rw [List.drop_of_length_le (by omega)] at hK
    rw [show rootEnd (keysFrom (last k) []) t ks.length = if t < 1 ∨ (ks.length : Int) < t then 4 else 0 from rfl] at hK
    refine lt_f (by simp only [len]; omega) (lt_s (fun h => ?_) (fun h => lt_s (fun h2 => ?_) (fun h2 => ?_)))
    · rw [if_pos (.inl h)] at hK; exact hK
    · rw [if_pos (.inr h2)] at hK; exact hK
    · rw [if_neg (by simp only [len] at h2; omega)] at hK; exact hK
  | d + 1, k, hk, hK => by
    rw [goD_in (L := meta_CheckRoot_L0), meta_CheckRoot_vc0 _ _ _ _ _ _ _ _ _ _ rfl, toNat_nat]
    rw [drop_step (by omega) (Ty.dflt Ty.int)] at hK
    have hsk := hs k (by omega)
    have e : nth ks k (Ty.dflt Ty.int) = nth ks k 0 := rfl
    rw [e] at hK ⊢
    obtain ⟨x, hx⟩ : ∃ x, nth ks k (0 : Int) = x := ⟨_, rfl⟩
    rw [hx] at hK hsk ⊢
    have ek : w64 ((k : Int) + 1) = ((k + 1 : Nat) : Int) := w64_succ (by omega)
    rw [ek]
    refine lt_t (by simp only [len]; omega) ⟨⟨by omega, by simp only [len]; omega⟩, lt_s (fun h => ?_) (fun h => lt_s (fun h2 => ?_) (fun h2 => ?_))⟩
    · rw [show keysFrom (last k) (x :: ks.drop (k + 1)) = 3 from if_pos (.inl h)] at hK; exact hK
    · rw [show keysFrom (last k) (x :: ks.drop (k + 1)) = 3 from if_pos (.inr h2)] at hK; exact hK
    · rw [show keysFrom (last k) (x :: ks.drop (k + 1)) = if notBehind (last k) x then 6 else keysFrom (some x) (ks.drop (k + 1)) from if_neg (by omega)] at hK
      refine lt_s (fun h3 => ?_) (fun h3 => ?_)
      · obtain ⟨j, rfl⟩ : ∃ j, k = j + 1 := ⟨k - 1, by omega⟩
        have hj := hs j (by omega)
        rw [hj] at hK
        rw [w64_id (n := ((j + 1 : Nat) : Int) - 1) (by omega) (by omega), show Int.toNat (((j + 1 : Nat) : Int) - 1) = j by omega]
        have e2 : nth ks j (Ty.dflt Ty.int) = nth ks j 0 := rfl
        rw [e2]
        refine ⟨⟨by omega, by simp only [len]; omega⟩, br_split (fun h4 => ?_) (fun h4 => ?_)⟩
        · rw [lei_true] at h4
          rw [if_pos (show notBehind (some (nth ks j 0)) x = true from decide_eq_true h4)] at hK; exact hK
        · rw [lei_false] at h4
          rw [if_neg (show ¬ notBehind (some (nth ks j 0)) x = true from by simp only [notBehind, decide_eq_true_eq]; omega)] at hK
          refine loop_meta_CheckRoot ks v t hl K last h0 hs d (j + 1 + 1) (by omega) ?_
          rw [hsk]; exact hK
      · have hk0 : k = 0 := by omega
        subst hk0
        rw [h0] at hK
        rw [if_neg (show ¬ notBehind none x = true from by simp [notBehind])] at hK
        refine loop_meta_CheckRoot ks v t hl K last h0 hs d 1 (by omega) ?_
        rw [hsk]; exact hK
theorem run_meta_CheckRoot (v : Int) (ks : List Int) (t : Int) (K : KK) (hK : K (.one (dI (checkRoot v ks t))) []) : ∃ m, goD Γ_meta_CheckRoot tab fn_meta_CheckRoot 0 K m [.code (bodyOf fn_meta_CheckRoot)] (initSt [.agg [dI v, dL ks, dI t]] []) := by
  refine ⟨ks.length + 2, ?_⟩
  rw [goD_code, meta_CheckRoot_vc _ _ _ _ _]
  unfold checkRoot at hK
  refine lt_s (fun h => ?_) (fun h => lt_s (fun h2 => ?_) (fun h2 => eq_s (fun h3 => ?_) (fun h3 => lt_s (fun h4 => ?_) (fun h4 => ?_))))
  · rw [if_pos (.inl h)] at hK; exact hK
  · rw [if_pos (.inr h2)] at hK; exact hK
  · rw [if_neg (by omega), if_pos (by simp only [len] at h3; omega)] at hK; exact hK
  · rw [if_neg (by omega), if_pos (by simp only [len] at h4; omega)] at hK; exact hK
  · rw [if_neg (by omega), if_neg (by simp only [len] at h3 h4; omega)] at hK
    exact loop_meta_CheckRoot ks v t (by simp only [len] at h4; omega) K (fun k => match k with | 0 => none | k + 1 => some (nth ks k 0)) rfl (fun k _ => rfl) ks.length 0 (by omega) hK
theorem sound_meta_CheckRoot : SoundC Tryd.prog tab n_meta_CheckRoot c_meta_CheckRoot := soundC_of ok_meta_CheckRoot hf_meta_CheckRoot hB_meta_CheckRoot (by
  intro vs bs p v bs' h hp
  unfold c_meta_CheckRoot at h
  split at h
  · cases h
    exact ⟨by kernel_rfl, rfl, .inl (run_meta_CheckRoot _ _ _ _ ⟨rfl, rfl⟩)⟩
  · cases h)

def c_meta_list : Contract := fun vs bs => match vs, bs with
  | [.one (.dat (.list .int) l)], [] => some (some (len l ≤ 1000 ∧ nums l = true), .one (.dat .str (listT l)), [])
  | _, _ => none
def Γ_meta_list : Ctx := [(n_strconv_Itoa, c_strconv_Itoa), (n_strings_Join, c_strings_Join)]
theorem ok_meta_list : Ok Tryd.prog tab Γ_meta_list := ((ok_nil.consC hf_strings_Join hB_strings_Join sound_strings_Join).consC hf_strconv_Itoa hB_strconv_Itoa sound_strconv_Itoa)
noncomputable def meta_list_L0 : List It := [.inLoop [8, 7, 6, 3, 2] (Code.sub (bodyOf fn_meta_list) [1, 1, 0, 1, 0, 0]), .inBlock 0, .code (Code.sub (bodyOf fn_meta_list) [1, 1, 1])]
def meta_list_S0 (x0 : Int) (x1 : Int) (x2 : (List Int)) (x3 : (List UInt8)) (x4 : (List (List UInt8))) : St := ⟨[(8, .one (dI x0)), (7, .one (dI x1)), (6, .one (dL x2)), (3, .one (.own 0)), (2, .one (.dat Ty.str x3))], [(0, .arr Ty.str x4)], 1⟩
theorem meta_list_vc (l : List Int) (rec : RK) (K : KK) : segD Γ_meta_list tab fn_meta_list 0 K rec [.code (bodyOf fn_meta_list)] (initSt [.one (dL l)] []) = (
 rec meta_list_L0 (meta_list_S0 (0 : Int) (((len l) : Nat) : Int) l [] [])) := by kernel_rfl
theorem meta_list_vc0 (x0 : Int) (x1 : Int) (x2 : (List Int)) (x3 : (List UInt8)) (x4 : (List (List UInt8))) (rec : RK) (K : KK) v0 (hv0 : v0 = (numT (nth x2 (Int.toNat x0) (Ty.dflt Ty.int)))) v1 (hv1 : v1 = (joinT ((32 : UInt8) :: []) x4)) : segD Γ_meta_list tab fn_meta_list 0 K rec (ent meta_list_L0) (meta_list_S0 x0 x1 x2 x3 x4) = (
 br (lti x0 x1)
 ((((0 : Int) ≤ x0) ∧ (x0 < (((len x2) : Nat) : Int))) ∧
 ((((0 : Int) ≤ (nth x2 (Int.toNat x0) (Ty.dflt Ty.int))) ∧ ((nth x2 (Int.toNat x0) (Ty.dflt Ty.int)) ≤ (9223372036854775807 : Int))) ∧
 (((((len x4) + (len (v0 :: []))) * 16) ≤ 140737488355328) ∧
 (rec meta_list_L0 (meta_list_S0 (w64 (x0 + (1 : Int))) x1 x2 x3 (cat x4 (v0 :: [])))))))
 ((((List.length x4) ≤ 140737488355328) ∧ ((List.length v1) ≤ 140737488355328)) ∧
 (K (.one (.dat Ty.str v1)) []))) := by subst_vars; kernel_rfl

theorem loop_meta_list (l : List Int) (hl : l.length ≤ 1000) (hn : nums l = true) (K : KK) (hK : K (.one (.dat .str (listT l))) []) (y : List UInt8) : ∀ (d k : Nat), k + d = l.length →
    goD Γ_meta_list tab fn_meta_list 0 K (d + 1) meta_list_L0 (meta_list_S0 (k : Int) (((len l) : Nat) : Int) l y ((l.take k).map numT))
  | 0, k, hk => by
    rw [goD_in (L := meta_list_L0), meta_list_vc0 _ _ _ _ _ _ _ _ rfl _ rfl, List.take_of_length_le (by omega)]
    have h1 := listT_len l
    unfold listT at h1
    exact lt_f (by simp only [len]; omega) ⟨⟨by rw [List.length_map]; omega, by omega⟩, hK⟩
  | d + 1, k, hk => by
    rw [goD_in (L := meta_list_L0), meta_list_vc0 _ _ _ _ _ _ _ _ rfl _ rfl, toNat_nat]
    have hm : nth l k (Ty.dflt Ty.int) ∈ l := by
      have : k < l.length := by omega
      simp [nth, List.getD_eq_getElem?_getD, this]
    have h1 := List.all_eq_true.1 hn _ hm
    simp only [Bool.and_eq_true, decide_eq_true_eq] at h1
    refine lt_t (by simp only [len]; omega) ⟨⟨by omega, by simp only [len]; omega⟩, h1, by simp only [len, List.length_map, List.length_take, List.length_cons, List.length_nil]; omega, ?_⟩
    rw [w64_succ (by omega), show cat ((l.take k).map numT) [numT (nth l k (Ty.dflt Ty.int))] = (l.take (k + 1)).map numT from by rw [take_step (by omega) (Ty.dflt Ty.int)]; simp [cat]]
    exact loop_meta_list l hl hn K hK y d (k + 1) (by omega)
theorem run_meta_list (l : List Int) (hp : len l ≤ 1000 ∧ nums l = true) (K : KK) (hK : K (.one (.dat .str (listT l))) []) : ∃ m, goD Γ_meta_list tab fn_meta_list 0 K m [.code (bodyOf fn_meta_list)] (initSt [.one (dL l)] []) := by
  refine ⟨l.length + 2, ?_⟩
  rw [goD_code, meta_list_vc _ _ _]
  exact loop_meta_list l hp.1 hp.2 K hK [] l.length 0 (by omega)
theorem sound_meta_list : SoundC Tryd.prog tab n_meta_list c_meta_list := soundC_of ok_meta_list hf_meta_list hB_meta_list (by
  intro vs bs p v bs' h hp
  unfold c_meta_list at h
  split at h
  · cases h
    exact ⟨by kernel_rfl, rfl, .inl (run_meta_list _ hp.1 _ ⟨rfl, rfl⟩)⟩
  · cases h)

def c_meta_RootText : Contract := fun vs bs => match vs, bs with
  | [.agg [.dat .int v, .dat (.list .int) ks, .dat .int t]], [] => some (none, .tup [.one (.dat .str (rootTextE v ks t).1), .one (dI (rootTextE v ks t).2)], [])
  | _, _ => none
def Γ_meta_RootText : Ctx := [(n_meta_CheckRoot, c_meta_CheckRoot), (n_strconv_Itoa, c_strconv_Itoa), (n_meta_list, c_meta_list)]
theorem ok_meta_RootText : Ok Tryd.prog tab Γ_meta_RootText := (((ok_nil.consC hf_meta_list hB_meta_list sound_meta_list).consC hf_strconv_Itoa hB_strconv_Itoa sound_strconv_Itoa).consC hf_meta_CheckRoot hB_meta_CheckRoot sound_meta_CheckRoot)
theorem meta_RootText_vc (v : Int) (ks : List Int) (t : Int) (rec : RK) (K : KK) v0 (hv0 : v0 = (checkRoot v ks t)) v1 (hv1 : v1 = (numT v)) v2 (hv2 : v2 = (numT t)) v3 (hv3 : v3 = (nums ks)) v4 (hv4 : v4 = (listT ks)) : segD Γ_meta_RootText tab fn_meta_RootText 0 K rec [.code (bodyOf fn_meta_RootText)] (initSt [.agg [dI v, dL ks, dI t]] []) = (
 br (!(eqi v0 (0 : Int)))
 (K (.tup [.one (.dat Ty.str []), .one (dI v0)]) [])
 ((((0 : Int) ≤ v) ∧ (v ≤ (9223372036854775807 : Int))) ∧
 ((((len ((114 : UInt8) :: ((111 : UInt8) :: ((111 : UInt8) :: ((116 : UInt8) :: ((32 : UInt8) :: [])))))) + (len v1)) ≤ 140737488355328) ∧
 ((((len (cat ((114 : UInt8) :: ((111 : UInt8) :: ((111 : UInt8) :: ((116 : UInt8) :: ((32 : UInt8) :: []))))) v1)) + (len ((32 : UInt8) :: []))) ≤ 140737488355328) ∧
 ((((0 : Int) ≤ t) ∧ (t ≤ (9223372036854775807 : Int))) ∧
 ((((len (cat (cat ((114 : UInt8) :: ((111 : UInt8) :: ((111 : UInt8) :: ((116 : UInt8) :: ((32 : UInt8) :: []))))) v1) ((32 : UInt8) :: []))) + (len v2)) ≤ 140737488355328) ∧
 ((((len (cat (cat (cat ((114 : UInt8) :: ((111 : UInt8) :: ((111 : UInt8) :: ((116 : UInt8) :: ((32 : UInt8) :: []))))) v1) ((32 : UInt8) :: [])) v2)) + (len ((32 : UInt8) :: ((111 : UInt8) :: ((102 : UInt8) :: ((32 : UInt8) :: [])))))) ≤ 140737488355328) ∧
 ((((len ks) ≤ 1000) ∧ (v3 = true)) ∧
 ((((len (cat (cat (cat (cat ((114 : UInt8) :: ((111 : UInt8) :: ((111 : UInt8) :: ((116 : UInt8) :: ((32 : UInt8) :: []))))) v1) ((32 : UInt8) :: [])) v2) ((32 : UInt8) :: ((111 : UInt8) :: ((102 : UInt8) :: ((32 : UInt8) :: [])))))) + (len v4)) ≤ 140737488355328) ∧
 (K (.tup [.one (.dat Ty.str (cat (cat (cat (cat (cat ((114 : UInt8) :: ((111 : UInt8) :: ((111 : UInt8) :: ((116 : UInt8) :: ((32 : UInt8) :: []))))) v1) ((32 : UInt8) :: [])) v2) ((32 : UInt8) :: ((111 : UInt8) :: ((102 : UInt8) :: ((32 : UInt8) :: []))))) v4)), .one (dI (0 : Int))]) [])))))))))) := by subst_vars; kernel_rfl

theorem run_meta_RootText (v : Int) (ks : List Int) (t : Int) (K : KK) (hK : K (.tup [.one (.dat .str (rootTextE v ks t).1), .one (dI (rootTextE v ks t).2)]) []) : ∃ m, goD Γ_meta_RootText tab fn_meta_RootText 0 K m [.code (bodyOf fn_meta_RootText)] (initSt [.agg [dI v, dL ks, dI t]] []) := by
  refine ⟨1, ?_⟩
  rw [goD_code, meta_RootText_vc _ _ _ _ _ _ rfl _ rfl _ rfl _ rfl _ rfl]
  unfold rootTextE at hK
  refine ne_s (fun h => ?_) (fun h => ?_)
  · rw [if_neg h] at hK; exact hK
  rw [if_pos h] at hK
  obtain ⟨h1, h2, h3, h4, h5, h6⟩ := checkRoot_ok h
  have n1 := numT_len v
  have n2 := numT_len t
  have n3 := listT_len ks
  refine ⟨by omega, by simp only [len, List.length_cons, List.length_nil]; omega, by simp only [len, cat, List.length_append, List.length_cons, List.length_nil]; omega, by omega, by simp only [len, cat, List.length_append, List.length_cons, List.length_nil]; omega, by simp only [len, cat, List.length_append, List.length_cons, List.length_nil]; omega, ⟨by simp only [len]; omega, h6⟩, by simp only [len, cat, List.length_append, List.length_cons, List.length_nil]; omega, hK⟩
theorem sound_meta_RootText : SoundC Tryd.prog tab n_meta_RootText c_meta_RootText := soundC_of ok_meta_RootText hf_meta_RootText hB_meta_RootText (by
  intro vs bs p v bs' h hp
  unfold c_meta_RootText at h
  split at h
  · cases h
    exact ⟨by kernel_rfl, rfl, .inl (run_meta_RootText _ _ _ _ ⟨rfl, rfl⟩)⟩
  · cases h)

def c_meta_CheckRelease : Contract := fun vs bs => match vs, bs with
  | [.agg [.dat .int v, .dat .int u, .dat (.list .target) ts]], [] => some (none, .one (dI (checkRelease v u ts)), [])
  | _, _ => none
def Γ_meta_CheckRelease : Ctx := []
theorem ok_meta_CheckRelease : Ok Tryd.prog tab Γ_meta_CheckRelease := ok_nil
noncomputable def meta_CheckRelease_L0 : List It := [.inLoop [38, 37, 36, 2] (Code.sub (bodyOf fn_meta_CheckRelease) [1, 1, 1, 0, 1, 0, 0]), .inBlock 0, .code (Code.sub (bodyOf fn_meta_CheckRelease) [1, 1, 1, 1])]
def meta_CheckRelease_S0 (x0 : Int) (x1 : Int) (x2 : (List Vm.Target)) (x3 : Int) : St := ⟨[(38, .one (dI x0)), (37, .one (dI x1)), (36, .one (.dat (Ty.list Ty.target) x2)), (2, .one (dI x3))], [], 0⟩
noncomputable def meta_CheckRelease_L1 : List It := [.inLoop [55, 54, 53, 52, 51, 50, 49, 48, 47, 46, 45, 44, 43, 3, 4, 42, 41, 40, 39, 38, 37, 36, 2] (Code.sub (bodyOf fn_meta_CheckRelease) [1, 1, 1, 0, 1, 0, 0, 1, 1, 0, 0, 1, 1, 0, 0]), .inBlock 2, .inBlock 1, .code (Code.sub (bodyOf fn_meta_CheckRelease) [1, 1, 1, 0, 1, 0, 0, 1, 1, 1]), .inLoop [38, 37, 36, 2] (Code.sub (bodyOf fn_meta_CheckRelease) [1, 1, 1, 0, 1, 0, 0]), .inBlock 0, .code (Code.sub (bodyOf fn_meta_CheckRelease) [1, 1, 1, 1])]
def meta_CheckRelease_S1 (x0 : Int) (x1 : Int) (x2 : Int) (x3 : Int) (x4 : Int) (x5 : Int) (x6 : Int) (x7 : Int) (x8 : Int) (x9 : Int) (x10 : Int) (x11 : Int) (x12 : Int) (x13 : Int) (x14 : Int) (x15 : Int) (x16 : Int) (x17 : Int) (x18 : Int) (x19 : Int) (x20 : Int) (x21 : Int) (x22 : Int) (x23 : Int) (x24 : Int) (x25 : Int) (x26 : Int) (x27 : Int) (x28 : (List Vm.Target)) (x29 : Nat) (x30 : Int) (x31 : Bool) (x32 : Int) (x33 : Int) (x34 : (List Vm.Target)) (x35 : Int) (x36 : Int) (x37 : Int) (x38 : Int) : St := ⟨[(55, .one (dI x0)), (54, .agg [dI x1, dI x2, dI x3, dI x4, dI x5, dI x6, dI x7, dI x8, dI x9]), (53, .agg [dI x10, dI x11, dI x12]), (52, .one (dI x13)), (51, .one (.ptr 0 2)), (50, .agg [dI x14, dI x15, dI x16]), (49, .one (dI x17)), (48, .one (.ptr 0 1)), (47, .agg [dI x18, dI x19, dI x20]), (46, .one (dI x21)), (45, .one (dI x22)), (44, .one (dI x23)), (43, .one (.ptr 0 0)), (3, .one (dI x24)), (4, .one (.ptr 0 0)), (42, .agg [dI x25, dI x26, dI x27]), (41, .one (.eptr Ty.target x28 x29 0)), (40, .one (dI x30)), (39, .one (dB x31)), (38, .one (dI x32)), (37, .one (dI x33)), (36, .one (.dat (Ty.list Ty.target) x34)), (2, .one (dI x35))], [(0, .box [dI x36, dI x37, dI x38])], 1⟩
theorem meta_CheckRelease_vc (v : Int) (u : Int) (ts : List Vm.Target) (rec : RK) (K : KK) : segD Γ_meta_CheckRelease tab fn_meta_CheckRelease 0 K rec [.code (bodyOf fn_meta_CheckRelease)] (initSt [.agg [dI v, dI u, .dat (Ty.list Ty.target) ts]] []) = (
 br (lti v (1 : Int))
 (K (.one (dI (3 : Int))) [])
 (br (lti (1000 : Int) v)
 (K (.one (dI (3 : Int))) [])
 (br (lti u (0 : Int))
 (K (.one (dI (3 : Int))) [])
 (br (lti (100000 : Int) u)
 (K (.one (dI (3 : Int))) [])
 (br (eqi (((len ts) : Nat) : Int) (0 : Int))
 (K (.one (dI (2 : Int))) [])
 (br (lti (4 : Int) (((len ts) : Nat) : Int))
 (K (.one (dI (2 : Int))) [])
 (rec meta_CheckRelease_L0 (meta_CheckRelease_S0 (0 : Int) (((len ts) : Nat) : Int) ts (0 : Int))))))))) := by kernel_rfl
theorem meta_CheckRelease_vc0 (x0 : Int) (x1 : Int) (x2 : (List Vm.Target)) (x3 : Int) (rec : RK) (K : KK) : segD Γ_meta_CheckRelease tab fn_meta_CheckRelease 0 K rec (ent meta_CheckRelease_L0) (meta_CheckRelease_S0 x0 x1 x2 x3) = (
 br (lti x0 x1)
 ((((0 : Int) ≤ x0) ∧ (x0 < (((len x2) : Nat) : Int))) ∧
 (rec meta_CheckRelease_L1 (meta_CheckRelease_S1 (0 : Int) ((nth x2 (Int.toNat x0) (Ty.dflt Ty.target))).unit x0 x0 ((nth x2 (Int.toNat x0) (Ty.dflt Ty.target))).image (1 : Int) (60 : Int) ((nth x2 (Int.toNat x0) (Ty.dflt Ty.target))).long (1 : Int) (40 : Int) ((nth x2 (Int.toNat x0) (Ty.dflt Ty.target))).long (1 : Int) (40 : Int) ((nth x2 (Int.toNat x0) (Ty.dflt Ty.target))).long ((nth x2 (Int.toNat x0) (Ty.dflt Ty.target))).image (1 : Int) (60 : Int) ((nth x2 (Int.toNat x0) (Ty.dflt Ty.target))).image ((nth x2 (Int.toNat x0) (Ty.dflt Ty.target))).unit x0 x0 x0 x0 ((nth x2 (Int.toNat x0) (Ty.dflt Ty.target))).unit x0 ((nth x2 (Int.toNat x0) (Ty.dflt Ty.target))).unit ((nth x2 (Int.toNat x0) (Ty.dflt Ty.target))).image ((nth x2 (Int.toNat x0) (Ty.dflt Ty.target))).long x2 (Int.toNat x0) x0 (lti x0 x1) x0 x1 x2 x3 ((nth x2 (Int.toNat x0) (Ty.dflt Ty.target))).unit ((nth x2 (Int.toNat x0) (Ty.dflt Ty.target))).image ((nth x2 (Int.toNat x0) (Ty.dflt Ty.target))).long)))
 (K (.one (dI (0 : Int))) [])) := by kernel_rfl
theorem meta_CheckRelease_vc1_0 (x1 : Int) (x2 : Int) (x3 : Int) (x4 : Int) (x5 : Int) (x6 : Int) (x7 : Int) (x8 : Int) (x9 : Int) (x10 : Int) (x11 : Int) (x12 : Int) (x13 : Int) (x14 : Int) (x15 : Int) (x16 : Int) (x17 : Int) (x18 : Int) (x19 : Int) (x20 : Int) (x21 : Int) (x22 : Int) (x23 : Int) (x24 : Int) (x25 : Int) (x26 : Int) (x27 : Int) (x28 : (List Vm.Target)) (x29 : Nat) (x30 : Int) (x31 : Bool) (x32 : Int) (x33 : Int) (x34 : (List Vm.Target)) (x35 : Int) (x36 : Int) (x37 : Int) (x38 : Int) (rec : RK) (K : KK) : segD Γ_meta_CheckRelease tab fn_meta_CheckRelease 0 K rec (ent meta_CheckRelease_L1) (meta_CheckRelease_S1 (0 : Int) x1 x2 x3 x4 x5 x6 x7 x8 x9 x10 x11 x12 x13 x14 x15 x16 x17 x18 x19 x20 x21 x22 x23 x24 x25 x26 x27 x28 x29 x30 x31 x32 x33 x34 x35 x36 x37 x38) = (
 (((0 : Int) ≤ (0 : Int)) ∧ ((0 : Int) < ((3 : Nat) : Int))) ∧
 ((((0 : Int) ≤ (0 : Int)) ∧ ((0 : Int) < ((3 : Nat) : Int))) ∧
 ((((0 : Int) ≤ (1 : Int)) ∧ ((1 : Int) < ((3 : Nat) : Int))) ∧
 (br (lti x1 x2)
 (K (.one (dI (3 : Int))) [])
 ((((0 : Int) ≤ (0 : Int)) ∧ ((0 : Int) < ((3 : Nat) : Int))) ∧
 ((((0 : Int) ≤ (2 : Int)) ∧ ((2 : Int) < ((3 : Nat) : Int))) ∧
 (br (lti x3 x1)
 (K (.one (dI (3 : Int))) [])
 (rec meta_CheckRelease_L1 (meta_CheckRelease_S1 (w64 ((0 : Int) + (1 : Int))) x1 x2 x3 x4 x5 x6 x7 x8 x9 x10 x11 x12 x13 x14 x15 x16 x17 x18 x19 x20 x21 x22 x23 x24 x25 x26 x27 x28 x29 x30 x31 x32 x33 x34 x35 x36 x37 x38))))))))) := by kernel_rfl
theorem meta_CheckRelease_vc1_1 (x1 : Int) (x2 : Int) (x3 : Int) (x4 : Int) (x5 : Int) (x6 : Int) (x7 : Int) (x8 : Int) (x9 : Int) (x10 : Int) (x11 : Int) (x12 : Int) (x13 : Int) (x14 : Int) (x15 : Int) (x16 : Int) (x17 : Int) (x18 : Int) (x19 : Int) (x20 : Int) (x21 : Int) (x22 : Int) (x23 : Int) (x24 : Int) (x25 : Int) (x26 : Int) (x27 : Int) (x28 : (List Vm.Target)) (x29 : Nat) (x30 : Int) (x31 : Bool) (x32 : Int) (x33 : Int) (x34 : (List Vm.Target)) (x35 : Int) (x36 : Int) (x37 : Int) (x38 : Int) (rec : RK) (K : KK) : segD Γ_meta_CheckRelease tab fn_meta_CheckRelease 0 K rec (ent meta_CheckRelease_L1) (meta_CheckRelease_S1 (1 : Int) x1 x2 x3 x4 x5 x6 x7 x8 x9 x10 x11 x12 x13 x14 x15 x16 x17 x18 x19 x20 x21 x22 x23 x24 x25 x26 x27 x28 x29 x30 x31 x32 x33 x34 x35 x36 x37 x38) = (
 (((0 : Int) ≤ (1 : Int)) ∧ ((1 : Int) < ((3 : Nat) : Int))) ∧
 ((((0 : Int) ≤ (0 : Int)) ∧ ((0 : Int) < ((3 : Nat) : Int))) ∧
 ((((0 : Int) ≤ (1 : Int)) ∧ ((1 : Int) < ((3 : Nat) : Int))) ∧
 (br (lti x4 x5)
 (K (.one (dI (3 : Int))) [])
 ((((0 : Int) ≤ (0 : Int)) ∧ ((0 : Int) < ((3 : Nat) : Int))) ∧
 ((((0 : Int) ≤ (2 : Int)) ∧ ((2 : Int) < ((3 : Nat) : Int))) ∧
 (br (lti x6 x4)
 (K (.one (dI (3 : Int))) [])
 (rec meta_CheckRelease_L1 (meta_CheckRelease_S1 (w64 ((1 : Int) + (1 : Int))) x1 x2 x3 x4 x5 x6 x7 x8 x9 x10 x11 x12 x13 x14 x15 x16 x17 x18 x19 x20 x21 x22 x23 x24 x25 x26 x27 x28 x29 x30 x31 x32 x33 x34 x35 x36 x37 x38))))))))) := by kernel_rfl
theorem meta_CheckRelease_vc1_2 (x1 : Int) (x2 : Int) (x3 : Int) (x4 : Int) (x5 : Int) (x6 : Int) (x7 : Int) (x8 : Int) (x9 : Int) (x10 : Int) (x11 : Int) (x12 : Int) (x13 : Int) (x14 : Int) (x15 : Int) (x16 : Int) (x17 : Int) (x18 : Int) (x19 : Int) (x20 : Int) (x21 : Int) (x22 : Int) (x23 : Int) (x24 : Int) (x25 : Int) (x26 : Int) (x27 : Int) (x28 : (List Vm.Target)) (x29 : Nat) (x30 : Int) (x31 : Bool) (x32 : Int) (x33 : Int) (x34 : (List Vm.Target)) (x35 : Int) (x36 : Int) (x37 : Int) (x38 : Int) (rec : RK) (K : KK) : segD Γ_meta_CheckRelease tab fn_meta_CheckRelease 0 K rec (ent meta_CheckRelease_L1) (meta_CheckRelease_S1 (2 : Int) x1 x2 x3 x4 x5 x6 x7 x8 x9 x10 x11 x12 x13 x14 x15 x16 x17 x18 x19 x20 x21 x22 x23 x24 x25 x26 x27 x28 x29 x30 x31 x32 x33 x34 x35 x36 x37 x38) = (
 (((0 : Int) ≤ (2 : Int)) ∧ ((2 : Int) < ((3 : Nat) : Int))) ∧
 ((((0 : Int) ≤ (0 : Int)) ∧ ((0 : Int) < ((3 : Nat) : Int))) ∧
 ((((0 : Int) ≤ (1 : Int)) ∧ ((1 : Int) < ((3 : Nat) : Int))) ∧
 (br (lti x7 x8)
 (K (.one (dI (3 : Int))) [])
 ((((0 : Int) ≤ (0 : Int)) ∧ ((0 : Int) < ((3 : Nat) : Int))) ∧
 ((((0 : Int) ≤ (2 : Int)) ∧ ((2 : Int) < ((3 : Nat) : Int))) ∧
 (br (lti x9 x7)
 (K (.one (dI (3 : Int))) [])
 (rec meta_CheckRelease_L1 (meta_CheckRelease_S1 (w64 ((2 : Int) + (1 : Int))) x1 x2 x3 x4 x5 x6 x7 x8 x9 x10 x11 x12 x13 x14 x15 x16 x17 x18 x19 x20 x21 x22 x23 x24 x25 x26 x27 x28 x29 x30 x31 x32 x33 x34 x35 x36 x37 x38))))))))) := by kernel_rfl
theorem meta_CheckRelease_vc1_3 (x1 : Int) (x2 : Int) (x3 : Int) (x4 : Int) (x5 : Int) (x6 : Int) (x7 : Int) (x8 : Int) (x9 : Int) (x10 : Int) (x11 : Int) (x12 : Int) (x13 : Int) (x14 : Int) (x15 : Int) (x16 : Int) (x17 : Int) (x18 : Int) (x19 : Int) (x20 : Int) (x21 : Int) (x22 : Int) (x23 : Int) (x24 : Int) (x25 : Int) (x26 : Int) (x27 : Int) (x28 : (List Vm.Target)) (x29 : Nat) (x30 : Int) (x31 : Bool) (x32 : Int) (x33 : Int) (x34 : (List Vm.Target)) (x35 : Int) (x36 : Int) (x37 : Int) (x38 : Int) (rec : RK) (K : KK) : segD Γ_meta_CheckRelease tab fn_meta_CheckRelease 0 K rec (ent meta_CheckRelease_L1) (meta_CheckRelease_S1 (3 : Int) x1 x2 x3 x4 x5 x6 x7 x8 x9 x10 x11 x12 x13 x14 x15 x16 x17 x18 x19 x20 x21 x22 x23 x24 x25 x26 x27 x28 x29 x30 x31 x32 x33 x34 x35 x36 x37 x38) = (
 rec meta_CheckRelease_L0 (meta_CheckRelease_S0 (w64 (x32 + (1 : Int))) x33 x34 x35)) := by kernel_rfl

theorem loop_meta_CheckRelease (ts : List Vm.Target) (hl : ts.length ≤ 4) (K : KK) : ∀ (d k : Nat), k + d = ts.length → K (.one (dI (if okTargets (k : Int) (ts.drop k) then 0 else 3))) [] →
    goD Γ_meta_CheckRelease tab fn_meta_CheckRelease 0 K (5 * d + 1) meta_CheckRelease_L0 (meta_CheckRelease_S0 (k : Int) (((len ts) : Nat) : Int) ts 0)
  | 0, k, hk, hK => by
    rw [show 5 * 0 + 1 = 0 + 1 by omega, goD_in (L := meta_CheckRelease_L0), meta_CheckRelease_vc0 _ _ _ _ _ _]
    rw [List.drop_of_length_le (by omega)] at hK
    exact lt_f (by simp only [len]; omega) hK
  | d + 1, k, hk, hK => by
    rw [show 5 * (d + 1) + 1 = (5 * d + 1 + 1 + 1 + 1 + 1) + 1 by omega, goD_in (L := meta_CheckRelease_L0), meta_CheckRelease_vc0 _ _ _ _ _ _, toNat_nat]
    rw [drop_step (by omega) (Ty.dflt Ty.target)] at hK
    obtain ⟨x, hx⟩ : ∃ x, nth ts k (Ty.dflt Ty.target) = x := ⟨_, rfl⟩
    rw [hx] at hK ⊢
    have three : okTarget (k : Int) x = false → K (.one (dI 3)) [] := fun h => by rw [show okTargets (k : Int) (x :: ts.drop (k + 1)) = false from by simp [okTargets, h]] at hK; exact hK
    have hot : okTarget (k : Int) x = true ↔ (x.unit = k ∧ 1 ≤ x.image ∧ x.image ≤ 60 ∧ 1 ≤ x.long ∧ x.long ≤ 40) := by
      simp only [okTarget, Bool.and_eq_true, decide_eq_true_eq]; omega
    have bad : ¬ (x.unit = k ∧ 1 ≤ x.image ∧ x.image ≤ 60 ∧ 1 ≤ x.long ∧ x.long ≤ 40) → K (.one (dI 3)) [] := fun h => three (by
      cases hc : okTarget (k : Int) x
      · rfl
      · exact absurd (hot.1 hc) h)
    refine lt_t (by simp only [len]; omega) ⟨⟨by omega, by simp only [len]; omega⟩, ?_⟩
    rw [goD_in (L := meta_CheckRelease_L1), meta_CheckRelease_vc1_0 _ _ _ _ _ _ _ _ _ _ _ _ _ _ _ _ _ _ _ _ _ _ _ _ _ _ _ _ _ _ _ _ _ _ _ _ _ _ _ _]
    refine ⟨by omega, by omega, by omega, lt_s (fun h => bad (by omega)) (fun h => ⟨by omega, by omega, lt_s (fun h2 => bad (by omega)) (fun h2 => ?_)⟩)⟩
    rw [show w64 ((0 : Int) + 1) = 1 from w64_id (by omega) (by omega), goD_in (L := meta_CheckRelease_L1), meta_CheckRelease_vc1_1 _ _ _ _ _ _ _ _ _ _ _ _ _ _ _ _ _ _ _ _ _ _ _ _ _ _ _ _ _ _ _ _ _ _ _ _ _ _ _ _]
    refine ⟨by omega, by omega, by omega, lt_s (fun h3 => bad (by omega)) (fun h3 => ⟨by omega, by omega, lt_s (fun h4 => bad (by omega)) (fun h4 => ?_)⟩)⟩
    rw [show w64 ((1 : Int) + 1) = 2 from w64_id (by omega) (by omega), goD_in (L := meta_CheckRelease_L1), meta_CheckRelease_vc1_2 _ _ _ _ _ _ _ _ _ _ _ _ _ _ _ _ _ _ _ _ _ _ _ _ _ _ _ _ _ _ _ _ _ _ _ _ _ _ _ _]
    refine ⟨by omega, by omega, by omega, lt_s (fun h5 => bad (by omega)) (fun h5 => ⟨by omega, by omega, lt_s (fun h6 => bad (by omega)) (fun h6 => ?_)⟩)⟩
    rw [show w64 ((2 : Int) + 1) = 3 from w64_id (by omega) (by omega), goD_in (L := meta_CheckRelease_L1), meta_CheckRelease_vc1_3 _ _ _ _ _ _ _ _ _ _ _ _ _ _ _ _ _ _ _ _ _ _ _ _ _ _ _ _ _ _ _ _ _ _ _ _ _ _ _ _, w64_succ (by omega)]
    rw [show okTargets (k : Int) (x :: ts.drop (k + 1)) = okTargets ((k : Int) + 1) (ts.drop (k + 1)) from by simp only [okTargets, hot.2 (show _ by omega), Bool.true_and]] at hK
    exact loop_meta_CheckRelease ts hl K d (k + 1) (by omega) (by rw [show ((k + 1 : Nat) : Int) = (k : Int) + 1 by omega]; exact hK)
theorem run_meta_CheckRelease (v u : Int) (ts : List Vm.Target) (K : KK) (hK : K (.one (dI (checkRelease v u ts))) []) : ∃ m, goD Γ_meta_CheckRelease tab fn_meta_CheckRelease 0 K m [.code (bodyOf fn_meta_CheckRelease)] (initSt [.agg [dI v, dI u, .dat (.list .target) ts]] []) := by
  refine ⟨5 * ts.length + 1 + 1, ?_⟩
  rw [goD_code, meta_CheckRelease_vc _ _ _ _ _]
  unfold checkRelease at hK
  refine lt_s (fun h => ?_) (fun h => lt_s (fun h2 => ?_) (fun h2 => lt_s (fun h3 => ?_) (fun h3 => lt_s (fun h4 => ?_) (fun h4 => eq_s (fun h5 => ?_) (fun h5 => lt_s (fun h6 => ?_) (fun h6 => ?_))))))
  · rw [if_pos (by omega)] at hK; exact hK
  · rw [if_pos (by omega)] at hK; exact hK
  · rw [if_pos (by omega)] at hK; exact hK
  · rw [if_pos (by omega)] at hK; exact hK
  · rw [if_neg (by omega), if_pos (by simp only [len] at h5; omega)] at hK; exact hK
  · rw [if_neg (by omega), if_pos (by simp only [len] at h6; omega)] at hK; exact hK
  · rw [if_neg (by omega), if_neg (by simp only [len] at h5 h6; omega)] at hK
    exact loop_meta_CheckRelease ts (by simp only [len] at h6; omega) K ts.length 0 (by omega) hK
theorem sound_meta_CheckRelease : SoundC Tryd.prog tab n_meta_CheckRelease c_meta_CheckRelease := soundC_of ok_meta_CheckRelease hf_meta_CheckRelease hB_meta_CheckRelease (by
  intro vs bs p v bs' h hp
  unfold c_meta_CheckRelease at h
  split at h
  · cases h
    exact ⟨by kernel_rfl, rfl, .inl (run_meta_CheckRelease _ _ _ _ ⟨rfl, rfl⟩)⟩
  · cases h)

def c_meta_ReleaseText : Contract := fun vs bs => match vs, bs with
  | [.agg [.dat .int v, .dat .int u, .dat (.list .target) ts]], [] => some (none, .tup [.one (.dat .str (releaseTextE v u ts).1), .one (dI (releaseTextE v u ts).2)], [])
  | _, _ => none
def Γ_meta_ReleaseText : Ctx := [(n_meta_CheckRelease, c_meta_CheckRelease), (n_strconv_Itoa, c_strconv_Itoa), (n_meta_list, c_meta_list)]
theorem ok_meta_ReleaseText : Ok Tryd.prog tab Γ_meta_ReleaseText := (((ok_nil.consC hf_meta_list hB_meta_list sound_meta_list).consC hf_strconv_Itoa hB_strconv_Itoa sound_strconv_Itoa).consC hf_meta_CheckRelease hB_meta_CheckRelease sound_meta_CheckRelease)
noncomputable def meta_ReleaseText_L0 : List It := [.inLoop [25, 24, 23, 5, 3, 2] (Code.sub (bodyOf fn_meta_ReleaseText) [1, 1, 1, 0, 1, 0, 0]), .inBlock 0, .code (Code.sub (bodyOf fn_meta_ReleaseText) [1, 1, 1, 1])]
def meta_ReleaseText_S0 (x0 : Int) (x1 : Int) (x2 : (List Vm.Target)) (x3 : (List UInt8)) (x4 : Int) (x5 : (List UInt8)) : St := ⟨[(25, .one (dI x0)), (24, .one (dI x1)), (23, .one (.dat (Ty.list Ty.target) x2)), (5, .one (.dat Ty.str x3)), (3, .one (dI x4)), (2, .one (.dat Ty.str x5))], [], 0⟩
theorem meta_ReleaseText_vc (v : Int) (u : Int) (ts : List Vm.Target) (rec : RK) (K : KK) v0 (hv0 : v0 = (checkRelease v u ts)) v1 (hv1 : v1 = (numT v)) v2 (hv2 : v2 = (numT u)) : segD Γ_meta_ReleaseText tab fn_meta_ReleaseText 0 K rec [.code (bodyOf fn_meta_ReleaseText)] (initSt [.agg [dI v, dI u, .dat (Ty.list Ty.target) ts]] []) = (
 br (!(eqi v0 (0 : Int)))
 (K (.tup [.one (.dat Ty.str []), .one (dI v0)]) [])
 ((((0 : Int) ≤ v) ∧ (v ≤ (9223372036854775807 : Int))) ∧
 ((((len ((114 : UInt8) :: ((101 : UInt8) :: ((108 : UInt8) :: ((101 : UInt8) :: ((97 : UInt8) :: ((115 : UInt8) :: ((101 : UInt8) :: ((32 : UInt8) :: []))))))))) + (len v1)) ≤ 140737488355328) ∧
 ((((len (cat ((114 : UInt8) :: ((101 : UInt8) :: ((108 : UInt8) :: ((101 : UInt8) :: ((97 : UInt8) :: ((115 : UInt8) :: ((101 : UInt8) :: ((32 : UInt8) :: [])))))))) v1)) + (len ((32 : UInt8) :: ((117 : UInt8) :: ((110 : UInt8) :: ((116 : UInt8) :: ((105 : UInt8) :: ((108 : UInt8) :: ((32 : UInt8) :: []))))))))) ≤ 140737488355328) ∧
 ((((0 : Int) ≤ u) ∧ (u ≤ (9223372036854775807 : Int))) ∧
 ((((len (cat (cat ((114 : UInt8) :: ((101 : UInt8) :: ((108 : UInt8) :: ((101 : UInt8) :: ((97 : UInt8) :: ((115 : UInt8) :: ((101 : UInt8) :: ((32 : UInt8) :: [])))))))) v1) ((32 : UInt8) :: ((117 : UInt8) :: ((110 : UInt8) :: ((116 : UInt8) :: ((105 : UInt8) :: ((108 : UInt8) :: ((32 : UInt8) :: []))))))))) + (len v2)) ≤ 140737488355328) ∧
 (rec meta_ReleaseText_L0 (meta_ReleaseText_S0 (0 : Int) (((len ts) : Nat) : Int) ts (cat (cat (cat ((114 : UInt8) :: ((101 : UInt8) :: ((108 : UInt8) :: ((101 : UInt8) :: ((97 : UInt8) :: ((115 : UInt8) :: ((101 : UInt8) :: ((32 : UInt8) :: [])))))))) v1) ((32 : UInt8) :: ((117 : UInt8) :: ((110 : UInt8) :: ((116 : UInt8) :: ((105 : UInt8) :: ((108 : UInt8) :: ((32 : UInt8) :: [])))))))) v2) (0 : Int) [])))))))) := by subst_vars; kernel_rfl
theorem meta_ReleaseText_vc0 (x0 : Int) (x1 : Int) (x2 : (List Vm.Target)) (x3 : (List UInt8)) (x4 : Int) (x5 : (List UInt8)) (rec : RK) (K : KK) v0 (hv0 : v0 = (nums (((nth x2 (Int.toNat x0) (Ty.dflt Ty.target))).unit :: (((nth x2 (Int.toNat x0) (Ty.dflt Ty.target))).image :: (((nth x2 (Int.toNat x0) (Ty.dflt Ty.target))).long :: []))))) v1 (hv1 : v1 = (listT (((nth x2 (Int.toNat x0) (Ty.dflt Ty.target))).unit :: (((nth x2 (Int.toNat x0) (Ty.dflt Ty.target))).image :: (((nth x2 (Int.toNat x0) (Ty.dflt Ty.target))).long :: []))))) : segD Γ_meta_ReleaseText tab fn_meta_ReleaseText 0 K rec (ent meta_ReleaseText_L0) (meta_ReleaseText_S0 x0 x1 x2 x3 x4 x5) = (
 br (lti x0 x1)
 ((((0 : Int) ≤ x0) ∧ (x0 < (((len x2) : Nat) : Int))) ∧
 ((((len (((nth x2 (Int.toNat x0) (Ty.dflt Ty.target))).unit :: (((nth x2 (Int.toNat x0) (Ty.dflt Ty.target))).image :: (((nth x2 (Int.toNat x0) (Ty.dflt Ty.target))).long :: [])))) ≤ 1000) ∧ (v0 = true)) ∧
 ((((len ((59 : UInt8) :: ((32 : UInt8) :: []))) + (len v1)) ≤ 140737488355328) ∧
 ((((len x3) + (len (cat ((59 : UInt8) :: ((32 : UInt8) :: [])) v1))) ≤ 140737488355328) ∧
 (rec meta_ReleaseText_L0 (meta_ReleaseText_S0 (w64 (x0 + (1 : Int))) x1 x2 (cat x3 (cat ((59 : UInt8) :: ((32 : UInt8) :: [])) v1)) x4 x5))))))
 (K (.tup [.one (.dat Ty.str x3), .one (dI (0 : Int))]) [])) := by subst_vars; kernel_rfl

theorem loop_meta_ReleaseText (ts : List Vm.Target) (hl : ts.length ≤ 4) (hn : ∀ t ∈ ts, 0 ≤ t.unit ∧ t.unit ≤ 1000 ∧ 0 ≤ t.image ∧ t.image ≤ 1000 ∧ 0 ≤ t.long ∧ t.long ≤ 1000) (K : KK) (pre : List UInt8) (hp : pre.length ≤ 1000) (x4 : Int) (x5 : List UInt8) (hK : K (.tup [.one (.dat .str (pre ++ targetsT ts)), .one (dI 0)]) []) : ∀ (d k : Nat), k + d = ts.length → (targetsT (ts.take k)).length ≤ 65 * k →
    goD Γ_meta_ReleaseText tab fn_meta_ReleaseText 0 K (d + 1) meta_ReleaseText_L0 (meta_ReleaseText_S0 (k : Int) (((len ts) : Nat) : Int) ts (pre ++ targetsT (ts.take k)) x4 x5)
  | 0, k, hk, hq => by
    rw [goD_in (L := meta_ReleaseText_L0), meta_ReleaseText_vc0 _ _ _ _ _ _ _ _ _ rfl _ rfl, List.take_of_length_le (by omega)]
    exact lt_f (by simp only [len]; omega) hK
  | d + 1, k, hk, hq => by
    have ht := take_step (l := ts) (k := k) (by omega) (Ty.dflt Ty.target)
    have hm : nth ts k (Ty.dflt Ty.target) ∈ ts := by
      have : k < ts.length := by omega
      simp [nth, List.getD_eq_getElem?_getD, this]
    have hx := hn _ hm
    have step : targetsT (ts.take (k + 1)) = targetsT (ts.take k) ++ targetT (nth ts k (Ty.dflt Ty.target)) := by rw [ht]; simp [targetsT]
    rw [goD_in (L := meta_ReleaseText_L0), meta_ReleaseText_vc0 _ _ _ _ _ _ _ _ _ rfl _ rfl, toNat_nat]
    obtain ⟨x, hxe⟩ : ∃ x, nth ts k (Ty.dflt Ty.target) = x := ⟨_, rfl⟩
    rw [hxe] at hx step ⊢
    have l1 := listT_len [x.unit, x.image, x.long]
    simp only [List.length_cons, List.length_nil] at l1
    have el : (targetT x).length = 2 + (listT [x.unit, x.image, x.long]).length := by simp [targetT]; omega
    have ek : w64 ((k : Int) + 1) = ((k + 1 : Nat) : Int) := w64_succ (by omega)
    rw [ek]
    refine lt_t (by simp only [len]; omega) ⟨⟨by omega, by simp only [len]; omega⟩, ⟨by simp [len], ?_⟩, by simp only [len, List.length_cons, List.length_nil]; omega, by simp only [len, cat, List.length_append, List.length_cons, List.length_nil]; omega, ?_⟩
    · simp only [nums, List.all_cons, List.all_nil, Bool.and_true, Bool.and_eq_true, decide_eq_true_eq]; omega
    · have := loop_meta_ReleaseText ts hl hn K pre hp x4 x5 hK d (k + 1) (by omega) (by rw [step, List.length_append, el]; omega)
      rw [step] at this
      have e : cat (pre ++ targetsT (ts.take k)) (cat [59, 32] (listT [x.unit, x.image, x.long])) = pre ++ (targetsT (ts.take k) ++ targetT x) := by simp [cat, targetT]
      rw [← e] at this
      exact this
theorem run_meta_ReleaseText (v u : Int) (ts : List Vm.Target) (K : KK) (hK : K (.tup [.one (.dat .str (releaseTextE v u ts).1), .one (dI (releaseTextE v u ts).2)]) []) : ∃ m, goD Γ_meta_ReleaseText tab fn_meta_ReleaseText 0 K m [.code (bodyOf fn_meta_ReleaseText)] (initSt [.agg [dI v, dI u, .dat (.list .target) ts]] []) := by
  refine ⟨ts.length + 2, ?_⟩
  rw [goD_code, meta_ReleaseText_vc _ _ _ _ _ _ rfl _ rfl _ rfl]
  unfold releaseTextE at hK
  refine ne_s (fun h => ?_) (fun h => ?_)
  · rw [if_neg h] at hK; exact hK
  rw [if_pos h] at hK
  obtain ⟨h1, h2, h3, h4, h5, h6, h7⟩ := checkRelease_ok h
  have n1 := numT_len v
  have n2 := numT_len u
  refine ⟨by omega, by simp only [len, List.length_cons, List.length_nil]; omega, by simp only [len, cat, List.length_append, List.length_cons, List.length_nil]; omega, by omega, by simp only [len, cat, List.length_append, List.length_cons, List.length_nil]; omega, ?_⟩
  have := loop_meta_ReleaseText ts h6 h7 K ([114, 101, 108, 101, 97, 115, 101, 32] ++ numT v ++ [32, 117, 110, 116, 105, 108, 32] ++ numT u) (by simp only [List.length_append, List.length_cons, List.length_nil]; omega) 0 [] hK ts.length 0 (by omega) (by simp [targetsT])
  rw [show targetsT (ts.take 0) = [] from by simp [targetsT], List.append_nil] at this
  exact this
theorem sound_meta_ReleaseText : SoundC Tryd.prog tab n_meta_ReleaseText c_meta_ReleaseText := soundC_of ok_meta_ReleaseText hf_meta_ReleaseText hB_meta_ReleaseText (by
  intro vs bs p v bs' h hp
  unfold c_meta_ReleaseText at h
  split at h
  · cases h
    exact ⟨by kernel_rfl, rfl, .inl (run_meta_ReleaseText _ _ _ _ ⟨rfl, rfl⟩)⟩
  · cases h)

def c_meta_CheckImage : Contract := fun vs bs => match vs, bs with
  | [.one (.dat (.list .int) l)], [] => some (none, .one (dI (checkImage l)), [])
  | _, _ => none
def Γ_meta_CheckImage : Ctx := []
theorem ok_meta_CheckImage : Ok Tryd.prog tab Γ_meta_CheckImage := ok_nil
noncomputable def meta_CheckImage_L0 : List It := [.inLoop [15, 14, 13, 2] (Code.sub (bodyOf fn_meta_CheckImage) [1, 1, 0, 1, 0, 0]), .inBlock 0, .code (Code.sub (bodyOf fn_meta_CheckImage) [1, 1, 1])]
def meta_CheckImage_S0 (x0 : Int) (x1 : Int) (x2 : (List Int)) (x3 : Int) : St := ⟨[(15, .one (dI x0)), (14, .one (dI x1)), (13, .one (dL x2)), (2, .one (dI x3))], [], 0⟩
theorem meta_CheckImage_vc (l : List Int) (rec : RK) (K : KK) : segD Γ_meta_CheckImage tab fn_meta_CheckImage 0 K rec [.code (bodyOf fn_meta_CheckImage)] (initSt [.one (dL l)] []) = (
 br (eqi (((len l) : Nat) : Int) (0 : Int))
 (K (.one (dI (2 : Int))) [])
 (br (lti (40 : Int) (((len l) : Nat) : Int))
 (K (.one (dI (2 : Int))) [])
 (rec meta_CheckImage_L0 (meta_CheckImage_S0 (0 : Int) (((len l) : Nat) : Int) l (0 : Int))))) := by kernel_rfl
theorem meta_CheckImage_vc0 (x0 : Int) (x1 : Int) (x2 : (List Int)) (x3 : Int) (rec : RK) (K : KK) : segD Γ_meta_CheckImage tab fn_meta_CheckImage 0 K rec (ent meta_CheckImage_L0) (meta_CheckImage_S0 x0 x1 x2 x3) = (
 br (lti x0 x1)
 ((((0 : Int) ≤ x0) ∧ (x0 < (((len x2) : Nat) : Int))) ∧
 (br (lti (nth x2 (Int.toNat x0) (Ty.dflt Ty.int)) (0 : Int))
 (K (.one (dI (3 : Int))) [])
 (br (lti (65535 : Int) (nth x2 (Int.toNat x0) (Ty.dflt Ty.int)))
 (K (.one (dI (3 : Int))) [])
 (rec meta_CheckImage_L0 (meta_CheckImage_S0 (w64 (x0 + (1 : Int))) x1 x2 x3)))))
 (K (.one (dI (0 : Int))) [])) := by kernel_rfl

theorem loop_meta_CheckImage (ws : List Int) (hl : ws.length ≤ 40) (K : KK) (hK : K (.one (dI (if okWords ws then 0 else 3))) []) : ∀ (d k : Nat), k + d = ws.length → okWords (ws.take k) = true →
    goD Γ_meta_CheckImage tab fn_meta_CheckImage 0 K (d + 1) meta_CheckImage_L0 (meta_CheckImage_S0 (k : Int) (((len ws) : Nat) : Int) ws (0 : Int))
  | 0, k, hk, he => by
    rw [goD_in (L := meta_CheckImage_L0), meta_CheckImage_vc0 _ _ _ _ _ _]
    refine lt_f (by simp only [len]; omega) ?_
    rw [List.take_of_length_le (by omega)] at he
    rw [if_pos he] at hK
    exact hK
  | d + 1, k, hk, he => by
    rw [goD_in (L := meta_CheckImage_L0), meta_CheckImage_vc0 _ _ _ _ _ _]
    have bad : okWord (nth ws k (Ty.dflt Ty.int)) = false → K (.one (dI 3)) [] := fun h => by
      rw [show okWords ws = false from all_false (k := k) (by omega) _ h] at hK; exact hK
    refine lt_t (by simp only [len]; omega) ⟨⟨by omega, by simp only [len]; omega⟩, lt_s (fun h => ?_) (fun h => lt_s (fun h2 => ?_) (fun h2 => ?_))⟩
    · rw [toNat_nat] at h
      exact bad (by simp only [okWord, Bool.and_eq_false_iff, decide_eq_false_iff_not]; exact .inl (by omega))
    · rw [toNat_nat] at h2
      exact bad (by simp only [okWord, Bool.and_eq_false_iff, decide_eq_false_iff_not]; exact .inr (by omega))
    · rw [w64_succ (by omega)]
      rw [toNat_nat] at h h2
      exact loop_meta_CheckImage ws hl K hK d (k + 1) (by omega) (all_take_step (by omega) (Ty.dflt Ty.int) he (by simp [okWord, h, h2]))
theorem run_meta_CheckImage (l : List Int) (K : KK) (hK : K (.one (dI (checkImage l))) []) : ∃ m, goD Γ_meta_CheckImage tab fn_meta_CheckImage 0 K m [.code (bodyOf fn_meta_CheckImage)] (initSt [.one (dL l)] []) := by
  refine ⟨l.length + 2, ?_⟩
  rw [goD_code, meta_CheckImage_vc _ _ _]
  unfold checkImage at hK
  refine eq_s (fun h => ?_) (fun h => lt_s (fun h2 => ?_) (fun h2 => ?_))
  · rw [if_pos (by simp only [len] at h; omega)] at hK; exact hK
  · rw [if_pos (by simp only [len] at h2; omega)] at hK; exact hK
  · rw [if_neg (by simp only [len] at h h2; omega)] at hK
    exact loop_meta_CheckImage l (by simp only [len] at h2; omega) K hK l.length 0 (by omega) rfl
theorem sound_meta_CheckImage : SoundC Tryd.prog tab n_meta_CheckImage c_meta_CheckImage := soundC_of ok_meta_CheckImage hf_meta_CheckImage hB_meta_CheckImage (by
  intro vs bs p v bs' h hp
  unfold c_meta_CheckImage at h
  split at h
  · cases h
    exact ⟨by kernel_rfl, rfl, .inl (run_meta_CheckImage _ _ ⟨rfl, rfl⟩)⟩
  · cases h)

def c_meta_ImageText : Contract := fun vs bs => match vs, bs with
  | [.one (.dat (.list .int) l)], [] => some (none, .tup [.one (.dat .str (imageTextE l).1), .one (dI (imageTextE l).2)], [])
  | _, _ => none
def Γ_meta_ImageText : Ctx := [(n_meta_CheckImage, c_meta_CheckImage), (n_meta_list, c_meta_list)]
theorem ok_meta_ImageText : Ok Tryd.prog tab Γ_meta_ImageText := ((ok_nil.consC hf_meta_list hB_meta_list sound_meta_list).consC hf_meta_CheckImage hB_meta_CheckImage sound_meta_CheckImage)
theorem meta_ImageText_vc (l : List Int) (rec : RK) (K : KK) v0 (hv0 : v0 = (checkImage l)) v1 (hv1 : v1 = (nums l)) v2 (hv2 : v2 = (listT l)) : segD Γ_meta_ImageText tab fn_meta_ImageText 0 K rec [.code (bodyOf fn_meta_ImageText)] (initSt [.one (dL l)] []) = (
 br (!(eqi v0 (0 : Int)))
 (K (.tup [.one (.dat Ty.str []), .one (dI v0)]) [])
 ((((len l) ≤ 1000) ∧ (v1 = true)) ∧
 ((((len ((105 : UInt8) :: ((109 : UInt8) :: ((97 : UInt8) :: ((103 : UInt8) :: ((101 : UInt8) :: ((32 : UInt8) :: []))))))) + (len v2)) ≤ 140737488355328) ∧
 (K (.tup [.one (.dat Ty.str (cat ((105 : UInt8) :: ((109 : UInt8) :: ((97 : UInt8) :: ((103 : UInt8) :: ((101 : UInt8) :: ((32 : UInt8) :: [])))))) v2)), .one (dI (0 : Int))]) [])))) := by subst_vars; kernel_rfl

theorem run_meta_ImageText (l : List Int) (K : KK) (hK : K (.tup [.one (.dat .str (imageTextE l).1), .one (dI (imageTextE l).2)]) []) : ∃ m, goD Γ_meta_ImageText tab fn_meta_ImageText 0 K m [.code (bodyOf fn_meta_ImageText)] (initSt [.one (dL l)] []) := by
  refine ⟨1, ?_⟩
  rw [goD_code, meta_ImageText_vc _ _ _ _ rfl _ rfl _ rfl]
  unfold imageTextE at hK
  refine ne_s (fun h => ?_) (fun h => ?_)
  · rw [if_neg h] at hK; exact hK
  rw [if_pos h] at hK
  obtain ⟨h1, h2, h3⟩ := checkImage_ok h
  have n3 := listT_len l
  exact ⟨⟨by simp only [len]; omega, nums_of_words h3⟩, by simp only [len, List.length_cons, List.length_nil]; omega, hK⟩
theorem sound_meta_ImageText : SoundC Tryd.prog tab n_meta_ImageText c_meta_ImageText := soundC_of ok_meta_ImageText hf_meta_ImageText hB_meta_ImageText (by
  intro vs bs p v bs' h hp
  unfold c_meta_ImageText at h
  split at h
  · cases h
    exact ⟨by kernel_rfl, rfl, .inl (run_meta_ImageText _ _ ⟨rfl, rfl⟩)⟩
  · cases h)

def c_meta_numbers : Contract := fun vs bs => match vs, bs with
  | [.one (.dat .str s)], [] => some (some (s.length ≤ 10000), .tup [.one (dL (numbersE s).1), .one (dB (numbersE s).2)], [])
  | _, _ => none
def Γ_meta_numbers : Ctx := [(n_strings_Split, c_strings_Split), (n_strconv_Atoi, c_strconv_Atoi), (n_strconv_Itoa_i, c_strconv_Itoa_i)]
theorem ok_meta_numbers : Ok Tryd.prog tab Γ_meta_numbers := (((ok_nil.consC hf_strconv_Itoa_i hB_strconv_Itoa_i sound_strconv_Itoa_i).consC hf_strconv_Atoi hB_strconv_Atoi sound_strconv_Atoi).consC hf_strings_Split hB_strings_Split sound_strings_Split)
noncomputable def meta_numbers_L0 : List It := [.inLoop [12, 11, 10, 4, 3, 2] (Code.sub (bodyOf fn_meta_numbers) [1, 1, 0, 1, 0, 0]), .inBlock 0, .code (Code.sub (bodyOf fn_meta_numbers) [1, 1, 1])]
def meta_numbers_S0 (x0 : Int) (x1 : Int) (x2 : (List (List UInt8))) (x3 : Bool) (x4 : (List Int)) (x5 : (List Int)) : St := ⟨[(12, .one (dI x0)), (11, .one (dI x1)), (10, .one (.dat (Ty.list Ty.str) x2)), (4, .one (.own 0)), (3, .one (dB x3)), (2, .one (.own 1))], [(0, .arr Ty.int x4), (1, .arr Ty.int x5)], 2⟩
theorem meta_numbers_vc (s : List UInt8) (rec : RK) (K : KK) : segD Γ_meta_numbers tab fn_meta_numbers 0 K rec [.code (bodyOf fn_meta_numbers)] (initSt [.one (.dat Ty.str s)] []) = (
 (((List.length s) ≤ 4000000) ∧ (1 ≤ (List.length ((32 : UInt8) :: [])))) ∧
 (rec meta_numbers_L0 (meta_numbers_S0 (0 : Int) (((len (Lib.split s ((32 : UInt8) :: []))) : Nat) : Int) (Lib.split s ((32 : UInt8) :: [])) false [] []))) := by kernel_rfl
theorem meta_numbers_vc0 (x0 : Int) (x1 : Int) (x2 : (List (List UInt8))) (x3 : Bool) (x4 : (List Int)) (x5 : (List Int)) (rec : RK) (K : KK) v0 (hv0 : v0 = (atoiE (nth x2 (Int.toNat x0) (Ty.dflt Ty.str)))) v1 (hv1 : v1 = (atoiV (nth x2 (Int.toNat x0) (Ty.dflt Ty.str)))) : segD Γ_meta_numbers tab fn_meta_numbers 0 K rec (ent meta_numbers_L0) (meta_numbers_S0 x0 x1 x2 x3 x4 x5) = (
 br (lti x0 x1)
 ((((0 : Int) ≤ x0) ∧ (x0 < (((len x2) : Nat) : Int))) ∧
 (((List.length (nth x2 (Int.toNat x0) (Ty.dflt Ty.str))) ≤ 4000000) ∧
 (br (!v0)
 (K (.tup [.one (dL []), .one (dB false)]) [])
 ((((-(9223372036854775808 : Int)) ≤ v1) ∧ (v1 ≤ (9223372036854775807 : Int))) ∧
 (br (!(eqs (Lib.itoa v1) (nth x2 (Int.toNat x0) (Ty.dflt Ty.str))))
 (K (.tup [.one (dL []), .one (dB false)]) [])
 (((((len x4) + (len (v1 :: []))) * 8) ≤ 140737488355328) ∧
 (rec meta_numbers_L0 (meta_numbers_S0 (w64 (x0 + (1 : Int))) x1 x2 x3 (cat x4 (v1 :: [])) x5))))))))
 (K (.tup [.one (dL x4), .one (dB true)]) [])) := by subst_vars; kernel_rfl

theorem loop_meta_numbers (l : List (List UInt8)) (hl : l.length ≤ 10001) (hp : ∀ p ∈ l, p.length ≤ 10000) (K : KK) (hK : K (.tup [.one (dL (numR (numsW l)).1), .one (dB (numR (numsW l)).2)]) []) : ∀ (d k : Nat) (acc : List Int), k + d = l.length → numsW (l.take k) = some acc →
    goD Γ_meta_numbers tab fn_meta_numbers 0 K (d + 1) meta_numbers_L0 (meta_numbers_S0 (k : Int) (((len l) : Nat) : Int) l false acc [])
  | 0, k, acc, hk, ha => by
    rw [goD_in (L := meta_numbers_L0), meta_numbers_vc0 _ _ _ _ _ _ _ _ _ rfl _ rfl]
    rw [List.take_of_length_le (by omega)] at ha
    rw [ha] at hK
    exact lt_f (by simp only [len]; omega) hK
  | d + 1, k, acc, hk, ha => by
    rw [goD_in (L := meta_numbers_L0), meta_numbers_vc0 _ _ _ _ _ _ _ _ _ rfl _ rfl, toNat_nat]
    have hm : nth l k (Ty.dflt Ty.str) ∈ l := nth_mem (by omega) _
    have hlen := hp _ hm
    have hal := numsW_len ha
    rw [List.length_take] at hal
    have hs := take_step (l := l) (k := k) (by omega) (Ty.dflt Ty.str)
    have hbad : numW (nth l k (Ty.dflt Ty.str)) = none → K (.tup [.one (dL []), .one (dB false)]) [] := fun h => by
      rw [numsW_bad hm h] at hK; exact hK
    refine lt_t (by simp only [len]; omega) ⟨⟨by omega, by simp only [len]; omega⟩, by omega, nt_s (fun h => hbad (numW_ne h)) (fun h => ?_)⟩
    obtain ⟨i1, _, _, e⟩ := numW_e h
    refine ⟨i1, nt_s (fun q => hbad (by rw [e, if_neg (eqs_false.1 q)])) (fun q => ?_)⟩
    rw [if_pos (eqs_true.1 q)] at e
    refine ⟨by simp only [len, List.length_cons, List.length_nil]; omega, ?_⟩
    rw [w64_succ (by omega)]
    exact loop_meta_numbers l hl hp K hK d (k + 1) _ (by omega) (by rw [hs]; exact numsW_snoc ha e)
theorem run_meta_numbers (s : List UInt8) (hp : s.length ≤ 10000) (K : KK) (hK : K (.tup [.one (dL (numbersE s).1), .one (dB (numbersE s).2)]) []) : ∃ m, goD Γ_meta_numbers tab fn_meta_numbers 0 K m [.code (bodyOf fn_meta_numbers)] (initSt [.one (.dat .str s)] []) := by
  have hc := split_count (s := s) (sep := [32]) (Nat.le_refl 1)
  have hp2 : ∀ p ∈ Go.Lib.split s [32], p.length ≤ 10000 := fun p h => by
    have := split_len h
    have : s.length ≤ 10000 := hp
    omega
  have hp' : s.length ≤ 10000 := hp
  rw [numbersE_is] at hK
  refine ⟨(Go.Lib.split s [32]).length + 2, ?_⟩
  rw [goD_code, meta_numbers_vc _ _ _]
  exact ⟨⟨by omega, Nat.le_refl 1⟩, loop_meta_numbers _ (by omega) hp2 K hK _ 0 [] (by omega) rfl⟩
theorem sound_meta_numbers : SoundC Tryd.prog tab n_meta_numbers c_meta_numbers := soundC_of ok_meta_numbers hf_meta_numbers hB_meta_numbers (by
  intro vs bs p v bs' h hp
  unfold c_meta_numbers at h
  split at h
  · cases h
    exact ⟨by kernel_rfl, rfl, .inl (run_meta_numbers _ hp.1 _ ⟨rfl, rfl⟩)⟩
  · cases h)

def c_meta_ParseRelease : Contract := fun vs bs => match vs, bs with
  | [.one (.dat .str s)], [] => some (none, .tup [.agg [dI (parseE s).1.version, dI (parseE s).1.til, .dat (.list .target) (parseE s).1.targets], .one (dI (parseE s).2)], [])
  | _, _ => none
def Γ_meta_ParseRelease : Ctx := [(n_strings_Split, c_strings_Split), (n_meta_numbers, c_meta_numbers), (n_meta_CheckRelease, c_meta_CheckRelease)]
theorem ok_meta_ParseRelease : Ok Tryd.prog tab Γ_meta_ParseRelease := (((ok_nil.consC hf_meta_CheckRelease hB_meta_CheckRelease sound_meta_CheckRelease).consC hf_meta_numbers hB_meta_numbers sound_meta_numbers).consC hf_strings_Split hB_strings_Split sound_strings_Split)
noncomputable def meta_ParseRelease_L0 : List It := [.inLoop [65, 64, 63, 8, 3, 2] (Code.sub (bodyOf fn_meta_ParseRelease) [1, 1, 1, 1, 1, 1, 1, 1, 0, 1, 0, 0]), .inBlock 0, .code (Code.sub (bodyOf fn_meta_ParseRelease) [1, 1, 1, 1, 1, 1, 1, 1, 1])]
def meta_ParseRelease_S0 (x0 : Int) (x1 : Int) (x2 : (List (List UInt8))) (x3 : Int) (x4 : Int) (x5 : Int) (x6 : Int) (x7 : Int) (x8 : (List Vm.Target)) (x9 : (List Vm.Target)) : St := ⟨[(65, .one (dI x0)), (64, .one (dI x1)), (63, .one (.dat (Ty.list Ty.str) x2)), (8, .one (.ptr 0 0)), (3, .one (dI x3)), (2, .one (.ptr 1 0))], [(0, .box [dI x4, dI x5, .own 2]), (1, .box [dI x6, dI x7, .own 3]), (2, .arr Ty.target x8), (3, .arr Ty.target x9)], 4⟩
theorem meta_ParseRelease_vc (s : List UInt8) (rec : RK) (K : KK) v0 (hv0 : v0 = (numbersE (cat (cat (nth (Lib.split (nth (Lib.split s ((59 : UInt8) :: ((32 : UInt8) :: []))) (Int.toNat (0 : Int)) (Ty.dflt Ty.str)) ((32 : UInt8) :: [])) (Int.toNat (1 : Int)) (Ty.dflt Ty.str)) ((32 : UInt8) :: [])) (nth (Lib.split (nth (Lib.split s ((59 : UInt8) :: ((32 : UInt8) :: []))) (Int.toNat (0 : Int)) (Ty.dflt Ty.str)) ((32 : UInt8) :: [])) (Int.toNat (3 : Int)) (Ty.dflt Ty.str))))) v1 (hv1 : v1 = (K (.tup [.agg [dI (0 : Int), dI (0 : Int), .dat (Ty.list Ty.target) []], .one (dI (1 : Int))]) [])) : segD Γ_meta_ParseRelease tab fn_meta_ParseRelease 0 K rec [.code (bodyOf fn_meta_ParseRelease)] (initSt [.one (.dat Ty.str s)] []) = (
 br (lti (2000 : Int) (((len s) : Nat) : Int))
 (K (.tup [.agg [dI (0 : Int), dI (0 : Int), .dat (Ty.list Ty.target) []], .one (dI (2 : Int))]) [])
 ((((List.length s) ≤ 4000000) ∧ (1 ≤ (List.length ((59 : UInt8) :: ((32 : UInt8) :: []))))) ∧
 ((((0 : Int) ≤ (0 : Int)) ∧ ((0 : Int) < (((len (Lib.split s ((59 : UInt8) :: ((32 : UInt8) :: [])))) : Nat) : Int))) ∧
 ((((List.length (nth (Lib.split s ((59 : UInt8) :: ((32 : UInt8) :: []))) (Int.toNat (0 : Int)) (Ty.dflt Ty.str))) ≤ 4000000) ∧ (1 ≤ (List.length ((32 : UInt8) :: [])))) ∧
 (br (!(eqi (((len (Lib.split (nth (Lib.split s ((59 : UInt8) :: ((32 : UInt8) :: []))) (Int.toNat (0 : Int)) (Ty.dflt Ty.str)) ((32 : UInt8) :: []))) : Nat) : Int) (4 : Int)))
 v1
 ((((0 : Int) ≤ (0 : Int)) ∧ ((0 : Int) < (((len (Lib.split (nth (Lib.split s ((59 : UInt8) :: ((32 : UInt8) :: []))) (Int.toNat (0 : Int)) (Ty.dflt Ty.str)) ((32 : UInt8) :: []))) : Nat) : Int))) ∧
 (br (!(eqs (nth (Lib.split (nth (Lib.split s ((59 : UInt8) :: ((32 : UInt8) :: []))) (Int.toNat (0 : Int)) (Ty.dflt Ty.str)) ((32 : UInt8) :: [])) (Int.toNat (0 : Int)) (Ty.dflt Ty.str)) ((114 : UInt8) :: ((101 : UInt8) :: ((108 : UInt8) :: ((101 : UInt8) :: ((97 : UInt8) :: ((115 : UInt8) :: ((101 : UInt8) :: [])))))))))
 v1
 ((((0 : Int) ≤ (2 : Int)) ∧ ((2 : Int) < (((len (Lib.split (nth (Lib.split s ((59 : UInt8) :: ((32 : UInt8) :: []))) (Int.toNat (0 : Int)) (Ty.dflt Ty.str)) ((32 : UInt8) :: []))) : Nat) : Int))) ∧
 (br (!(eqs (nth (Lib.split (nth (Lib.split s ((59 : UInt8) :: ((32 : UInt8) :: []))) (Int.toNat (0 : Int)) (Ty.dflt Ty.str)) ((32 : UInt8) :: [])) (Int.toNat (2 : Int)) (Ty.dflt Ty.str)) ((117 : UInt8) :: ((110 : UInt8) :: ((116 : UInt8) :: ((105 : UInt8) :: ((108 : UInt8) :: [])))))))
 v1
 ((((0 : Int) ≤ (1 : Int)) ∧ ((1 : Int) < (((len (Lib.split (nth (Lib.split s ((59 : UInt8) :: ((32 : UInt8) :: []))) (Int.toNat (0 : Int)) (Ty.dflt Ty.str)) ((32 : UInt8) :: []))) : Nat) : Int))) ∧
 ((((len (nth (Lib.split (nth (Lib.split s ((59 : UInt8) :: ((32 : UInt8) :: []))) (Int.toNat (0 : Int)) (Ty.dflt Ty.str)) ((32 : UInt8) :: [])) (Int.toNat (1 : Int)) (Ty.dflt Ty.str))) + (len ((32 : UInt8) :: []))) ≤ 140737488355328) ∧
 ((((0 : Int) ≤ (3 : Int)) ∧ ((3 : Int) < (((len (Lib.split (nth (Lib.split s ((59 : UInt8) :: ((32 : UInt8) :: []))) (Int.toNat (0 : Int)) (Ty.dflt Ty.str)) ((32 : UInt8) :: []))) : Nat) : Int))) ∧
 ((((len (cat (nth (Lib.split (nth (Lib.split s ((59 : UInt8) :: ((32 : UInt8) :: []))) (Int.toNat (0 : Int)) (Ty.dflt Ty.str)) ((32 : UInt8) :: [])) (Int.toNat (1 : Int)) (Ty.dflt Ty.str)) ((32 : UInt8) :: []))) + (len (nth (Lib.split (nth (Lib.split s ((59 : UInt8) :: ((32 : UInt8) :: []))) (Int.toNat (0 : Int)) (Ty.dflt Ty.str)) ((32 : UInt8) :: [])) (Int.toNat (3 : Int)) (Ty.dflt Ty.str)))) ≤ 140737488355328) ∧
 (((List.length (cat (cat (nth (Lib.split (nth (Lib.split s ((59 : UInt8) :: ((32 : UInt8) :: []))) (Int.toNat (0 : Int)) (Ty.dflt Ty.str)) ((32 : UInt8) :: [])) (Int.toNat (1 : Int)) (Ty.dflt Ty.str)) ((32 : UInt8) :: [])) (nth (Lib.split (nth (Lib.split s ((59 : UInt8) :: ((32 : UInt8) :: []))) (Int.toNat (0 : Int)) (Ty.dflt Ty.str)) ((32 : UInt8) :: [])) (Int.toNat (3 : Int)) (Ty.dflt Ty.str)))) ≤ 10000) ∧
 (br (!v0.snd)
 v1
 ((((0 : Int) ≤ (0 : Int)) ∧ ((0 : Int) < (((len v0.fst) : Nat) : Int))) ∧
 ((((0 : Int) ≤ (1 : Int)) ∧ ((1 : Int) < (((len v0.fst) : Nat) : Int))) ∧
 ((((0 : Int) ≤ (1 : Int)) ∧ (((1 : Int) ≤ (((len (Lib.split s ((59 : UInt8) :: ((32 : UInt8) :: [])))) : Nat) : Int)) ∧ ((((len (Lib.split s ((59 : UInt8) :: ((32 : UInt8) :: [])))) : Nat) : Int) ≤ (((len (Lib.split s ((59 : UInt8) :: ((32 : UInt8) :: [])))) : Nat) : Int)))) ∧
 (rec meta_ParseRelease_L0 (meta_ParseRelease_S0 (0 : Int) (((len (slc (Lib.split s ((59 : UInt8) :: ((32 : UInt8) :: []))) (Int.toNat (1 : Int)) (Int.toNat (((len (Lib.split s ((59 : UInt8) :: ((32 : UInt8) :: [])))) : Nat) : Int)))) : Nat) : Int) (slc (Lib.split s ((59 : UInt8) :: ((32 : UInt8) :: []))) (Int.toNat (1 : Int)) (Int.toNat (((len (Lib.split s ((59 : UInt8) :: ((32 : UInt8) :: [])))) : Nat) : Int))) (0 : Int) (nth v0.fst (Int.toNat (0 : Int)) (Ty.dflt Ty.int)) (nth v0.fst (Int.toNat (1 : Int)) (Ty.dflt Ty.int)) (0 : Int) (0 : Int) [] [])))))))))))))))))))) := by subst_vars; kernel_rfl
theorem meta_ParseRelease_vc0 (x0 : Int) (x1 : Int) (x2 : (List (List UInt8))) (x3 : Int) (x4 : Int) (x5 : Int) (x6 : Int) (x7 : Int) (x8 : (List Vm.Target)) (x9 : (List Vm.Target)) (rec : RK) (K : KK) v0 (hv0 : v0 = (numbersE (nth x2 (Int.toNat x0) (Ty.dflt Ty.str)))) v1 (hv1 : v1 = (checkRelease x4 x5 x8)) v2 (hv2 : v2 = (K (.tup [.agg [dI (0 : Int), dI (0 : Int), .dat (Ty.list Ty.target) []], .one (dI (1 : Int))]) [])) : segD Γ_meta_ParseRelease tab fn_meta_ParseRelease 0 K rec (ent meta_ParseRelease_L0) (meta_ParseRelease_S0 x0 x1 x2 x3 x4 x5 x6 x7 x8 x9) = (
 br (lti x0 x1)
 ((((0 : Int) ≤ x0) ∧ (x0 < (((len x2) : Nat) : Int))) ∧
 (((List.length (nth x2 (Int.toNat x0) (Ty.dflt Ty.str))) ≤ 10000) ∧
 (br (!v0.snd)
 v2
 (br (!(eqi (((len v0.fst) : Nat) : Int) (3 : Int)))
 v2
 ((((0 : Int) ≤ (0 : Int)) ∧ ((0 : Int) < (((len v0.fst) : Nat) : Int))) ∧
 ((((0 : Int) ≤ (1 : Int)) ∧ ((1 : Int) < (((len v0.fst) : Nat) : Int))) ∧
 ((((0 : Int) ≤ (2 : Int)) ∧ ((2 : Int) < (((len v0.fst) : Nat) : Int))) ∧
 (((((len x8) + (len ((⟨(nth v0.fst (Int.toNat (0 : Int)) (Ty.dflt Ty.int)), (nth v0.fst (Int.toNat (1 : Int)) (Ty.dflt Ty.int)), (nth v0.fst (Int.toNat (2 : Int)) (Ty.dflt Ty.int))⟩ : Vm.Target) :: []))) * 24) ≤ 140737488355328) ∧
 (rec meta_ParseRelease_L0 (meta_ParseRelease_S0 (w64 (x0 + (1 : Int))) x1 x2 x3 x4 x5 x6 x7 (cat x8 ((⟨(nth v0.fst (Int.toNat (0 : Int)) (Ty.dflt Ty.int)), (nth v0.fst (Int.toNat (1 : Int)) (Ty.dflt Ty.int)), (nth v0.fst (Int.toNat (2 : Int)) (Ty.dflt Ty.int))⟩ : Vm.Target) :: [])) x9))))))))))
 (br (!(eqi v1 (0 : Int)))
 (K (.tup [.agg [dI (0 : Int), dI (0 : Int), .dat (Ty.list Ty.target) []], .one (dI v1)]) [])
 (K (.tup [.agg [dI x4, dI x5, .dat (Ty.list Ty.target) x8], .one (dI (0 : Int))]) []))) := by subst_vars; kernel_rfl

theorem loop_meta_ParseRelease (l : List (List UInt8)) (hl : l.length ≤ 10001) (hp : ∀ p ∈ l, p.length ≤ 10000) (x y : Int) (K : KK) (hK : K (.tup [.agg [dI (endR (pairO (some (x, y)) (tgtsW l))).1.version, dI (endR (pairO (some (x, y)) (tgtsW l))).1.til, .dat (.list .target) (endR (pairO (some (x, y)) (tgtsW l))).1.targets], .one (dI (endR (pairO (some (x, y)) (tgtsW l))).2)]) []) : ∀ (d k : Nat) (acc : List Vm.Target), k + d = l.length → tgtsW (l.take k) = some acc → acc.length = k →
    goD Γ_meta_ParseRelease tab fn_meta_ParseRelease 0 K (d + 1) meta_ParseRelease_L0 (meta_ParseRelease_S0 (k : Int) (((len l) : Nat) : Int) l 0 x y 0 0 acc [])
  | 0, k, acc, hk, ha, hal => by
    rw [goD_in (L := meta_ParseRelease_L0), meta_ParseRelease_vc0 _ _ _ _ _ _ _ _ _ _ _ _ _ rfl _ rfl _ rfl]
    rw [List.take_of_length_le (by omega)] at ha
    rw [ha] at hK
    have hK : K (.tup [.agg [dI (endR (some (x, y, acc))).1.version, dI (endR (some (x, y, acc))).1.til, .dat (.list .target) (endR (some (x, y, acc))).1.targets], .one (dI (endR (some (x, y, acc))).2)]) [] := hK
    unfold endR at hK
    refine lt_f (by simp only [len]; omega) (ne_s (fun h => ?_) (fun h => ?_))
    · simp only [if_neg h] at hK; exact hK
    · simp only [if_pos h] at hK; exact hK
  | d + 1, k, acc, hk, ha, hal => by
    rw [goD_in (L := meta_ParseRelease_L0), meta_ParseRelease_vc0 _ _ _ _ _ _ _ _ _ _ _ _ _ rfl _ rfl _ rfl, toNat_nat]
    have hm : nth l k (Ty.dflt Ty.str) ∈ l := nth_mem (by omega) _
    have hlen := hp _ hm
    have hs := take_step (l := l) (k := k) (by omega) (Ty.dflt Ty.str)
    have hbad : tgtW (nth l k (Ty.dflt Ty.str)) = none → K (.tup [.agg [dI 0, dI 0, .dat (.list .target) []], .one (dI 1)]) [] := fun h => by
      rw [tgtsW_bad hm h, pairO_none] at hK; exact hK
    refine lt_t (by simp only [len]; omega) ⟨⟨by omega, by simp only [len]; omega⟩, hlen, ?_⟩
    have ht : tgtW (nth l k (Ty.dflt Ty.str)) = tgtL (numsW (Go.Lib.split (nth l k (Ty.dflt Ty.str)) [32])) := rfl
    rw [numbersE_is]
    cases hn : numsW (Go.Lib.split (nth l k (Ty.dflt Ty.str)) [32]) with
    | none =>
      rw [hn] at ht
      exact nt_t rfl (hbad ht)
    | some ns =>
      rw [hn] at ht
      refine nt_f rfl (ne_s (fun h => ?_) (fun h => ?_))
      · refine hbad (ht.trans (tgtL_len fun e => h ?_))
        show ((ns.length : Nat) : Int) = 3
        rw [e]; rfl
      · have h : ((ns.length : Nat) : Int) = 3 := h
        obtain ⟨a, b, c, rfl⟩ := three (l := ns) (by omega)
        refine ⟨⟨by decide, by simp only [numR, len, List.length_cons, List.length_nil]; omega⟩, ⟨by decide, by simp only [numR, len, List.length_cons, List.length_nil]; omega⟩, ⟨by decide, by simp only [numR, len, List.length_cons, List.length_nil]; omega⟩, by simp only [len, List.length_cons, List.length_nil]; omega, ?_⟩
        rw [w64_succ (by omega), numR_1, nth3_0, nth3_1, nth3_2]
        exact loop_meta_ParseRelease l hl hp x y K hK d (k + 1) (cat acc [⟨a, b, c⟩]) (by omega) (by rw [hs]; exact tgtsW_snoc ha ht) (by simp [cat, hal])
theorem run_meta_ParseRelease (s : List UInt8) (K : KK) (hK : K (.tup [.agg [dI (parseE s).1.version, dI (parseE s).1.til, .dat (.list .target) (parseE s).1.targets], .one (dI (parseE s).2)]) []) : ∃ m, goD Γ_meta_ParseRelease tab fn_meta_ParseRelease 0 K m [.code (bodyOf fn_meta_ParseRelease)] (initSt [.one (.dat .str s)] []) := by
  rw [show parseE s = if 2000 < s.length then (noRel, 2) else endR (parseP s) from rfl] at hK
  refine ⟨(Go.Lib.split s [59, 32]).tail.length + 2, ?_⟩
  rw [goD_code, meta_ParseRelease_vc _ _ _ _ rfl _ rfl]
  refine lt_s (fun h => ?_) (fun h => ?_)
  · have h : (2000 : Int) < (s.length : Nat) := h
    rw [if_pos (show 2000 < s.length by omega)] at hK
    exact hK
  have h : ((s.length : Nat) : Int) ≤ 2000 := h
  have h2 : s.length ≤ 2000 := by omega
  rw [if_neg (Nat.not_lt.2 h2)] at hK
  unfold parseP at hK
  have hc := split_count (s := s) (sep := [59, 32]) (by decide)
  have hsl : ∀ p ∈ Go.Lib.split s [59, 32], p.length ≤ 2000 := fun p h => Nat.le_trans (split_len h) h2
  rw [headD_nth, ← slc_tail] at hK
  simp only [len_eq, toNat_nat, show Int.toNat 0 = 0 from rfl, show Int.toNat 1 = 1 from rfl, show Int.toNat 2 = 2 from rfl, show Int.toNat 3 = 3 from rfl] at *
  have hp0 : (nth (Go.Lib.split s [59, 32]) 0 (Ty.dflt Ty.str)).length ≤ 2000 := hsl _ (nth_mem (by omega) _)
  generalize hps : Go.Lib.split s [59, 32] = ps at *
  generalize hpp : nth ps 0 (Ty.dflt Ty.str) = p at *
  have hfree : ∀ w ∈ Go.Lib.split p [32], (32 : UInt8) ∉ w := fun w hw => split_free hw
  have hwl : ∀ w ∈ Go.Lib.split p [32], w.length ≤ 2000 := fun w hw => Nat.le_trans (split_len hw) hp0
  generalize hws : Go.Lib.split p [32] = ws at *
  refine ⟨⟨by omega, by decide⟩, ⟨by decide, by omega⟩, ⟨by omega, by decide⟩, ne_s (fun h4 => ?_) (fun h4 => ?_)⟩
  · rw [headL_len (by omega), pairO_bad] at hK
    exact hK
  obtain ⟨a, b, c, d, rfl⟩ := four (l := ws) (by omega)
  have hbl := hwl b (by simp)
  have hdl := hwl d (by simp)
  have hbf := hfree b (by simp)
  have hdf := hfree d (by simp)
  have hno : ¬ (a = releaseB ∧ c = untilB) → K (.tup [.agg [dI 0, dI 0, .dat (.list .target) []], .one (dI 1)]) [] := fun h => by
    rw [headL_no h, pairO_bad] at hK; exact hK
  have n0 : nth [a, b, c, d] 0 (Ty.dflt Ty.str) = a := rfl
  have n1 : nth [a, b, c, d] 1 (Ty.dflt Ty.str) = b := rfl
  have n2 : nth [a, b, c, d] 2 (Ty.dflt Ty.str) = c := rfl
  have n3 : nth [a, b, c, d] 3 (Ty.dflt Ty.str) = d := rfl
  have l4 : [a, b, c, d].length = 4 := rfl
  rw [n0, n1, n2, n3, l4]
  refine ⟨⟨by decide, by decide⟩, nt_s (fun q => hno fun e => eqs_false.1 q e.1) (fun q1 => ⟨⟨by decide, by decide⟩, nt_s (fun q => hno fun e => eqs_false.1 q e.2) (fun q2 => ?_)⟩)⟩
  have e1 := eqs_true.1 q1
  have e2 := eqs_true.1 q2
  rw [headL_four ⟨e1, e2⟩] at hK
  have hcat : cat (cat b [32]) d = b ++ [32] ++ d := rfl
  have hcat1 : cat b [32] = b ++ [32] := rfl
  rw [hcat, hcat1, numbers_two hbf hdf]
  refine ⟨⟨by decide, by decide⟩, by simp only [List.length_cons, List.length_nil]; omega, ⟨by decide, by decide⟩, by simp only [List.length_append, List.length_cons, List.length_nil]; omega, by simp only [List.length_append, List.length_cons, List.length_nil]; omega, ?_⟩
  rcases nums_two (b := b) (d := d) with ⟨g1, g2⟩ | ⟨x, y, g1, g2⟩
  · rw [g1]
    rw [g2, pairO_bad] at hK
    exact nt_t rfl hK
  · rw [g1]
    rw [g2] at hK
    have htl : ∀ w ∈ slc ps 1 ps.length, w.length ≤ 10000 := fun w hw => by
      rw [slc_tail] at hw
      have := hsl w (List.mem_of_mem_tail hw)
      omega
    have hll : (slc ps 1 ps.length).length ≤ 10001 := by rw [slc_tail, List.length_tail]; omega
    refine nt_f rfl ⟨⟨by decide, by simp only [numR, List.length_cons, List.length_nil]; omega⟩, ⟨by decide, by simp only [numR, List.length_cons, List.length_nil]; omega⟩, ⟨by decide, by omega, by omega⟩, ?_⟩
    have key := loop_meta_ParseRelease (slc ps 1 ps.length) hll htl x y K hK (slc ps 1 ps.length).length 0 [] (by omega) rfl rfl
    have e : (slc ps 1 ps.length).length = ps.tail.length := by rw [slc_tail]
    rw [numR_1, show nth [x, y] 0 (Ty.dflt Ty.int) = x from rfl, show nth [x, y] 1 (Ty.dflt Ty.int) = y from rfl, ← e]
    exact key
theorem sound_meta_ParseRelease : SoundC Tryd.prog tab n_meta_ParseRelease c_meta_ParseRelease := soundC_of ok_meta_ParseRelease hf_meta_ParseRelease hB_meta_ParseRelease (by
  intro vs bs p v bs' h hp
  unfold c_meta_ParseRelease at h
  split at h
  · cases h
    exact ⟨by kernel_rfl, rfl, .inl (run_meta_ParseRelease _ _ ⟨rfl, rfl⟩)⟩
  · cases h)

def c_ref_CheckRoot : Contract := fun vs bs => match vs, bs with
  | [.agg [.dat .int v, .dat (.list .int) ks, .dat .int t]], [] => some (none, .one (dI (checkRoot v ks t)), [])
  | _, _ => none
def Γ_ref_CheckRoot : Ctx := []
theorem ok_ref_CheckRoot : Ok Tryd.prog tab Γ_ref_CheckRoot := ok_nil
noncomputable def ref_CheckRoot_L0 : List It := [.inLoop [27, 26, 25, 4, 2, 1] (Code.sub (bodyOf fn_ref_CheckRoot) [1, 1, 1, 1, 0, 1, 0, 0]), .inBlock 0, .code (Code.sub (bodyOf fn_ref_CheckRoot) [1, 1, 1, 1, 1])]
def ref_CheckRoot_S0 (x0 : Int) (x1 : Int) (x2 : (List Int)) (x3 : Int) (x4 : Int) (x5 : Int) (x6 : (List Int)) (x7 : Int) : St := ⟨[(27, .one (dI x0)), (26, .one (dI x1)), (25, .one (dL x2)), (4, .one (dI x3)), (2, .one (dI x4)), (1, .one (.ptr 0 0))], [(0, .box [dI x5, dL x6, dI x7])], 1⟩
theorem ref_CheckRoot_vc (v : Int) (ks : List Int) (t : Int) (rec : RK) (K : KK) : segD Γ_ref_CheckRoot tab fn_ref_CheckRoot 0 K rec [.code (bodyOf fn_ref_CheckRoot)] (initSt [.agg [dI v, dL ks, dI t]] []) = (
 br (lti v (1 : Int))
 (K (.one (dI (3 : Int))) [])
 (br (lti (1000 : Int) v)
 (K (.one (dI (3 : Int))) [])
 (br (lti (((len ks) : Nat) : Int) (1 : Int))
 (K (.one (dI (2 : Int))) [])
 (br (lti (6 : Int) (((len ks) : Nat) : Int))
 (K (.one (dI (2 : Int))) [])
 (rec ref_CheckRoot_L0 (ref_CheckRoot_S0 (0 : Int) (((len ks) : Nat) : Int) ks (0 : Int) (0 : Int) v ks t)))))) := by kernel_rfl
theorem ref_CheckRoot_vc0 (x0 : Int) (x1 : Int) (x2 : (List Int)) (x3 : Int) (x4 : Int) (x5 : Int) (x6 : (List Int)) (x7 : Int) (rec : RK) (K : KK) v0 (hv0 : v0 = (rec ref_CheckRoot_L0 (ref_CheckRoot_S0 (w64 (x0 + (1 : Int))) x1 x2 (nth x2 (Int.toNat x0) (Ty.dflt Ty.int)) x4 x5 x6 x7))) : segD Γ_ref_CheckRoot tab fn_ref_CheckRoot 0 K rec (ent ref_CheckRoot_L0) (ref_CheckRoot_S0 x0 x1 x2 x3 x4 x5 x6 x7) = (
 br (lti x0 x1)
 ((((0 : Int) ≤ x0) ∧ (x0 < (((len x2) : Nat) : Int))) ∧
 (br (lti (nth x2 (Int.toNat x0) (Ty.dflt Ty.int)) (1 : Int))
 (K (.one (dI (3 : Int))) [])
 (br (lti (50 : Int) (nth x2 (Int.toNat x0) (Ty.dflt Ty.int)))
 (K (.one (dI (3 : Int))) [])
 (br (lti (0 : Int) x0)
 (br (lei (nth x2 (Int.toNat x0) (Ty.dflt Ty.int)) x3)
 (K (.one (dI (6 : Int))) [])
 v0)
 v0))))
 (br (lti x7 (1 : Int))
 (K (.one (dI (4 : Int))) [])
 (br (lti (((len x6) : Nat) : Int) x7)
 (K (.one (dI (4 : Int))) [])
 (K (.one (dI (0 : Int))) [])))) := by subst_vars; kernel_rfl

theorem loop_ref_CheckRoot (ks : List Int) (v t : Int) (hl : ks.length ≤ 6) (K : KK) : ∀ (d k : Nat) (last : Option Int) (x3 : Int), k + d = ks.length → ((k = 0 ∧ last = none) ∨ (0 < k ∧ last = some x3)) →
    K (.one (dI (rootEnd (keysFrom last (ks.drop k)) t ks.length))) [] →
    goD Γ_ref_CheckRoot tab fn_ref_CheckRoot 0 K (d + 1) ref_CheckRoot_L0 (ref_CheckRoot_S0 (k : Int) (((len ks) : Nat) : Int) ks x3 0 v ks t)
  | 0, k, last, x3, hk, hla, hK => by
    rw [goD_in (L := ref_CheckRoot_L0), ref_CheckRoot_vc0 _ _ _ _ _ _ _ _ _ _ _ rfl]
    rw [List.drop_of_length_le (by omega)] at hK
    rw [show rootEnd (keysFrom last []) t ks.length = if t < 1 ∨ (ks.length : Int) < t then 4 else 0 from rfl] at hK
    refine lt_f (by simp only [len]; omega) (lt_s (fun h => ?_) (fun h => lt_s (fun h2 => ?_) (fun h2 => ?_)))
    · rw [if_pos (.inl h)] at hK; exact hK
    · rw [if_pos (.inr h2)] at hK; exact hK
    · rw [if_neg (by simp only [len] at h2; omega)] at hK; exact hK
  | d + 1, k, last, x3, hk, hla, hK => by
    rw [goD_in (L := ref_CheckRoot_L0), ref_CheckRoot_vc0 _ _ _ _ _ _ _ _ _ _ _ rfl, toNat_nat]
    rw [drop_step (by omega) (Ty.dflt Ty.int)] at hK
    obtain ⟨x, hx⟩ : ∃ x, nth ks k (Ty.dflt Ty.int) = x := ⟨_, rfl⟩
    rw [hx] at hK ⊢
    have ek : w64 ((k : Int) + 1) = ((k + 1 : Nat) : Int) := w64_succ (by omega)
    rw [ek]
    refine lt_t (by simp only [len]; omega) ⟨⟨by omega, by simp only [len]; omega⟩, lt_s (fun h => ?_) (fun h => lt_s (fun h2 => ?_) (fun h2 => ?_))⟩
    · rw [show keysFrom last (x :: ks.drop (k + 1)) = 3 from if_pos (.inl h)] at hK; exact hK
    · rw [show keysFrom last (x :: ks.drop (k + 1)) = 3 from if_pos (.inr h2)] at hK; exact hK
    · rw [show keysFrom last (x :: ks.drop (k + 1)) = if notBehind last x then 6 else keysFrom (some x) (ks.drop (k + 1)) from if_neg (by omega)] at hK
      refine lt_s (fun h3 => ?_) (fun h3 => ?_)
      · obtain ⟨_, rfl⟩ := hla.resolve_left (fun g => by omega)
        refine br_split (fun h4 => ?_) (fun h4 => ?_)
        · rw [lei_true] at h4
          rw [if_pos (show notBehind (some x3) x = true from decide_eq_true h4)] at hK; exact hK
        · rw [lei_false] at h4
          rw [if_neg (show ¬ notBehind (some x3) x = true from by simp only [notBehind, decide_eq_true_eq]; omega)] at hK
          exact loop_ref_CheckRoot ks v t hl K d (k + 1) (some x) x (by omega) (.inr ⟨by omega, rfl⟩) hK
      · obtain ⟨_, rfl⟩ := hla.resolve_right (fun g => by omega)
        rw [if_neg (show ¬ notBehind none x = true from by simp [notBehind])] at hK
        exact loop_ref_CheckRoot ks v t hl K d (k + 1) (some x) x (by omega) (.inr ⟨by omega, rfl⟩) hK
theorem run_ref_CheckRoot (v : Int) (ks : List Int) (t : Int) (K : KK) (hK : K (.one (dI (checkRoot v ks t))) []) : ∃ m, goD Γ_ref_CheckRoot tab fn_ref_CheckRoot 0 K m [.code (bodyOf fn_ref_CheckRoot)] (initSt [.agg [dI v, dL ks, dI t]] []) := by
  refine ⟨ks.length + 2, ?_⟩
  rw [goD_code, ref_CheckRoot_vc _ _ _ _ _]
  unfold checkRoot at hK
  refine lt_s (fun h => ?_) (fun h => lt_s (fun h2 => ?_) (fun h2 => lt_s (fun h3 => ?_) (fun h3 => lt_s (fun h4 => ?_) (fun h4 => ?_))))
  · rw [if_pos (.inl h)] at hK; exact hK
  · rw [if_pos (.inr h2)] at hK; exact hK
  · rw [if_neg (by omega), if_pos (by simp only [len] at h3; omega)] at hK; exact hK
  · rw [if_neg (by omega), if_pos (by simp only [len] at h4; omega)] at hK; exact hK
  · rw [if_neg (by omega), if_neg (by simp only [len] at h3 h4; omega)] at hK
    exact loop_ref_CheckRoot ks v t (by simp only [len] at h4; omega) K ks.length 0 none 0 (by omega) (.inl ⟨rfl, rfl⟩) hK
theorem sound_ref_CheckRoot : SoundC Tryd.prog tab n_ref_CheckRoot c_ref_CheckRoot := soundC_of ok_ref_CheckRoot hf_ref_CheckRoot hB_ref_CheckRoot (by
  intro vs bs p v bs' h hp
  unfold c_ref_CheckRoot at h
  split at h
  · cases h
    exact ⟨by kernel_rfl, rfl, .inl (run_ref_CheckRoot _ _ _ _ ⟨rfl, rfl⟩)⟩
  · cases h)

def c_ref_CheckRelease : Contract := fun vs bs => match vs, bs with
  | [.agg [.dat .int v, .dat .int u, .dat (.list .target) ts]], [] => some (none, .one (dI (checkRelease v u ts)), [])
  | _, _ => none
def Γ_ref_CheckRelease : Ctx := []
theorem ok_ref_CheckRelease : Ok Tryd.prog tab Γ_ref_CheckRelease := ok_nil
noncomputable def ref_CheckRelease_L0 : List It := [.inLoop [36, 35, 34, 2] (Code.sub (bodyOf fn_ref_CheckRelease) [1, 1, 1, 0, 1, 0, 0]), .inBlock 0, .code (Code.sub (bodyOf fn_ref_CheckRelease) [1, 1, 1, 1])]
def ref_CheckRelease_S0 (x0 : Int) (x1 : Int) (x2 : (List Vm.Target)) (x3 : Int) : St := ⟨[(36, .one (dI x0)), (35, .one (dI x1)), (34, .one (.dat (Ty.list Ty.target) x2)), (2, .one (dI x3))], [], 0⟩
theorem ref_CheckRelease_vc (v : Int) (u : Int) (ts : List Vm.Target) (rec : RK) (K : KK) : segD Γ_ref_CheckRelease tab fn_ref_CheckRelease 0 K rec [.code (bodyOf fn_ref_CheckRelease)] (initSt [.agg [dI v, dI u, .dat (Ty.list Ty.target) ts]] []) = (
 br (lti v (1 : Int))
 (K (.one (dI (3 : Int))) [])
 (br (lti (1000 : Int) v)
 (K (.one (dI (3 : Int))) [])
 (br (lti u (0 : Int))
 (K (.one (dI (3 : Int))) [])
 (br (lti (100000 : Int) u)
 (K (.one (dI (3 : Int))) [])
 (br (lti (((len ts) : Nat) : Int) (1 : Int))
 (K (.one (dI (2 : Int))) [])
 (br (lti (4 : Int) (((len ts) : Nat) : Int))
 (K (.one (dI (2 : Int))) [])
 (rec ref_CheckRelease_L0 (ref_CheckRelease_S0 (0 : Int) (((len ts) : Nat) : Int) ts (0 : Int))))))))) := by kernel_rfl
theorem ref_CheckRelease_vc0 (x0 : Int) (x1 : Int) (x2 : (List Vm.Target)) (x3 : Int) (rec : RK) (K : KK) : segD Γ_ref_CheckRelease tab fn_ref_CheckRelease 0 K rec (ent ref_CheckRelease_L0) (ref_CheckRelease_S0 x0 x1 x2 x3) = (
 br (lti x0 x1)
 ((((0 : Int) ≤ x0) ∧ (x0 < (((len x2) : Nat) : Int))) ∧
 (br (!(eqi ((nth x2 (Int.toNat x0) (Ty.dflt Ty.target))).unit x0))
 (K (.one (dI (3 : Int))) [])
 (br (lti ((nth x2 (Int.toNat x0) (Ty.dflt Ty.target))).image (1 : Int))
 (K (.one (dI (3 : Int))) [])
 (br (lti (60 : Int) ((nth x2 (Int.toNat x0) (Ty.dflt Ty.target))).image)
 (K (.one (dI (3 : Int))) [])
 (br (lti ((nth x2 (Int.toNat x0) (Ty.dflt Ty.target))).long (1 : Int))
 (K (.one (dI (3 : Int))) [])
 (br (lti (40 : Int) ((nth x2 (Int.toNat x0) (Ty.dflt Ty.target))).long)
 (K (.one (dI (3 : Int))) [])
 (rec ref_CheckRelease_L0 (ref_CheckRelease_S0 (w64 (x0 + (1 : Int))) x1 x2 x3))))))))
 (K (.one (dI (0 : Int))) [])) := by kernel_rfl

theorem loop_ref_CheckRelease (ts : List Vm.Target) (hl : ts.length ≤ 4) (K : KK) : ∀ (d k : Nat), k + d = ts.length → K (.one (dI (if okTargets (k : Int) (ts.drop k) then 0 else 3))) [] →
    goD Γ_ref_CheckRelease tab fn_ref_CheckRelease 0 K (d + 1) ref_CheckRelease_L0 (ref_CheckRelease_S0 (k : Int) (((len ts) : Nat) : Int) ts 0)
  | 0, k, hk, hK => by
    rw [goD_in (L := ref_CheckRelease_L0), ref_CheckRelease_vc0 _ _ _ _ _ _]
    rw [List.drop_of_length_le (by omega)] at hK
    exact lt_f (by simp only [len]; omega) hK
  | d + 1, k, hk, hK => by
    rw [goD_in (L := ref_CheckRelease_L0), ref_CheckRelease_vc0 _ _ _ _ _ _, toNat_nat]
    rw [drop_step (by omega) (Ty.dflt Ty.target)] at hK
    obtain ⟨x, hx⟩ : ∃ x, nth ts k (Ty.dflt Ty.target) = x := ⟨_, rfl⟩
    rw [hx] at hK ⊢
    have three : okTarget (k : Int) x = false → K (.one (dI 3)) [] := fun h => by rw [show okTargets (k : Int) (x :: ts.drop (k + 1)) = false from by simp [okTargets, h]] at hK; exact hK
    have hot : okTarget (k : Int) x = true ↔ (x.unit = k ∧ 1 ≤ x.image ∧ x.image ≤ 60 ∧ 1 ≤ x.long ∧ x.long ≤ 40) := by
      simp only [okTarget, Bool.and_eq_true, decide_eq_true_eq]; omega
    have bad : ¬ (x.unit = k ∧ 1 ≤ x.image ∧ x.image ≤ 60 ∧ 1 ≤ x.long ∧ x.long ≤ 40) → K (.one (dI 3)) [] := fun h => three (by
      cases hc : okTarget (k : Int) x
      · rfl
      · exact absurd (hot.1 hc) h)
    refine lt_t (by simp only [len]; omega) ⟨⟨by omega, by simp only [len]; omega⟩, ne_s (fun h => bad (by omega)) (fun h => lt_s (fun h2 => bad (by omega)) (fun h2 => lt_s (fun h3 => bad (by omega)) (fun h3 => lt_s (fun h4 => bad (by omega)) (fun h4 => lt_s (fun h5 => bad (by omega)) (fun h5 => ?_)))))⟩
    rw [w64_succ (by omega)]
    rw [show okTargets (k : Int) (x :: ts.drop (k + 1)) = okTargets ((k : Int) + 1) (ts.drop (k + 1)) from by simp only [okTargets, hot.2 (show _ by omega), Bool.true_and]] at hK
    exact loop_ref_CheckRelease ts hl K d (k + 1) (by omega) (by rw [show ((k + 1 : Nat) : Int) = (k : Int) + 1 by omega]; exact hK)
theorem run_ref_CheckRelease (v u : Int) (ts : List Vm.Target) (K : KK) (hK : K (.one (dI (checkRelease v u ts))) []) : ∃ m, goD Γ_ref_CheckRelease tab fn_ref_CheckRelease 0 K m [.code (bodyOf fn_ref_CheckRelease)] (initSt [.agg [dI v, dI u, .dat (.list .target) ts]] []) := by
  refine ⟨ts.length + 2, ?_⟩
  rw [goD_code, ref_CheckRelease_vc _ _ _ _ _]
  unfold checkRelease at hK
  refine lt_s (fun h => ?_) (fun h => lt_s (fun h2 => ?_) (fun h2 => lt_s (fun h3 => ?_) (fun h3 => lt_s (fun h4 => ?_) (fun h4 => lt_s (fun h5 => ?_) (fun h5 => lt_s (fun h6 => ?_) (fun h6 => ?_))))))
  · rw [if_pos (by omega)] at hK; exact hK
  · rw [if_pos (by omega)] at hK; exact hK
  · rw [if_pos (by omega)] at hK; exact hK
  · rw [if_pos (by omega)] at hK; exact hK
  · rw [if_neg (by omega), if_pos (by simp only [len] at h5; omega)] at hK; exact hK
  · rw [if_neg (by omega), if_pos (by simp only [len] at h6; omega)] at hK; exact hK
  · rw [if_neg (by omega), if_neg (by simp only [len] at h5 h6; omega)] at hK
    exact loop_ref_CheckRelease ts (by simp only [len] at h6; omega) K ts.length 0 (by omega) hK
theorem sound_ref_CheckRelease : SoundC Tryd.prog tab n_ref_CheckRelease c_ref_CheckRelease := soundC_of ok_ref_CheckRelease hf_ref_CheckRelease hB_ref_CheckRelease (by
  intro vs bs p v bs' h hp
  unfold c_ref_CheckRelease at h
  split at h
  · cases h
    exact ⟨by kernel_rfl, rfl, .inl (run_ref_CheckRelease _ _ _ _ ⟨rfl, rfl⟩)⟩
  · cases h)

def c_ref_IsWord : Contract := fun vs bs => match vs, bs with
  | [.one (.dat .int w)], [] => some (none, .one (dB (okWord w)), [])
  | _, _ => none
def Γ_ref_IsWord : Ctx := []
theorem ok_ref_IsWord : Ok Tryd.prog tab Γ_ref_IsWord := ok_nil
theorem ref_IsWord_vc (w : Int) (rec : RK) (K : KK) : segD Γ_ref_IsWord tab fn_ref_IsWord 0 K rec [.code (bodyOf fn_ref_IsWord)] (initSt [.one (dI w)] []) = (
 br (lei (0 : Int) w)
 (K (.one (dB (lei w (65535 : Int)))) [])
 (K vF [])) := by kernel_rfl

theorem run_ref_IsWord (w : Int) (K : KK) (hK : K (.one (dB (okWord w))) []) : ∃ m, goD Γ_ref_IsWord tab fn_ref_IsWord 0 K m [.code (bodyOf fn_ref_IsWord)] (initSt [.one (dI w)] []) := by
  refine ⟨1, ?_⟩
  rw [goD_code, ref_IsWord_vc _ _ _]
  refine br_split (fun h => ?_) (fun h => ?_)
  · rw [show okWord w = lei w 65535 from by rw [lei_true] at h; simp [okWord, lei, h]] at hK; exact hK
  · rw [show okWord w = false from by rw [lei_false] at h; simp [okWord]; omega] at hK; exact hK
theorem sound_ref_IsWord : SoundC Tryd.prog tab n_ref_IsWord c_ref_IsWord := soundC_of ok_ref_IsWord hf_ref_IsWord hB_ref_IsWord (by
  intro vs bs p v bs' h hp
  unfold c_ref_IsWord at h
  split at h
  · cases h
    exact ⟨by kernel_rfl, rfl, .inl (run_ref_IsWord _ _ ⟨rfl, rfl⟩)⟩
  · cases h)

def c_ref_allWords_1 : Contract := fun vs bs => match vs, bs with
  | [.one (.dat .int w)], [] => some (none, .one (dB (!okWord w)), [])
  | _, _ => none
def Γ_ref_allWords_1 : Ctx := [(n_ref_IsWord, c_ref_IsWord)]
theorem ok_ref_allWords_1 : Ok Tryd.prog tab Γ_ref_allWords_1 := (ok_nil.consC hf_ref_IsWord hB_ref_IsWord sound_ref_IsWord)
theorem ref_allWords_1_vc (w : Int) (rec : RK) (K : KK) v0 (hv0 : v0 = (okWord w)) : segD Γ_ref_allWords_1 tab fn_ref_allWords_1 0 K rec [.code (bodyOf fn_ref_allWords_1)] (initSt [.one (dI w)] []) = (
 K (.one (dB (!v0))) []) := by subst_vars; kernel_rfl

theorem run_ref_allWords_1 (w : Int) (K : KK) (hK : K (.one (dB (!okWord w))) []) : ∃ m, goD Γ_ref_allWords_1 tab fn_ref_allWords_1 0 K m [.code (bodyOf fn_ref_allWords_1)] (initSt [.one (dI w)] []) := by
  refine ⟨1, ?_⟩
  rw [goD_code, ref_allWords_1_vc _ _ _ _ rfl]
  exact hK
theorem sound_ref_allWords_1 : SoundC Tryd.prog tab n_ref_allWords_1 c_ref_allWords_1 := soundC_of ok_ref_allWords_1 hf_ref_allWords_1 hB_ref_allWords_1 (by
  intro vs bs p v bs' h hp
  unfold c_ref_allWords_1 at h
  split at h
  · cases h
    exact ⟨by kernel_rfl, rfl, .inl (run_ref_allWords_1 _ _ ⟨rfl, rfl⟩)⟩
  · cases h)

def c_slices_IndexFunc_Lint : Contract := fun vs bs => match vs, bs with
  | [.one (.dat (.list .int) l), .one (.fn f [])], [] => (match Nat.beq f n_ref_allWords_1 with | true => some (some (Sm l), .one (dI (firstBad l)), []) | false => none)
  | _, _ => none
def Γ_slices_IndexFunc_Lint : Ctx := [(n_ref_allWords_1, c_ref_allWords_1)]
theorem ok_slices_IndexFunc_Lint : Ok Tryd.prog tab Γ_slices_IndexFunc_Lint := (ok_nil.consC hf_ref_allWords_1 hB_ref_allWords_1 sound_ref_allWords_1)
noncomputable def slices_IndexFunc_Lint_1_L0 : List It := [.inLoop [8, 7, 4, 0, 1] (Code.sub (bodyOf fn_slices_IndexFunc_Lint) [1, 0, 1, 0, 0]), .inBlock 0, .code (Code.sub (bodyOf fn_slices_IndexFunc_Lint) [1, 1])]
def slices_IndexFunc_Lint_1_S0 (x0 : Int) (x1 : Int) (x2 : Int) (x3 : (List Int)) : St := ⟨[(8, .one (dI x0)), (7, .one (dI x1)), (4, .one (dI x2)), (0, .one (dL x3)), (1, .one (.fn n_ref_allWords_1 []))], [], 0⟩
theorem slices_IndexFunc_Lint_1_vc (l : List Int) (rec : RK) (K : KK) : segD Γ_slices_IndexFunc_Lint tab fn_slices_IndexFunc_Lint 0 K rec [.code (bodyOf fn_slices_IndexFunc_Lint)] (initSt [.one (dL l), .one (.fn n_ref_allWords_1 [])] []) = (
 rec slices_IndexFunc_Lint_1_L0 (slices_IndexFunc_Lint_1_S0 (0 : Int) (((len l) : Nat) : Int) (0 : Int) l)) := by kernel_rfl
theorem slices_IndexFunc_Lint_1_vc0 (x0 : Int) (x1 : Int) (x2 : Int) (x3 : (List Int)) (rec : RK) (K : KK) v0 (hv0 : v0 = (okWord (nth x3 (Int.toNat x0) (Ty.dflt Ty.int)))) : segD Γ_slices_IndexFunc_Lint tab fn_slices_IndexFunc_Lint 0 K rec (ent slices_IndexFunc_Lint_1_L0) (slices_IndexFunc_Lint_1_S0 x0 x1 x2 x3) = (
 br (lti x0 x1)
 ((((0 : Int) ≤ x0) ∧ (x0 < (((len x3) : Nat) : Int))) ∧
 (br (!v0)
 (K (.one (dI x0)) [])
 (rec slices_IndexFunc_Lint_1_L0 (slices_IndexFunc_Lint_1_S0 (w64 (x0 + (1 : Int))) x1 x2 x3))))
 (K (.one (dI (-(1 : Int)))) [])) := by subst_vars; kernel_rfl

theorem loop_slices_IndexFunc_Lint_1 (l : List Int) (hs : Sm l) (K : KK) : ∀ (d k : Nat), k + d = l.length → K (.one (dI (firstBadFrom k (l.drop k)))) [] →
    goD Γ_slices_IndexFunc_Lint tab fn_slices_IndexFunc_Lint 0 K (d + 1) slices_IndexFunc_Lint_1_L0 (slices_IndexFunc_Lint_1_S0 (k : Int) (((len l) : Nat) : Int) 0 l)
  | 0, k, hk, hK => by
    rw [goD_in (L := slices_IndexFunc_Lint_1_L0), slices_IndexFunc_Lint_1_vc0 _ _ _ _ _ _ _ rfl]
    refine lt_f (by simp only [len]; omega) ?_
    rw [List.drop_of_length_le (by omega)] at hK
    exact hK
  | d + 1, k, hk, hK => by
    have hs' := hs
    unfold Sm at hs'
    rw [goD_in (L := slices_IndexFunc_Lint_1_L0), slices_IndexFunc_Lint_1_vc0 _ _ _ _ _ _ _ rfl]
    rw [drop_step (by omega) (Ty.dflt Ty.int)] at hK
    simp only [firstBadFrom] at hK
    refine lt_t (by simp only [len]; omega) ⟨⟨by omega, by simp only [len]; omega⟩, nt_s (fun h => ?_) (fun h => ?_)⟩
    · rw [toNat_nat] at h
      rw [if_neg (by rw [h]; simp)] at hK
      exact hK
    · rw [toNat_nat] at h
      rw [if_pos h] at hK
      rw [w64_succ (by omega)]
      exact loop_slices_IndexFunc_Lint_1 l hs K d (k + 1) (by omega) hK
theorem run_slices_IndexFunc_Lint_1 (l : List Int) (hp : Sm l) (K : KK) (hK : K (.one (dI (firstBad l))) []) : ∃ m, goD Γ_slices_IndexFunc_Lint tab fn_slices_IndexFunc_Lint 0 K m [.code (bodyOf fn_slices_IndexFunc_Lint)] (initSt [.one (dL l), .one (.fn n_ref_allWords_1 [])] []) := by
  refine ⟨l.length + 2, ?_⟩
  rw [goD_code, slices_IndexFunc_Lint_1_vc _ _ _]
  exact loop_slices_IndexFunc_Lint_1 l hp K l.length 0 (by omega) hK
theorem sound_slices_IndexFunc_Lint : SoundC Tryd.prog tab n_slices_IndexFunc_Lint c_slices_IndexFunc_Lint := soundC_of ok_slices_IndexFunc_Lint hf_slices_IndexFunc_Lint hB_slices_IndexFunc_Lint (by
  intro vs bs p v bs' h hp
  unfold c_slices_IndexFunc_Lint at h
  split at h
  · split at h
    · rename_i hfn
      have hfn := Nat.eq_of_beq_eq_true hfn
      subst hfn
      cases h
      exact ⟨by kernel_rfl, rfl, .inl (run_slices_IndexFunc_Lint_1 _ hp.1 _ ⟨rfl, rfl⟩)⟩
    · cases h
  · cases h)

def c_slices_ContainsFunc_Lint : Contract := fun vs bs => match vs, bs with
  | [.one (.dat (.list .int) l), .one (.fn f [])], [] => (match Nat.beq f n_ref_allWords_1 with | true => some (some (Sm l), .one (dB (!okWords l)), []) | false => none)
  | _, _ => none
def Γ_slices_ContainsFunc_Lint : Ctx := [(n_slices_IndexFunc_Lint, c_slices_IndexFunc_Lint), (n_ref_allWords_1, c_ref_allWords_1)]
theorem ok_slices_ContainsFunc_Lint : Ok Tryd.prog tab Γ_slices_ContainsFunc_Lint := ((ok_nil.consC hf_ref_allWords_1 hB_ref_allWords_1 sound_ref_allWords_1).consC hf_slices_IndexFunc_Lint hB_slices_IndexFunc_Lint sound_slices_IndexFunc_Lint)
theorem slices_ContainsFunc_Lint_1_vc (l : List Int) (rec : RK) (K : KK) v0 (hv0 : v0 = (firstBad l)) : segD Γ_slices_ContainsFunc_Lint tab fn_slices_ContainsFunc_Lint 0 K rec [.code (bodyOf fn_slices_ContainsFunc_Lint)] (initSt [.one (dL l), .one (.fn n_ref_allWords_1 [])] []) = (
 ((List.length l) ≤ 140737488355328) ∧
 (K (.one (dB (lei (0 : Int) v0))) [])) := by subst_vars; kernel_rfl

theorem firstBad_slices_ContainsFunc_Lint : ∀ (l : List Int) (k : Int), 0 ≤ k → lei 0 (firstBadFrom k l) = !okWords l
  | [], k, hk => by simp [firstBadFrom, okWords, lei]
  | w :: l, k, hk => by
    simp only [firstBadFrom, okWords, List.all_cons]
    cases h : okWord w with
    | true => simpa [okWords] using firstBad_slices_ContainsFunc_Lint l (k + 1) (by omega)
    | false => simp [lei, hk]
theorem run_slices_ContainsFunc_Lint_1 (l : List Int) (hp : Sm l) (K : KK) (hK : K (.one (dB (!okWords l))) []) : ∃ m, goD Γ_slices_ContainsFunc_Lint tab fn_slices_ContainsFunc_Lint 0 K m [.code (bodyOf fn_slices_ContainsFunc_Lint)] (initSt [.one (dL l), .one (.fn n_ref_allWords_1 [])] []) := by
  refine ⟨1, ?_⟩
  rw [goD_code, slices_ContainsFunc_Lint_1_vc _ _ _ _ rfl]
  refine ⟨hp, ?_⟩
  rw [show lei 0 (firstBad l) = !okWords l from firstBad_slices_ContainsFunc_Lint l 0 (by omega)]
  exact hK
theorem sound_slices_ContainsFunc_Lint : SoundC Tryd.prog tab n_slices_ContainsFunc_Lint c_slices_ContainsFunc_Lint := soundC_of ok_slices_ContainsFunc_Lint hf_slices_ContainsFunc_Lint hB_slices_ContainsFunc_Lint (by
  intro vs bs p v bs' h hp
  unfold c_slices_ContainsFunc_Lint at h
  split at h
  · split at h
    · rename_i hfn
      have hfn := Nat.eq_of_beq_eq_true hfn
      subst hfn
      cases h
      exact ⟨by kernel_rfl, rfl, .inl (run_slices_ContainsFunc_Lint_1 _ hp.1 _ ⟨rfl, rfl⟩)⟩
    · cases h
  · cases h)

def c_ref_allWords : Contract := fun vs bs => match vs, bs with
  | [.one (.dat (.list .int) l)], [] => some (some (Sm l), .one (dB (okWords l)), [])
  | _, _ => none
def Γ_ref_allWords : Ctx := [(n_slices_ContainsFunc_Lint, c_slices_ContainsFunc_Lint), (n_ref_allWords_1, c_ref_allWords_1)]
theorem ok_ref_allWords : Ok Tryd.prog tab Γ_ref_allWords := ((ok_nil.consC hf_ref_allWords_1 hB_ref_allWords_1 sound_ref_allWords_1).consC hf_slices_ContainsFunc_Lint hB_slices_ContainsFunc_Lint sound_slices_ContainsFunc_Lint)
theorem ref_allWords_vc (l : List Int) (rec : RK) (K : KK) v0 (hv0 : v0 = (okWords l)) : segD Γ_ref_allWords tab fn_ref_allWords 0 K rec [.code (bodyOf fn_ref_allWords)] (initSt [.one (dL l)] []) = (
 ((List.length l) ≤ 140737488355328) ∧
 (K (.one (dB (!(!v0)))) [])) := by subst_vars; kernel_rfl

theorem run_ref_allWords (l : List Int) (hp : Sm l) (K : KK) (hK : K (.one (dB (okWords l))) []) : ∃ m, goD Γ_ref_allWords tab fn_ref_allWords 0 K m [.code (bodyOf fn_ref_allWords)] (initSt [.one (dL l)] []) := by
  refine ⟨1, ?_⟩
  rw [goD_code, ref_allWords_vc _ _ _ _ rfl]
  refine ⟨hp, ?_⟩
  rw [Bool.not_not]
  exact hK
theorem sound_ref_allWords : SoundC Tryd.prog tab n_ref_allWords c_ref_allWords := soundC_of ok_ref_allWords hf_ref_allWords hB_ref_allWords (by
  intro vs bs p v bs' h hp
  unfold c_ref_allWords at h
  split at h
  · cases h
    exact ⟨by kernel_rfl, rfl, .inl (run_ref_allWords _ hp.1 _ ⟨rfl, rfl⟩)⟩
  · cases h)

def c_ref_CheckImage : Contract := fun vs bs => match vs, bs with
  | [.one (.dat (.list .int) l)], [] => some (none, .one (dI (checkImage l)), [])
  | _, _ => none
def Γ_ref_CheckImage : Ctx := [(n_ref_allWords, c_ref_allWords)]
theorem ok_ref_CheckImage : Ok Tryd.prog tab Γ_ref_CheckImage := (ok_nil.consC hf_ref_allWords hB_ref_allWords sound_ref_allWords)
theorem ref_CheckImage_vc (l : List Int) (rec : RK) (K : KK) v0 (hv0 : v0 = (okWords l)) : segD Γ_ref_CheckImage tab fn_ref_CheckImage 0 K rec [.code (bodyOf fn_ref_CheckImage)] (initSt [.one (dL l)] []) = (
 br (lti (((len l) : Nat) : Int) (1 : Int))
 (K (.one (dI (2 : Int))) [])
 (br (lti (40 : Int) (((len l) : Nat) : Int))
 (K (.one (dI (2 : Int))) [])
 (((List.length l) ≤ 140737488355328) ∧
 (br (!v0)
 (K (.one (dI (3 : Int))) [])
 (K (.one (dI (0 : Int))) []))))) := by subst_vars; kernel_rfl

theorem run_ref_CheckImage (l : List Int) (K : KK) (hK : K (.one (dI (checkImage l))) []) : ∃ m, goD Γ_ref_CheckImage tab fn_ref_CheckImage 0 K m [.code (bodyOf fn_ref_CheckImage)] (initSt [.one (dL l)] []) := by
  refine ⟨1, ?_⟩
  rw [goD_code, ref_CheckImage_vc _ _ _ _ rfl]
  unfold checkImage at hK
  refine lt_s (fun h => ?_) (fun h => lt_s (fun h2 => ?_) (fun h2 => ⟨by simp only [len] at h2; omega, nt_s (fun h3 => ?_) (fun h3 => ?_)⟩))
  · rw [if_pos (by simp only [len] at h; omega)] at hK; exact hK
  · rw [if_pos (by simp only [len] at h2; omega)] at hK; exact hK
  · rw [if_neg (by simp only [len] at h h2; omega), if_neg (by rw [h3]; simp)] at hK; exact hK
  · rw [if_neg (by simp only [len] at h h2; omega), if_pos h3] at hK; exact hK
theorem sound_ref_CheckImage : SoundC Tryd.prog tab n_ref_CheckImage c_ref_CheckImage := soundC_of ok_ref_CheckImage hf_ref_CheckImage hB_ref_CheckImage (by
  intro vs bs p v bs' h hp
  unfold c_ref_CheckImage at h
  split at h
  · cases h
    exact ⟨by kernel_rfl, rfl, .inl (run_ref_CheckImage _ _ ⟨rfl, rfl⟩)⟩
  · cases h)

def c_slices_Index_Lstring : Contract := fun vs bs => match vs, bs with
  | [.one (.dat (.list .str) l), .one (.dat .str s)], [] => some (some (l.length ≤ 140737488355328), .one (dI (indexS s l)), [])
  | _, _ => none
def Γ_slices_Index_Lstring : Ctx := []
theorem ok_slices_Index_Lstring : Ok Tryd.prog tab Γ_slices_Index_Lstring := ok_nil
noncomputable def slices_Index_Lstring_L0 : List It := [.inLoop [8, 7, 4, 0, 1] (Code.sub (bodyOf fn_slices_Index_Lstring) [1, 0, 1, 0, 0]), .inBlock 0, .code (Code.sub (bodyOf fn_slices_Index_Lstring) [1, 1])]
def slices_Index_Lstring_S0 (x0 : Int) (x1 : Int) (x2 : Int) (x3 : (List (List UInt8))) (x4 : (List UInt8)) : St := ⟨[(8, .one (dI x0)), (7, .one (dI x1)), (4, .one (dI x2)), (0, .one (.dat (Ty.list Ty.str) x3)), (1, .one (.dat Ty.str x4))], [], 0⟩
theorem slices_Index_Lstring_vc (l : List (List UInt8)) (s : List UInt8) (rec : RK) (K : KK) : segD Γ_slices_Index_Lstring tab fn_slices_Index_Lstring 0 K rec [.code (bodyOf fn_slices_Index_Lstring)] (initSt [.one (.dat (Ty.list Ty.str) l), .one (.dat Ty.str s)] []) = (
 rec slices_Index_Lstring_L0 (slices_Index_Lstring_S0 (0 : Int) (((len l) : Nat) : Int) (0 : Int) l s)) := by kernel_rfl
theorem slices_Index_Lstring_vc0 (x0 : Int) (x1 : Int) (x2 : Int) (x3 : (List (List UInt8))) (x4 : (List UInt8)) (rec : RK) (K : KK) : segD Γ_slices_Index_Lstring tab fn_slices_Index_Lstring 0 K rec (ent slices_Index_Lstring_L0) (slices_Index_Lstring_S0 x0 x1 x2 x3 x4) = (
 br (lti x0 x1)
 ((((0 : Int) ≤ x0) ∧ (x0 < (((len x3) : Nat) : Int))) ∧
 (br (eqs x4 (nth x3 (Int.toNat x0) (Ty.dflt Ty.str)))
 (K (.one (dI x0)) [])
 (rec slices_Index_Lstring_L0 (slices_Index_Lstring_S0 (w64 (x0 + (1 : Int))) x1 x2 x3 x4))))
 (K (.one (dI (-(1 : Int)))) [])) := by kernel_rfl

theorem loop_slices_Index_Lstring (l : List (List UInt8)) (s : List UInt8) (hl : l.length ≤ 140737488355328) (K : KK) : ∀ (d k : Nat), k + d = l.length → K (.one (dI (indexFrom k s (l.drop k)))) [] →
    goD Γ_slices_Index_Lstring tab fn_slices_Index_Lstring 0 K (d + 1) slices_Index_Lstring_L0 (slices_Index_Lstring_S0 (k : Int) (((len l) : Nat) : Int) 0 l s)
  | 0, k, hk, hK => by
    rw [goD_in (L := slices_Index_Lstring_L0), slices_Index_Lstring_vc0 _ _ _ _ _ _ _]
    rw [List.drop_of_length_le (by omega)] at hK
    exact lt_f (by simp only [len]; omega) hK
  | d + 1, k, hk, hK => by
    rw [goD_in (L := slices_Index_Lstring_L0), slices_Index_Lstring_vc0 _ _ _ _ _ _ _, toNat_nat]
    rw [drop_step (by omega) (Ty.dflt Ty.str)] at hK
    simp only [indexFrom] at hK
    refine lt_t (by simp only [len]; omega) ⟨⟨by omega, by simp only [len]; omega⟩, br_split (fun h => ?_) (fun h => ?_)⟩
    · rw [eqs_true] at h
      rw [if_pos h.symm] at hK; exact hK
    · rw [eqs_false] at h
      rw [if_neg (fun e => h e.symm)] at hK
      rw [w64_succ (by omega)]
      exact loop_slices_Index_Lstring l s hl K d (k + 1) (by omega) hK
theorem run_slices_Index_Lstring (l : List (List UInt8)) (s : List UInt8) (hp : l.length ≤ 140737488355328) (K : KK) (hK : K (.one (dI (indexS s l))) []) : ∃ m, goD Γ_slices_Index_Lstring tab fn_slices_Index_Lstring 0 K m [.code (bodyOf fn_slices_Index_Lstring)] (initSt [.one (.dat (Ty.list Ty.str) l), .one (.dat .str s)] []) := by
  refine ⟨l.length + 2, ?_⟩
  rw [goD_code, slices_Index_Lstring_vc _ _ _ _]
  exact loop_slices_Index_Lstring l s hp K l.length 0 (by omega) hK
theorem sound_slices_Index_Lstring : SoundC Tryd.prog tab n_slices_Index_Lstring c_slices_Index_Lstring := soundC_of ok_slices_Index_Lstring hf_slices_Index_Lstring hB_slices_Index_Lstring (by
  intro vs bs p v bs' h hp
  unfold c_slices_Index_Lstring at h
  split at h
  · cases h
    exact ⟨by kernel_rfl, rfl, .inl (run_slices_Index_Lstring _ _ hp.1 _ ⟨rfl, rfl⟩)⟩
  · cases h)

def c_slices_Contains_Lstring : Contract := fun vs bs => match vs, bs with
  | [.one (.dat (.list .str) l), .one (.dat .str s)], [] => some (some (l.length ≤ 140737488355328), .one (dB (hasS s l)), [])
  | _, _ => none
def Γ_slices_Contains_Lstring : Ctx := [(n_slices_Index_Lstring, c_slices_Index_Lstring)]
theorem ok_slices_Contains_Lstring : Ok Tryd.prog tab Γ_slices_Contains_Lstring := (ok_nil.consC hf_slices_Index_Lstring hB_slices_Index_Lstring sound_slices_Index_Lstring)
theorem slices_Contains_Lstring_vc (l : List (List UInt8)) (s : List UInt8) (rec : RK) (K : KK) v0 (hv0 : v0 = (indexS s l)) : segD Γ_slices_Contains_Lstring tab fn_slices_Contains_Lstring 0 K rec [.code (bodyOf fn_slices_Contains_Lstring)] (initSt [.one (.dat (Ty.list Ty.str) l), .one (.dat Ty.str s)] []) = (
 ((List.length l) ≤ 140737488355328) ∧
 (K (.one (dB (lei (0 : Int) v0))) [])) := by subst_vars; kernel_rfl

theorem run_slices_Contains_Lstring (l : List (List UInt8)) (s : List UInt8) (hp : l.length ≤ 140737488355328) (K : KK) (hK : K (.one (dB (hasS s l))) []) : ∃ m, goD Γ_slices_Contains_Lstring tab fn_slices_Contains_Lstring 0 K m [.code (bodyOf fn_slices_Contains_Lstring)] (initSt [.one (.dat (Ty.list Ty.str) l), .one (.dat .str s)] []) := by
  refine ⟨1, ?_⟩
  rw [goD_code, slices_Contains_Lstring_vc _ _ _ _ _ rfl]
  rw [show lei 0 (indexS s l) = hasS s l from indexS_has s l]
  exact ⟨hp, hK⟩
theorem sound_slices_Contains_Lstring : SoundC Tryd.prog tab n_slices_Contains_Lstring c_slices_Contains_Lstring := soundC_of ok_slices_Contains_Lstring hf_slices_Contains_Lstring hB_slices_Contains_Lstring (by
  intro vs bs p v bs' h hp
  unfold c_slices_Contains_Lstring at h
  split at h
  · cases h
    exact ⟨by kernel_rfl, rfl, .inl (run_slices_Contains_Lstring _ _ hp.1 _ ⟨rfl, rfl⟩)⟩
  · cases h)

def c_meta_CheckBook : Contract := fun vs bs => match vs, bs with
  | [.agg [.dat (.list .str) l]], [] => some (none, .one (dI (checkBook l)), [])
  | _, _ => none
def Γ_meta_CheckBook : Ctx := [(n_slices_Contains_Lstring, c_slices_Contains_Lstring)]
theorem ok_meta_CheckBook : Ok Tryd.prog tab Γ_meta_CheckBook := (ok_nil.consC hf_slices_Contains_Lstring hB_slices_Contains_Lstring sound_slices_Contains_Lstring)
noncomputable def meta_CheckBook_L0 : List It := [.inLoop [12, 11, 10, 2, 1] (Code.sub (bodyOf fn_meta_CheckBook) [1, 1, 0, 1, 0, 0]), .inBlock 0, .code (Code.sub (bodyOf fn_meta_CheckBook) [1, 1, 1])]
def meta_CheckBook_S0 (x0 : Int) (x1 : Int) (x2 : (List (List UInt8))) (x3 : Int) (x4 : (List (List UInt8))) : St := ⟨[(12, .one (dI x0)), (11, .one (dI x1)), (10, .one (.dat (Ty.list Ty.str) x2)), (2, .one (dI x3)), (1, .one (.ptr 0 0))], [(0, .box [.dat (Ty.list Ty.str) x4])], 1⟩
theorem meta_CheckBook_vc (l : List (List UInt8)) (rec : RK) (K : KK) : segD Γ_meta_CheckBook tab fn_meta_CheckBook 0 K rec [.code (bodyOf fn_meta_CheckBook)] (initSt [.agg [.dat (Ty.list Ty.str) l]] []) = (
 br (lti (60 : Int) (((len l) : Nat) : Int))
 (K (.one (dI (2 : Int))) [])
 (rec meta_CheckBook_L0 (meta_CheckBook_S0 (0 : Int) (((len l) : Nat) : Int) l (0 : Int) l))) := by kernel_rfl
theorem meta_CheckBook_vc0 (x0 : Int) (x1 : Int) (x2 : (List (List UInt8))) (x3 : Int) (x4 : (List (List UInt8))) (rec : RK) (K : KK) v0 (hv0 : v0 = (hasS (nth x2 (Int.toNat x0) (Ty.dflt Ty.str)) (slc x4 (Int.toNat (0 : Int)) (Int.toNat x0)))) : segD Γ_meta_CheckBook tab fn_meta_CheckBook 0 K rec (ent meta_CheckBook_L0) (meta_CheckBook_S0 x0 x1 x2 x3 x4) = (
 br (lti x0 x1)
 ((((0 : Int) ≤ x0) ∧ (x0 < (((len x2) : Nat) : Int))) ∧
 (br (lti (2000 : Int) (((len (nth x2 (Int.toNat x0) (Ty.dflt Ty.str))) : Nat) : Int))
 (K (.one (dI (2 : Int))) [])
 ((((0 : Int) ≤ (0 : Int)) ∧ (((0 : Int) ≤ x0) ∧ (x0 ≤ (((len x4) : Nat) : Int)))) ∧
 (((List.length (slc x4 (Int.toNat (0 : Int)) (Int.toNat x0))) ≤ 140737488355328) ∧
 (br v0
 (K (.one (dI (6 : Int))) [])
 (rec meta_CheckBook_L0 (meta_CheckBook_S0 (w64 (x0 + (1 : Int))) x1 x2 x3 x4)))))))
 (K (.one (dI (0 : Int))) [])) := by subst_vars; kernel_rfl

theorem loop_meta_CheckBook (l : List (List UInt8)) (hl : l.length ≤ 60) (K : KK) : ∀ (d k : Nat), k + d = l.length → K (.one (dI (bookFrom (l.take k) (l.drop k)))) [] →
    goD Γ_meta_CheckBook tab fn_meta_CheckBook 0 K (d + 1) meta_CheckBook_L0 (meta_CheckBook_S0 (k : Int) (((len l) : Nat) : Int) l 0 l)
  | 0, k, hk, hK => by
    rw [goD_in (L := meta_CheckBook_L0), meta_CheckBook_vc0 _ _ _ _ _ _ _ _ rfl]
    rw [List.drop_of_length_le (by omega)] at hK
    exact lt_f (by simp only [len]; omega) hK
  | d + 1, k, hk, hK => by
    rw [goD_in (L := meta_CheckBook_L0), meta_CheckBook_vc0 _ _ _ _ _ _ _ _ rfl, toNat_nat, show Int.toNat (0 : Int) = 0 from rfl, slc_take]
    rw [drop_step (by omega) (Ty.dflt Ty.str)] at hK
    simp only [bookFrom] at hK
    refine lt_t (by simp only [len]; omega) ⟨⟨by omega, by simp only [len]; omega⟩, lt_s (fun h => ?_) (fun h => ⟨⟨by omega, by omega, by simp only [len]; omega⟩, by rw [List.length_take]; omega, br_split (fun h2 => ?_) (fun h2 => ?_)⟩)⟩
    · rw [if_pos (by simp only [len] at h; omega)] at hK; exact hK
    · rw [if_neg (by simp only [len] at h; omega), if_pos h2] at hK; exact hK
    · rw [if_neg (by simp only [len] at h; omega), if_neg (by rw [h2]; simp)] at hK
      rw [w64_succ (by omega)]
      rw [← take_step (by omega) (Ty.dflt Ty.str)] at hK
      exact loop_meta_CheckBook l hl K d (k + 1) (by omega) hK
theorem run_meta_CheckBook (l : List (List UInt8)) (K : KK) (hK : K (.one (dI (checkBook l))) []) : ∃ m, goD Γ_meta_CheckBook tab fn_meta_CheckBook 0 K m [.code (bodyOf fn_meta_CheckBook)] (initSt [.agg [.dat (Ty.list Ty.str) l]] []) := by
  refine ⟨l.length + 2, ?_⟩
  rw [goD_code, meta_CheckBook_vc _ _ _]
  unfold checkBook at hK
  refine lt_s (fun h => ?_) (fun h => ?_)
  · rw [if_pos (by simp only [len] at h; omega)] at hK; exact hK
  · rw [if_neg (by simp only [len] at h; omega)] at hK
    exact loop_meta_CheckBook l (by simp only [len] at h; omega) K l.length 0 (by omega) hK
theorem sound_meta_CheckBook : SoundC Tryd.prog tab n_meta_CheckBook c_meta_CheckBook := soundC_of ok_meta_CheckBook hf_meta_CheckBook hB_meta_CheckBook (by
  intro vs bs p v bs' h hp
  unfold c_meta_CheckBook at h
  split at h
  · cases h
    exact ⟨by kernel_rfl, rfl, .inl (run_meta_CheckBook _ _ ⟨rfl, rfl⟩)⟩
  · cases h)

def c_meta_Name : Contract := fun vs bs => match vs, bs with
  | [.agg [.dat (.list .str) l], .one (.dat .str s)], [] => some (some (l.length ≤ 140737488355328), .tup [.one (dI (nameB l s).1), .one (dI (nameB l s).2)], [])
  | _, _ => none
def Γ_meta_Name : Ctx := [(n_meta_CheckBook, c_meta_CheckBook), (n_slices_Index_Lstring, c_slices_Index_Lstring)]
theorem ok_meta_Name : Ok Tryd.prog tab Γ_meta_Name := ((ok_nil.consC hf_slices_Index_Lstring hB_slices_Index_Lstring sound_slices_Index_Lstring).consC hf_meta_CheckBook hB_meta_CheckBook sound_meta_CheckBook)
theorem meta_Name_vc (l : List (List UInt8)) (s : List UInt8) (rec : RK) (K : KK) v0 (hv0 : v0 = (checkBook l)) v1 (hv1 : v1 = (indexS s l)) : segD Γ_meta_Name tab fn_meta_Name 0 K rec [.code (bodyOf fn_meta_Name)] (initSt [.agg [.dat (Ty.list Ty.str) l], .one (.dat Ty.str s)] []) = (
 br (!(eqi v0 (0 : Int)))
 (K (.tup [.one (dI (0 : Int)), .one (dI v0)]) [])
 (((List.length l) ≤ 140737488355328) ∧
 (K (.tup [.one (dI (w64 (v1 + (1 : Int)))), .one (dI (0 : Int))]) []))) := by subst_vars; kernel_rfl

theorem run_meta_Name (l : List (List UInt8)) (s : List UInt8) (hp : l.length ≤ 140737488355328) (K : KK) (hK : K (.tup [.one (dI (nameB l s).1), .one (dI (nameB l s).2)]) []) : ∃ m, goD Γ_meta_Name tab fn_meta_Name 0 K m [.code (bodyOf fn_meta_Name)] (initSt [.agg [.dat (Ty.list Ty.str) l], .one (.dat .str s)] []) := by
  refine ⟨1, ?_⟩
  rw [goD_code, meta_Name_vc _ _ _ _ _ rfl _ rfl]
  unfold nameB at hK
  refine ne_s (fun h => ?_) (fun h => ⟨hp, ?_⟩)
  · rw [if_neg h] at hK; exact hK
  · rw [if_pos h] at hK
    have := indexFrom_range s l 0 (by omega)
    rw [w64_id (by unfold indexS; omega) (by unfold indexS; omega)]
    exact hK
theorem sound_meta_Name : SoundC Tryd.prog tab n_meta_Name c_meta_Name := soundC_of ok_meta_Name hf_meta_Name hB_meta_Name (by
  intro vs bs p v bs' h hp
  unfold c_meta_Name at h
  split at h
  · cases h
    exact ⟨by kernel_rfl, rfl, .inl (run_meta_Name _ _ hp.1 _ ⟨rfl, rfl⟩)⟩
  · cases h)

def c_meta_ImageName : Contract := fun vs bs => match vs, bs with
  | [.agg [.dat (.list .str) l], .one (.dat (.list .int) ws)], [] => some (some (l.length ≤ 140737488355328), .tup [.one (dI (imageName l ws).1), .one (dI (imageName l ws).2)], [])
  | _, _ => none
def Γ_meta_ImageName : Ctx := [(n_meta_ImageText, c_meta_ImageText), (n_meta_Name, c_meta_Name)]
theorem ok_meta_ImageName : Ok Tryd.prog tab Γ_meta_ImageName := ((ok_nil.consC hf_meta_Name hB_meta_Name sound_meta_Name).consC hf_meta_ImageText hB_meta_ImageText sound_meta_ImageText)
theorem meta_ImageName_vc (l : List (List UInt8)) (ws : List Int) (rec : RK) (K : KK) v0 (hv0 : v0 = (imageTextE ws)) v1 (hv1 : v1 = (nameB l v0.fst)) : segD Γ_meta_ImageName tab fn_meta_ImageName 0 K rec [.code (bodyOf fn_meta_ImageName)] (initSt [.agg [.dat (Ty.list Ty.str) l], .one (dL ws)] []) = (
 br (!(eqi v0.snd (0 : Int)))
 (K (.tup [.one (dI (0 : Int)), .one (dI v0.snd)]) [])
 (((List.length l) ≤ 140737488355328) ∧
 (K (.tup [.one (dI v1.fst), .one (dI v1.snd)]) []))) := by subst_vars; kernel_rfl

theorem run_meta_ImageName (l : List (List UInt8)) (ws : List Int) (hp : l.length ≤ 140737488355328) (K : KK) (hK : K (.tup [.one (dI (imageName l ws).1), .one (dI (imageName l ws).2)]) []) : ∃ m, goD Γ_meta_ImageName tab fn_meta_ImageName 0 K m [.code (bodyOf fn_meta_ImageName)] (initSt [.agg [.dat (Ty.list Ty.str) l], .one (dL ws)] []) := by
  refine ⟨1, ?_⟩
  rw [goD_code, meta_ImageName_vc _ _ _ _ _ rfl _ rfl]
  unfold imageName at hK
  by_cases h : checkImage ws = 0
  · rw [if_pos h] at hK
    rw [show imageTextE ws = (imageText ws, 0) from if_pos h]
    exact ne_f rfl ⟨hp, hK⟩
  · rw [if_neg h] at hK
    rw [show imageTextE ws = ([], checkImage ws) from if_neg h]
    exact ne_t h hK
theorem sound_meta_ImageName : SoundC Tryd.prog tab n_meta_ImageName c_meta_ImageName := soundC_of ok_meta_ImageName hf_meta_ImageName hB_meta_ImageName (by
  intro vs bs p v bs' h hp
  unfold c_meta_ImageName at h
  split at h
  · cases h
    exact ⟨by kernel_rfl, rfl, .inl (run_meta_ImageName _ _ hp.1 _ ⟨rfl, rfl⟩)⟩
  · cases h)

def c_law_written : Contract := fun vs bs => match vs, bs with
  | [], [] => some (none, .one (dB true), [])
  | _, _ => none
def Γ_law_written : Ctx := [(n_meta_RootText, c_meta_RootText), (n_meta_ReleaseText, c_meta_ReleaseText), (n_meta_ImageText, c_meta_ImageText), (n_meta_ImageName, c_meta_ImageName)]
theorem ok_law_written : Ok Tryd.prog tab Γ_law_written := ((((ok_nil.consC hf_meta_ImageName hB_meta_ImageName sound_meta_ImageName).consC hf_meta_ImageText hB_meta_ImageText sound_meta_ImageText).consC hf_meta_ReleaseText hB_meta_ReleaseText sound_meta_ReleaseText).consC hf_meta_RootText hB_meta_RootText sound_meta_RootText)
theorem law_written_vc (rec : RK) (K : KK) v0 (hv0 : v0 = (imageText ((7 : Int) :: ((0 : Int) :: [])))) v1 (hv1 : v1 = (indexS v0 (((120 : UInt8) :: []) :: (((105 : UInt8) :: ((109 : UInt8) :: ((97 : UInt8) :: ((103 : UInt8) :: ((101 : UInt8) :: ((32 : UInt8) :: ((55 : UInt8) :: ((32 : UInt8) :: ((48 : UInt8) :: []))))))))) :: [])))) : segD Γ_law_written tab fn_law_written 0 K rec [.code (bodyOf fn_law_written)] (initSt [] []) = (
 ((List.length (((120 : UInt8) :: []) :: (((105 : UInt8) :: ((109 : UInt8) :: ((97 : UInt8) :: ((103 : UInt8) :: ((101 : UInt8) :: ((32 : UInt8) :: ((55 : UInt8) :: ((32 : UInt8) :: ((48 : UInt8) :: []))))))))) :: []))) ≤ 140737488355328) ∧
 (K (.one (dB (eqi (v1 + (1 : Int)) (2 : Int)))) [])) := by subst_vars; kernel_rfl

theorem run_law_written  (K : KK) (hK : K (.one (dB true)) []) : ∃ m, goD Γ_law_written tab fn_law_written 0 K m [.code (bodyOf fn_law_written)] (initSt [] []) := by
  refine ⟨1, ?_⟩
  rw [goD_code, law_written_vc _ _ _ rfl _ rfl]
  refine ⟨by decide, ?_⟩
  exact hK
theorem sound_law_written : SoundC Tryd.prog tab n_law_written c_law_written := soundC_of ok_law_written hf_law_written hB_law_written (by
  intro vs bs p v bs' h hp
  unfold c_law_written at h
  split at h
  · cases h
    exact ⟨by kernel_rfl, rfl, .inl (run_law_written  _ ⟨rfl, rfl⟩)⟩
  · cases h)

def c_ref_spaced : Contract := fun vs bs => match vs, bs with
  | [.one (.dat (.list .int) l)], [] => some (some (len l ≤ 1000 ∧ nums l = true), .one (.dat .str (listT l)), [])
  | _, _ => none
def Γ_ref_spaced : Ctx := [(n_strconv_Itoa, c_strconv_Itoa)]
theorem ok_ref_spaced : Ok Tryd.prog tab Γ_ref_spaced := (ok_nil.consC hf_strconv_Itoa hB_strconv_Itoa sound_strconv_Itoa)
noncomputable def ref_spaced_L0 : List It := [.inLoop [8, 7, 6, 3, 2] (Code.sub (bodyOf fn_ref_spaced) [1, 1, 0, 1, 0, 0]), .inBlock 0, .code (Code.sub (bodyOf fn_ref_spaced) [1, 1, 1])]
def ref_spaced_S0 (x0 : Int) (x1 : Int) (x2 : (List Int)) (x3 : (List UInt8)) (x4 : (List UInt8)) : St := ⟨[(8, .one (dI x0)), (7, .one (dI x1)), (6, .one (dL x2)), (3, .one (.dat Ty.str x3)), (2, .one (.dat Ty.str x4))], [], 0⟩
theorem ref_spaced_vc (l : List Int) (rec : RK) (K : KK) : segD Γ_ref_spaced tab fn_ref_spaced 0 K rec [.code (bodyOf fn_ref_spaced)] (initSt [.one (dL l)] []) = (
 rec ref_spaced_L0 (ref_spaced_S0 (0 : Int) (((len l) : Nat) : Int) l [] [])) := by kernel_rfl
theorem ref_spaced_vc0 (x0 : Int) (x1 : Int) (x2 : (List Int)) (x3 : (List UInt8)) (x4 : (List UInt8)) (rec : RK) (K : KK) v0 (hv0 : v0 = (numT (nth x2 (Int.toNat x0) (Ty.dflt Ty.int)))) : segD Γ_ref_spaced tab fn_ref_spaced 0 K rec (ent ref_spaced_L0) (ref_spaced_S0 x0 x1 x2 x3 x4) = (
 br (lti x0 x1)
 ((((0 : Int) ≤ x0) ∧ (x0 < (((len x2) : Nat) : Int))) ∧
 (br (lti (0 : Int) x0)
 ((((len x3) + (len ((32 : UInt8) :: []))) ≤ 140737488355328) ∧
 ((((0 : Int) ≤ (nth x2 (Int.toNat x0) (Ty.dflt Ty.int))) ∧ ((nth x2 (Int.toNat x0) (Ty.dflt Ty.int)) ≤ (9223372036854775807 : Int))) ∧
 ((((len (cat x3 ((32 : UInt8) :: []))) + (len v0)) ≤ 140737488355328) ∧
 (rec ref_spaced_L0 (ref_spaced_S0 (w64 (x0 + (1 : Int))) x1 x2 (cat (cat x3 ((32 : UInt8) :: [])) v0) x4)))))
 ((((0 : Int) ≤ (nth x2 (Int.toNat x0) (Ty.dflt Ty.int))) ∧ ((nth x2 (Int.toNat x0) (Ty.dflt Ty.int)) ≤ (9223372036854775807 : Int))) ∧
 ((((len x3) + (len v0)) ≤ 140737488355328) ∧
 (rec ref_spaced_L0 (ref_spaced_S0 (w64 (x0 + (1 : Int))) x1 x2 (cat x3 v0) x4))))))
 (K (.one (.dat Ty.str x3)) [])) := by subst_vars; kernel_rfl

theorem loop_ref_spaced (l : List Int) (hl : l.length ≤ 1000) (hn : nums l = true) (K : KK) (hK : K (.one (.dat .str (listT l))) []) (y : List UInt8) : ∀ (d k : Nat), k + d = l.length →
    goD Γ_ref_spaced tab fn_ref_spaced 0 K (d + 1) ref_spaced_L0 (ref_spaced_S0 (k : Int) (((len l) : Nat) : Int) l (listT (l.take k)) y)
  | 0, k, hk => by
    rw [goD_in (L := ref_spaced_L0), ref_spaced_vc0 _ _ _ _ _ _ _ _ rfl, List.take_of_length_le (by omega)]
    exact lt_f (by simp only [len]; omega) hK
  | d + 1, k, hk => by
    rw [goD_in (L := ref_spaced_L0), ref_spaced_vc0 _ _ _ _ _ _ _ _ rfl, toNat_nat]
    have hm : nth l k (Ty.dflt Ty.int) ∈ l := by
      have : k < l.length := by omega
      simp [nth, List.getD_eq_getElem?_getD, this]
    have ht := take_step (l := l) (k := k) (by omega) (Ty.dflt Ty.int)
    have h0 := listT_len (l.take k)
    have hlk : (l.take k).length = k := by rw [List.length_take]; omega
    obtain ⟨x, hx⟩ : ∃ x, nth l k (Ty.dflt Ty.int) = x := ⟨_, rfl⟩
    rw [hx] at hm ht ⊢
    have h1 := List.all_eq_true.1 hn _ hm
    have h2 := numT_len x
    simp only [Bool.and_eq_true, decide_eq_true_eq] at h1
    have ek : w64 ((k : Int) + 1) = ((k + 1 : Nat) : Int) := w64_succ (by omega)
    rw [ek]
    refine lt_t (by simp only [len]; omega) ⟨⟨by omega, by simp only [len]; omega⟩, lt_s (fun h3 => ?_) (fun h3 => ?_)⟩
    · refine ⟨by simp only [len, List.length_cons, List.length_nil]; omega, h1, by simp only [len, cat, List.length_append, List.length_cons, List.length_nil]; omega, ?_⟩
      rw [show cat (cat (listT (l.take k)) [32]) (numT x) = listT (l.take (k + 1)) from by rw [ht, listT_snoc (by intro e; rw [e] at hlk; simp at hlk; omega)]; rfl]
      exact loop_ref_spaced l hl hn K hK y d (k + 1) (by omega)
    · have : k = 0 := by omega
      subst this
      refine ⟨h1, by simp only [len]; omega, ?_⟩
      rw [show cat (listT (l.take 0)) (numT x) = listT (l.take (0 + 1)) from by rw [ht]; rfl]
      exact loop_ref_spaced l hl hn K hK y d (0 + 1) (by omega)
theorem run_ref_spaced (l : List Int) (hp : len l ≤ 1000 ∧ nums l = true) (K : KK) (hK : K (.one (.dat .str (listT l))) []) : ∃ m, goD Γ_ref_spaced tab fn_ref_spaced 0 K m [.code (bodyOf fn_ref_spaced)] (initSt [.one (dL l)] []) := by
  refine ⟨l.length + 2, ?_⟩
  rw [goD_code, ref_spaced_vc _ _ _]
  exact loop_ref_spaced l hp.1 hp.2 K hK [] l.length 0 (by omega)
theorem sound_ref_spaced : SoundC Tryd.prog tab n_ref_spaced c_ref_spaced := soundC_of ok_ref_spaced hf_ref_spaced hB_ref_spaced (by
  intro vs bs p v bs' h hp
  unfold c_ref_spaced at h
  split at h
  · cases h
    exact ⟨by kernel_rfl, rfl, .inl (run_ref_spaced _ hp.1 _ ⟨rfl, rfl⟩)⟩
  · cases h)

def c_ref_RootText : Contract := fun vs bs => match vs, bs with
  | [.agg [.dat .int v, .dat (.list .int) ks, .dat .int t]], [] => some (some (checkRoot v ks t = 0), .one (.dat .str (rootText v ks t)), [])
  | _, _ => none
def Γ_ref_RootText : Ctx := [(n_ref_spaced, c_ref_spaced)]
theorem ok_ref_RootText : Ok Tryd.prog tab Γ_ref_RootText := (ok_nil.consC hf_ref_spaced hB_ref_spaced sound_ref_spaced)
theorem ref_RootText_vc (v : Int) (ks : List Int) (t : Int) (rec : RK) (K : KK) v0 (hv0 : v0 = (nums (v :: (t :: [])))) v1 (hv1 : v1 = (listT (v :: (t :: [])))) v2 (hv2 : v2 = (nums ks)) v3 (hv3 : v3 = (listT ks)) : segD Γ_ref_RootText tab fn_ref_RootText 0 K rec [.code (bodyOf fn_ref_RootText)] (initSt [.agg [dI v, dL ks, dI t]] []) = (
 (((len (v :: (t :: []))) ≤ 1000) ∧ (v0 = true)) ∧
 ((((len ((114 : UInt8) :: ((111 : UInt8) :: ((111 : UInt8) :: ((116 : UInt8) :: ((32 : UInt8) :: [])))))) + (len v1)) ≤ 140737488355328) ∧
 ((((len (cat ((114 : UInt8) :: ((111 : UInt8) :: ((111 : UInt8) :: ((116 : UInt8) :: ((32 : UInt8) :: []))))) v1)) + (len ((32 : UInt8) :: ((111 : UInt8) :: ((102 : UInt8) :: ((32 : UInt8) :: [])))))) ≤ 140737488355328) ∧
 ((((len ks) ≤ 1000) ∧ (v2 = true)) ∧
 ((((len (cat (cat ((114 : UInt8) :: ((111 : UInt8) :: ((111 : UInt8) :: ((116 : UInt8) :: ((32 : UInt8) :: []))))) v1) ((32 : UInt8) :: ((111 : UInt8) :: ((102 : UInt8) :: ((32 : UInt8) :: [])))))) + (len v3)) ≤ 140737488355328) ∧
 (K (.one (.dat Ty.str (cat (cat (cat ((114 : UInt8) :: ((111 : UInt8) :: ((111 : UInt8) :: ((116 : UInt8) :: ((32 : UInt8) :: []))))) v1) ((32 : UInt8) :: ((111 : UInt8) :: ((102 : UInt8) :: ((32 : UInt8) :: []))))) v3))) [])))))) := by subst_vars; kernel_rfl

theorem run_ref_RootText (v : Int) (ks : List Int) (t : Int) (hp : checkRoot v ks t = 0) (K : KK) (hK : K (.one (.dat .str (rootText v ks t))) []) : ∃ m, goD Γ_ref_RootText tab fn_ref_RootText 0 K m [.code (bodyOf fn_ref_RootText)] (initSt [.agg [dI v, dL ks, dI t]] []) := by
  refine ⟨1, ?_⟩
  rw [goD_code, ref_RootText_vc _ _ _ _ _ _ rfl _ rfl _ rfl _ rfl]
  obtain ⟨h1, h2, h3, h4, h5, h6⟩ := checkRoot_ok hp
  have n1 := listT_len [v, t]
  have n3 := listT_len ks
  simp only [List.length_cons, List.length_nil] at n1
  refine ⟨⟨by simp only [len, List.length_cons, List.length_nil]; omega, by simp only [nums, List.all_cons, List.all_nil, Bool.and_true, Bool.and_eq_true, decide_eq_true_eq]; omega⟩, by simp only [len, List.length_cons, List.length_nil]; omega, by simp only [len, cat, List.length_append, List.length_cons, List.length_nil]; omega, ⟨by simp only [len]; omega, h6⟩, by simp only [len, cat, List.length_append, List.length_cons, List.length_nil]; omega, ?_⟩
  rw [listT_two]
  simpa [cat, rootText] using hK
theorem sound_ref_RootText : SoundC Tryd.prog tab n_ref_RootText c_ref_RootText := soundC_of ok_ref_RootText hf_ref_RootText hB_ref_RootText (by
  intro vs bs p v bs' h hp
  unfold c_ref_RootText at h
  split at h
  · cases h
    exact ⟨by kernel_rfl, rfl, .inl (run_ref_RootText _ _ _ hp.1 _ ⟨rfl, rfl⟩)⟩
  · cases h)

def c_ref_ReleaseText : Contract := fun vs bs => match vs, bs with
  | [.agg [.dat .int v, .dat .int u, .dat (.list .target) ts]], [] => some (some (checkRelease v u ts = 0), .one (.dat .str (releaseText v u ts)), [])
  | _, _ => none
def Γ_ref_ReleaseText : Ctx := [(n_ref_spaced, c_ref_spaced), (n_strings_Join, c_strings_Join)]
theorem ok_ref_ReleaseText : Ok Tryd.prog tab Γ_ref_ReleaseText := ((ok_nil.consC hf_strings_Join hB_strings_Join sound_strings_Join).consC hf_ref_spaced hB_ref_spaced sound_ref_spaced)
noncomputable def ref_ReleaseText_L0 : List It := [.inLoop [21, 20, 19, 3, 2] (Code.sub (bodyOf fn_ref_ReleaseText) [1, 1, 0, 1, 0, 0]), .inBlock 0, .code (Code.sub (bodyOf fn_ref_ReleaseText) [1, 1, 1])]
def ref_ReleaseText_S0 (x0 : Int) (x1 : Int) (x2 : (List Vm.Target)) (x3 : (List UInt8)) (x4 : (List (List UInt8))) : St := ⟨[(21, .one (dI x0)), (20, .one (dI x1)), (19, .one (.dat (Ty.list Ty.target) x2)), (3, .one (.own 0)), (2, .one (.dat Ty.str x3))], [(0, .arr Ty.str x4)], 1⟩
theorem ref_ReleaseText_vc (v : Int) (u : Int) (ts : List Vm.Target) (rec : RK) (K : KK) v0 (hv0 : v0 = (nums (v :: []))) v1 (hv1 : v1 = (listT (v :: []))) v2 (hv2 : v2 = (nums (u :: []))) v3 (hv3 : v3 = (listT (u :: []))) : segD Γ_ref_ReleaseText tab fn_ref_ReleaseText 0 K rec [.code (bodyOf fn_ref_ReleaseText)] (initSt [.agg [dI v, dI u, .dat (Ty.list Ty.target) ts]] []) = (
 (((len (v :: [])) ≤ 1000) ∧ (v0 = true)) ∧
 ((((len ((114 : UInt8) :: ((101 : UInt8) :: ((108 : UInt8) :: ((101 : UInt8) :: ((97 : UInt8) :: ((115 : UInt8) :: ((101 : UInt8) :: ((32 : UInt8) :: []))))))))) + (len v1)) ≤ 140737488355328) ∧
 ((((len (cat ((114 : UInt8) :: ((101 : UInt8) :: ((108 : UInt8) :: ((101 : UInt8) :: ((97 : UInt8) :: ((115 : UInt8) :: ((101 : UInt8) :: ((32 : UInt8) :: [])))))))) v1)) + (len ((32 : UInt8) :: ((117 : UInt8) :: ((110 : UInt8) :: ((116 : UInt8) :: ((105 : UInt8) :: ((108 : UInt8) :: ((32 : UInt8) :: []))))))))) ≤ 140737488355328) ∧
 ((((len (u :: [])) ≤ 1000) ∧ (v2 = true)) ∧
 ((((len (cat (cat ((114 : UInt8) :: ((101 : UInt8) :: ((108 : UInt8) :: ((101 : UInt8) :: ((97 : UInt8) :: ((115 : UInt8) :: ((101 : UInt8) :: ((32 : UInt8) :: [])))))))) v1) ((32 : UInt8) :: ((117 : UInt8) :: ((110 : UInt8) :: ((116 : UInt8) :: ((105 : UInt8) :: ((108 : UInt8) :: ((32 : UInt8) :: []))))))))) + (len v3)) ≤ 140737488355328) ∧
 (rec ref_ReleaseText_L0 (ref_ReleaseText_S0 (0 : Int) (((len ts) : Nat) : Int) ts [] ((cat (cat (cat ((114 : UInt8) :: ((101 : UInt8) :: ((108 : UInt8) :: ((101 : UInt8) :: ((97 : UInt8) :: ((115 : UInt8) :: ((101 : UInt8) :: ((32 : UInt8) :: [])))))))) v1) ((32 : UInt8) :: ((117 : UInt8) :: ((110 : UInt8) :: ((116 : UInt8) :: ((105 : UInt8) :: ((108 : UInt8) :: ((32 : UInt8) :: [])))))))) v3) :: [])))))))) := by subst_vars; kernel_rfl
theorem ref_ReleaseText_vc0 (x0 : Int) (x1 : Int) (x2 : (List Vm.Target)) (x3 : (List UInt8)) (x4 : (List (List UInt8))) (rec : RK) (K : KK) v0 (hv0 : v0 = (nums (((nth x2 (Int.toNat x0) (Ty.dflt Ty.target))).unit :: (((nth x2 (Int.toNat x0) (Ty.dflt Ty.target))).image :: (((nth x2 (Int.toNat x0) (Ty.dflt Ty.target))).long :: []))))) v1 (hv1 : v1 = (listT (((nth x2 (Int.toNat x0) (Ty.dflt Ty.target))).unit :: (((nth x2 (Int.toNat x0) (Ty.dflt Ty.target))).image :: (((nth x2 (Int.toNat x0) (Ty.dflt Ty.target))).long :: []))))) v2 (hv2 : v2 = (joinT ((59 : UInt8) :: ((32 : UInt8) :: [])) x4)) : segD Γ_ref_ReleaseText tab fn_ref_ReleaseText 0 K rec (ent ref_ReleaseText_L0) (ref_ReleaseText_S0 x0 x1 x2 x3 x4) = (
 br (lti x0 x1)
 ((((0 : Int) ≤ x0) ∧ (x0 < (((len x2) : Nat) : Int))) ∧
 ((((len (((nth x2 (Int.toNat x0) (Ty.dflt Ty.target))).unit :: (((nth x2 (Int.toNat x0) (Ty.dflt Ty.target))).image :: (((nth x2 (Int.toNat x0) (Ty.dflt Ty.target))).long :: [])))) ≤ 1000) ∧ (v0 = true)) ∧
 (((((len x4) + (len (v1 :: []))) * 16) ≤ 140737488355328) ∧
 (rec ref_ReleaseText_L0 (ref_ReleaseText_S0 (w64 (x0 + (1 : Int))) x1 x2 x3 (cat x4 (v1 :: [])))))))
 ((((List.length x4) ≤ 140737488355328) ∧ ((List.length v2) ≤ 140737488355328)) ∧
 (K (.one (.dat Ty.str v2)) []))) := by subst_vars; kernel_rfl

theorem loop_ref_ReleaseText (ts : List Vm.Target) (hl : ts.length ≤ 4) (hn : ∀ t ∈ ts, 0 ≤ t.unit ∧ t.unit ≤ 1000 ∧ 0 ≤ t.image ∧ t.image ≤ 1000 ∧ 0 ≤ t.long ∧ t.long ≤ 1000) (K : KK) (pre : List UInt8) (hp : pre.length ≤ 1000) (x3 : List UInt8) (hK : K (.one (.dat .str (pre ++ targetsT ts))) []) : ∀ (d k : Nat), k + d = ts.length →
    goD Γ_ref_ReleaseText tab fn_ref_ReleaseText 0 K (d + 1) ref_ReleaseText_L0 (ref_ReleaseText_S0 (k : Int) (((len ts) : Nat) : Int) ts x3 (pre :: (ts.take k).map fun t => listT [t.unit, t.image, t.long]))
  | 0, k, hk => by
    rw [goD_in (L := ref_ReleaseText_L0), ref_ReleaseText_vc0 _ _ _ _ _ _ _ _ rfl _ rfl _ rfl, List.take_of_length_le (by omega), release_join]
    have hq := joinT_len [59, 32] 1000 (pre :: ts.map fun t => listT [t.unit, t.image, t.long]) (fun x hx => by
      rcases List.mem_cons.1 hx with rfl | hx
      · exact hp
      · obtain ⟨t, _, rfl⟩ := List.mem_map.1 hx
        have := listT_len [t.unit, t.image, t.long]
        simp only [List.length_cons, List.length_nil] at this; omega)
    rw [release_join] at hq
    simp only [List.length_cons, List.length_map, List.length_nil] at hq
    exact lt_f (by simp only [len]; omega) ⟨⟨by simp only [List.length_cons, List.length_map]; omega, by omega⟩, hK⟩
  | d + 1, k, hk => by
    rw [goD_in (L := ref_ReleaseText_L0), ref_ReleaseText_vc0 _ _ _ _ _ _ _ _ rfl _ rfl _ rfl, toNat_nat]
    have ht := take_step (l := ts) (k := k) (by omega) (Ty.dflt Ty.target)
    have hm : nth ts k (Ty.dflt Ty.target) ∈ ts := by
      have : k < ts.length := by omega
      simp [nth, List.getD_eq_getElem?_getD, this]
    have hx := hn _ hm
    obtain ⟨x, hxe⟩ : ∃ x, nth ts k (Ty.dflt Ty.target) = x := ⟨_, rfl⟩
    rw [hxe] at hx ht ⊢
    have ek : w64 ((k : Int) + 1) = ((k + 1 : Nat) : Int) := w64_succ (by omega)
    rw [ek]
    refine lt_t (by simp only [len]; omega) ⟨⟨by omega, by simp only [len]; omega⟩, ⟨by simp [len], ?_⟩, by simp only [len, List.length_cons, List.length_map, List.length_take, List.length_nil]; omega, ?_⟩
    · simp only [nums, List.all_cons, List.all_nil, Bool.and_true, Bool.and_eq_true, decide_eq_true_eq]; omega
    · rw [show cat (pre :: (ts.take k).map fun t => listT [t.unit, t.image, t.long]) [listT [x.unit, x.image, x.long]] = pre :: (ts.take (k + 1)).map fun t => listT [t.unit, t.image, t.long] from by rw [ht]; simp [cat]]
      exact loop_ref_ReleaseText ts hl hn K pre hp x3 hK d (k + 1) (by omega)
theorem run_ref_ReleaseText (v u : Int) (ts : List Vm.Target) (hp : checkRelease v u ts = 0) (K : KK) (hK : K (.one (.dat .str (releaseText v u ts))) []) : ∃ m, goD Γ_ref_ReleaseText tab fn_ref_ReleaseText 0 K m [.code (bodyOf fn_ref_ReleaseText)] (initSt [.agg [dI v, dI u, .dat (.list .target) ts]] []) := by
  refine ⟨ts.length + 2, ?_⟩
  rw [goD_code, ref_ReleaseText_vc _ _ _ _ _ _ rfl _ rfl _ rfl _ rfl]
  obtain ⟨h1, h2, h3, h4, h5, h6, h7⟩ := checkRelease_ok hp
  have n1 := numT_len v
  have n2 := numT_len u
  rw [listT_one, listT_one]
  refine ⟨⟨by simp [len], by simp only [nums, List.all_cons, List.all_nil, Bool.and_true, Bool.and_eq_true, decide_eq_true_eq]; omega⟩, by simp only [len, List.length_cons, List.length_nil]; omega, by simp only [len, cat, List.length_append, List.length_cons, List.length_nil]; omega, ⟨by simp [len], by simp only [nums, List.all_cons, List.all_nil, Bool.and_true, Bool.and_eq_true, decide_eq_true_eq]; omega⟩, by simp only [len, cat, List.length_append, List.length_cons, List.length_nil]; omega, ?_⟩
  exact loop_ref_ReleaseText ts h6 h7 K ([114, 101, 108, 101, 97, 115, 101, 32] ++ numT v ++ [32, 117, 110, 116, 105, 108, 32] ++ numT u) (by simp only [List.length_append, List.length_cons, List.length_nil]; omega) [] hK ts.length 0 (by omega)
theorem sound_ref_ReleaseText : SoundC Tryd.prog tab n_ref_ReleaseText c_ref_ReleaseText := soundC_of ok_ref_ReleaseText hf_ref_ReleaseText hB_ref_ReleaseText (by
  intro vs bs p v bs' h hp
  unfold c_ref_ReleaseText at h
  split at h
  · cases h
    exact ⟨by kernel_rfl, rfl, .inl (run_ref_ReleaseText _ _ _ hp.1 _ ⟨rfl, rfl⟩)⟩
  · cases h)

def c_ref_ImageText : Contract := fun vs bs => match vs, bs with
  | [.one (.dat (.list .int) l)], [] => some (some (checkImage l = 0), .one (.dat .str (imageText l)), [])
  | _, _ => none
def Γ_ref_ImageText : Ctx := [(n_ref_spaced, c_ref_spaced)]
theorem ok_ref_ImageText : Ok Tryd.prog tab Γ_ref_ImageText := (ok_nil.consC hf_ref_spaced hB_ref_spaced sound_ref_spaced)
theorem ref_ImageText_vc (l : List Int) (rec : RK) (K : KK) v0 (hv0 : v0 = (nums l)) v1 (hv1 : v1 = (listT l)) : segD Γ_ref_ImageText tab fn_ref_ImageText 0 K rec [.code (bodyOf fn_ref_ImageText)] (initSt [.one (dL l)] []) = (
 (((len l) ≤ 1000) ∧ (v0 = true)) ∧
 ((((len ((105 : UInt8) :: ((109 : UInt8) :: ((97 : UInt8) :: ((103 : UInt8) :: ((101 : UInt8) :: ((32 : UInt8) :: []))))))) + (len v1)) ≤ 140737488355328) ∧
 (K (.one (.dat Ty.str (cat ((105 : UInt8) :: ((109 : UInt8) :: ((97 : UInt8) :: ((103 : UInt8) :: ((101 : UInt8) :: ((32 : UInt8) :: [])))))) v1))) []))) := by subst_vars; kernel_rfl

theorem run_ref_ImageText (l : List Int) (hp : checkImage l = 0) (K : KK) (hK : K (.one (.dat .str (imageText l))) []) : ∃ m, goD Γ_ref_ImageText tab fn_ref_ImageText 0 K m [.code (bodyOf fn_ref_ImageText)] (initSt [.one (dL l)] []) := by
  refine ⟨1, ?_⟩
  rw [goD_code, ref_ImageText_vc _ _ _ _ rfl _ rfl]
  obtain ⟨h1, h2, h3⟩ := checkImage_ok hp
  have n1 := listT_len l
  exact ⟨⟨by simp only [len]; omega, nums_of_words h3⟩, by simp only [len, List.length_cons, List.length_nil]; omega, hK⟩
theorem sound_ref_ImageText : SoundC Tryd.prog tab n_ref_ImageText c_ref_ImageText := soundC_of ok_ref_ImageText hf_ref_ImageText hB_ref_ImageText (by
  intro vs bs p v bs' h hp
  unfold c_ref_ImageText at h
  split at h
  · cases h
    exact ⟨by kernel_rfl, rfl, .inl (run_ref_ImageText _ hp.1 _ ⟨rfl, rfl⟩)⟩
  · cases h)

def c_slices_Equal_LTarget : Contract := fun vs bs => match vs, bs with
  | [.one (.dat (.list .target) a), .one (.dat (.list .target) b)], [] => some (some (a.length ≤ 140737488355328), .one (dB (eqL eqT a b)), [])
  | _, _ => none
def Γ_slices_Equal_LTarget : Ctx := []
theorem ok_slices_Equal_LTarget : Ok Tryd.prog tab Γ_slices_Equal_LTarget := ok_nil
noncomputable def slices_Equal_LTarget_L0 : List It := [.inLoop [13, 12, 4, 0, 1] (Code.sub (bodyOf fn_slices_Equal_LTarget) [1, 1, 0, 1, 0, 0]), .inBlock 0, .code (Code.sub (bodyOf fn_slices_Equal_LTarget) [1, 1, 1])]
def slices_Equal_LTarget_S0 (x0 : Int) (x1 : Int) (x2 : Bool) (x3 : (List Vm.Target)) (x4 : (List Vm.Target)) : St := ⟨[(13, .one (dI x0)), (12, .one (dI x1)), (4, .one (dB x2)), (0, .one (.dat (Ty.list Ty.target) x3)), (1, .one (.dat (Ty.list Ty.target) x4))], [], 0⟩
theorem slices_Equal_LTarget_vc (a : List Vm.Target) (b : List Vm.Target) (rec : RK) (K : KK) : segD Γ_slices_Equal_LTarget tab fn_slices_Equal_LTarget 0 K rec [.code (bodyOf fn_slices_Equal_LTarget)] (initSt [.one (.dat (Ty.list Ty.target) a), .one (.dat (Ty.list Ty.target) b)] []) = (
 br (!(eqi (((len a) : Nat) : Int) (((len b) : Nat) : Int)))
 (K vF [])
 (rec slices_Equal_LTarget_L0 (slices_Equal_LTarget_S0 (0 : Int) (((len a) : Nat) : Int) false a b))) := by kernel_rfl
theorem slices_Equal_LTarget_vc0 (x0 : Int) (x1 : Int) (x2 : Bool) (x3 : (List Vm.Target)) (x4 : (List Vm.Target)) (rec : RK) (K : KK) : segD Γ_slices_Equal_LTarget tab fn_slices_Equal_LTarget 0 K rec (ent slices_Equal_LTarget_L0) (slices_Equal_LTarget_S0 x0 x1 x2 x3 x4) = (
 br (lti x0 x1)
 ((((0 : Int) ≤ x0) ∧ (x0 < (((len x3) : Nat) : Int))) ∧
 ((((0 : Int) ≤ x0) ∧ (x0 < (((len x4) : Nat) : Int))) ∧
 (br (!((eqi ((nth x3 (Int.toNat x0) (Ty.dflt Ty.target))).unit ((nth x4 (Int.toNat x0) (Ty.dflt Ty.target))).unit) && ((eqi ((nth x3 (Int.toNat x0) (Ty.dflt Ty.target))).image ((nth x4 (Int.toNat x0) (Ty.dflt Ty.target))).image) && ((eqi ((nth x3 (Int.toNat x0) (Ty.dflt Ty.target))).long ((nth x4 (Int.toNat x0) (Ty.dflt Ty.target))).long) && true))))
 (K vF [])
 (rec slices_Equal_LTarget_L0 (slices_Equal_LTarget_S0 (w64 (x0 + (1 : Int))) x1 x2 x3 x4)))))
 (K vT [])) := by kernel_rfl

theorem loop_slices_Equal_LTarget (a b : List Vm.Target) (hl : a.length = b.length) (hs : a.length ≤ 140737488355328) (K : KK) : ∀ (d k : Nat), k + d = a.length → K (.one (dB (eqL eqT (a.drop k) (b.drop k)))) [] →
    goD Γ_slices_Equal_LTarget tab fn_slices_Equal_LTarget 0 K (d + 1) slices_Equal_LTarget_L0 (slices_Equal_LTarget_S0 (k : Int) (((len a) : Nat) : Int) false a b)
  | 0, k, hk, hK => by
    rw [goD_in (L := slices_Equal_LTarget_L0), slices_Equal_LTarget_vc0 _ _ _ _ _ _ _]
    refine lt_f (by simp only [len]; omega) ?_
    rw [List.drop_of_length_le (by omega), List.drop_of_length_le (by omega)] at hK
    exact hK
  | d + 1, k, hk, hK => by
    rw [goD_in (L := slices_Equal_LTarget_L0), slices_Equal_LTarget_vc0 _ _ _ _ _ _ _, toNat_nat]
    rw [drop_step (l := a) (by omega) (Ty.dflt .target), drop_step (l := b) (by omega) (Ty.dflt .target)] at hK
    simp only [eqL] at hK
    refine lt_t (by simp only [len]; omega) ⟨⟨by omega, by simp only [len]; omega⟩, ⟨by omega, by simp only [len]; omega⟩, nt_s (fun hne => ?_) (fun heq => ?_)⟩
    · rw [show eqT (nth a k (Ty.dflt .target)) (nth b k (Ty.dflt .target)) = false from by simpa [eqT] using hne] at hK
      exact hK
    · rw [w64_succ (by omega)]
      rw [show eqT (nth a k (Ty.dflt .target)) (nth b k (Ty.dflt .target)) = true from by simpa [eqT] using heq, Bool.true_and] at hK
      exact loop_slices_Equal_LTarget a b hl hs K d (k + 1) (by omega) hK
theorem run_slices_Equal_LTarget (a b : List Vm.Target) (hp : a.length ≤ 140737488355328) (K : KK) (hK : K (.one (dB (eqL eqT a b))) []) : ∃ m, goD Γ_slices_Equal_LTarget tab fn_slices_Equal_LTarget 0 K m [.code (bodyOf fn_slices_Equal_LTarget)] (initSt [.one (.dat (.list .target) a), .one (.dat (.list .target) b)] []) := by
  refine ⟨a.length + 2, ?_⟩
  rw [goD_code, slices_Equal_LTarget_vc _ _ _ _]
  refine ne_s (fun h => ?_) (fun h => ?_)
  · rw [eqL_len eqT a b (by simp only [len] at h; omega)] at hK
    exact hK
  · exact loop_slices_Equal_LTarget a b (by simp only [len] at h; omega) hp K a.length 0 (by omega) hK
theorem sound_slices_Equal_LTarget : SoundC Tryd.prog tab n_slices_Equal_LTarget c_slices_Equal_LTarget := soundC_of ok_slices_Equal_LTarget hf_slices_Equal_LTarget hB_slices_Equal_LTarget (by
  intro vs bs p v bs' h hp
  unfold c_slices_Equal_LTarget at h
  split at h
  · cases h
    exact ⟨by kernel_rfl, rfl, .inl (run_slices_Equal_LTarget _ _ hp.1 _ ⟨rfl, rfl⟩)⟩
  · cases h)

def c_ref_SameRelease : Contract := fun vs bs => match vs, bs with
  | [.agg [.dat .int av, .dat .int au, .dat (.list .target) at_], .agg [.dat .int bv, .dat .int bu, .dat (.list .target) bt]], [] => some (some (at_.length ≤ 140737488355328), .one (dB (eqi av bv && eqi au bu && eqL eqT at_ bt)), [])
  | _, _ => none
def Γ_ref_SameRelease : Ctx := [(n_slices_Equal_LTarget, c_slices_Equal_LTarget)]
theorem ok_ref_SameRelease : Ok Tryd.prog tab Γ_ref_SameRelease := (ok_nil.consC hf_slices_Equal_LTarget hB_slices_Equal_LTarget sound_slices_Equal_LTarget)
theorem ref_SameRelease_vc (av : Int) (au : Int) (at_ : List Vm.Target) (bv : Int) (bu : Int) (bt : List Vm.Target) (rec : RK) (K : KK) v0 (hv0 : v0 = (eqL eqT at_ bt)) : segD Γ_ref_SameRelease tab fn_ref_SameRelease 0 K rec [.code (bodyOf fn_ref_SameRelease)] (initSt [.agg [dI av, dI au, .dat (Ty.list Ty.target) at_], .agg [dI bv, dI bu, .dat (Ty.list Ty.target) bt]] []) = (
 br (eqi av bv)
 (br (eqi au bu)
 (((List.length at_) ≤ 140737488355328) ∧
 (K (.one (dB v0)) []))
 (K vF []))
 (K vF [])) := by subst_vars; kernel_rfl

theorem run_ref_SameRelease (av au : Int) (at_ : List Vm.Target) (bv bu : Int) (bt : List Vm.Target) (hp : at_.length ≤ 140737488355328) (K : KK) (hK : K (.one (dB (eqi av bv && eqi au bu && eqL eqT at_ bt))) []) : ∃ m, goD Γ_ref_SameRelease tab fn_ref_SameRelease 0 K m [.code (bodyOf fn_ref_SameRelease)] (initSt [.agg [dI av, dI au, .dat (.list .target) at_], .agg [dI bv, dI bu, .dat (.list .target) bt]] []) := by
  refine ⟨1, ?_⟩
  rw [goD_code, ref_SameRelease_vc _ _ _ _ _ _ _ _ _ rfl]
  refine br_split (fun h => br_split (fun k => ⟨hp, ?_⟩) (fun k => ?_)) (fun h => ?_)
  · rw [h, k] at hK; exact hK
  · rw [h, k] at hK; exact hK
  · rw [h] at hK; exact hK
theorem sound_ref_SameRelease : SoundC Tryd.prog tab n_ref_SameRelease c_ref_SameRelease := soundC_of ok_ref_SameRelease hf_ref_SameRelease hB_ref_SameRelease (by
  intro vs bs p v bs' h hp
  unfold c_ref_SameRelease at h
  split at h
  · cases h
    exact ⟨by kernel_rfl, rfl, .inl (run_ref_SameRelease _ _ _ _ _ _ hp.1 _ ⟨rfl, rfl⟩)⟩
  · cases h)

def c_ref_ReadRelease_1 : Contract := fun vs bs => match vs, bs with
  | [], [] => some (none, .tup [.agg [dI 0, dI 0, .dat (.list .target) []], .one (dI 1)], [])
  | _, _ => none
def Γ_ref_ReadRelease_1 : Ctx := []
theorem ok_ref_ReadRelease_1 : Ok Tryd.prog tab Γ_ref_ReadRelease_1 := ok_nil
theorem ref_ReadRelease_1_vc (rec : RK) (K : KK) : segD Γ_ref_ReadRelease_1 tab fn_ref_ReadRelease_1 0 K rec [.code (bodyOf fn_ref_ReadRelease_1)] (initSt [] []) = (
 K (.tup [.agg [dI (0 : Int), dI (0 : Int), .dat (Ty.list Ty.target) []], .one (dI (1 : Int))]) []) := by kernel_rfl

theorem run_ref_ReadRelease_1  (K : KK) (hK : K (.tup [.agg [dI 0, dI 0, .dat (.list .target) []], .one (dI 1)]) []) : ∃ m, goD Γ_ref_ReadRelease_1 tab fn_ref_ReadRelease_1 0 K m [.code (bodyOf fn_ref_ReadRelease_1)] (initSt [] []) := by
  refine ⟨1, ?_⟩
  rw [goD_code, ref_ReadRelease_1_vc _ _]
  exact hK
theorem sound_ref_ReadRelease_1 : SoundC Tryd.prog tab n_ref_ReadRelease_1 c_ref_ReadRelease_1 := soundC_of ok_ref_ReadRelease_1 hf_ref_ReadRelease_1 hB_ref_ReadRelease_1 (by
  intro vs bs p v bs' h hp
  unfold c_ref_ReadRelease_1 at h
  split at h
  · cases h
    exact ⟨by kernel_rfl, rfl, .inl (run_ref_ReadRelease_1  _ ⟨rfl, rfl⟩)⟩
  · cases h)

def c_ref_ReadRelease_2 : Contract := fun vs bs => match vs, bs with
  | [.one (.dat .str w)], [] => some (some (w.length ≤ 4000), .tup [.one (dI (intV w)), .one (dB (numE w))], [])
  | _, _ => none
def Γ_ref_ReadRelease_2 : Ctx := [(n_strconv_ParseInt, c_strconv_ParseInt), (n_strconv_FormatInt, c_strconv_FormatInt)]
theorem ok_ref_ReadRelease_2 : Ok Tryd.prog tab Γ_ref_ReadRelease_2 := ((ok_nil.consC hf_strconv_FormatInt hB_strconv_FormatInt sound_strconv_FormatInt).consC hf_strconv_ParseInt hB_strconv_ParseInt sound_strconv_ParseInt)
theorem ref_ReadRelease_2_vc (w : List UInt8) (rec : RK) (K : KK) v0 (hv0 : v0 = (atoiE w)) v1 (hv1 : v1 = (intV w)) : segD Γ_ref_ReadRelease_2 tab fn_ref_ReadRelease_2 0 K rec [.code (bodyOf fn_ref_ReadRelease_2)] (initSt [.one (.dat Ty.str w)] []) = (
 ((List.length w) ≤ 4000000) ∧
 (br v0
 ((((-(9223372036854775808 : Int)) ≤ v1) ∧ (v1 ≤ (9223372036854775807 : Int))) ∧
 (K (.tup [.one (dI v1), .one (dB (eqs (Lib.itoa v1) w))]) []))
 (K (.tup [.one (dI v1), .one (dB false)]) []))) := by subst_vars; kernel_rfl

theorem run_ref_ReadRelease_2 (w : List UInt8) (hp : w.length ≤ 4000) (K : KK) (hK : K (.tup [.one (dI (intV w)), .one (dB (numE w))]) []) : ∃ m, goD Γ_ref_ReadRelease_2 tab fn_ref_ReadRelease_2 0 K m [.code (bodyOf fn_ref_ReadRelease_2)] (initSt [.one (.dat .str w)] []) := by
  have hp : w.length ≤ 4000 := hp
  refine ⟨1, ?_⟩
  rw [goD_code, ref_ReadRelease_2_vc _ _ _ _ rfl _ rfl]
  refine ⟨by omega, br_split (fun h => ?_) (fun h => ?_)⟩
  · obtain ⟨_, i2, _, _⟩ := numW_e h
    refine ⟨i2, ?_⟩
    rw [numE_is, h, Bool.true_and] at hK
    exact hK
  · rw [numE_is, h, Bool.false_and] at hK
    exact hK
theorem sound_ref_ReadRelease_2 : SoundC Tryd.prog tab n_ref_ReadRelease_2 c_ref_ReadRelease_2 := soundC_of ok_ref_ReadRelease_2 hf_ref_ReadRelease_2 hB_ref_ReadRelease_2 (by
  intro vs bs p v bs' h hp
  unfold c_ref_ReadRelease_2 at h
  split at h
  · cases h
    exact ⟨by kernel_rfl, rfl, .inl (run_ref_ReadRelease_2 _ hp.1 _ ⟨rfl, rfl⟩)⟩
  · cases h)

def c_ref_ReadRelease : Contract := fun vs bs => match vs, bs with
  | [.one (.dat .str s)], [] => some (some (s.length ≤ 2000), .tup [.agg [dI (endR (readP s)).1.version, dI (endR (readP s)).1.til, .dat (.list .target) (endR (readP s)).1.targets], .one (dI (endR (readP s)).2)], [])
  | _, _ => none
def Γ_ref_ReadRelease : Ctx := [(n_ref_ReadRelease_1, c_ref_ReadRelease_1), (n_ref_ReadRelease_2, c_ref_ReadRelease_2), (n_strings_CutPrefix, c_strings_CutPrefix), (n_strings_Split, c_strings_Split), (n_strings_Cut, c_strings_Cut), (n_ref_CheckRelease, c_ref_CheckRelease)]
theorem ok_ref_ReadRelease : Ok Tryd.prog tab Γ_ref_ReadRelease := ((((((ok_nil.consC hf_ref_CheckRelease hB_ref_CheckRelease sound_ref_CheckRelease).consC hf_strings_Cut hB_strings_Cut sound_strings_Cut).consC hf_strings_Split hB_strings_Split sound_strings_Split).consC hf_strings_CutPrefix hB_strings_CutPrefix sound_strings_CutPrefix).consC hf_ref_ReadRelease_2 hB_ref_ReadRelease_2 sound_ref_ReadRelease_2).consC hf_ref_ReadRelease_1 hB_ref_ReadRelease_1 sound_ref_ReadRelease_1)
noncomputable def ref_ReadRelease_L0 : List It := [.inLoop [77, 76, 75, 15, 5, 4, 3, 2] (Code.sub (bodyOf fn_ref_ReadRelease) [1, 1, 1, 1, 1, 1, 1, 1, 1, 1, 1, 0, 1, 0, 0]), .inBlock 0, .code (Code.sub (bodyOf fn_ref_ReadRelease) [1, 1, 1, 1, 1, 1, 1, 1, 1, 1, 1, 1])]
def ref_ReadRelease_S0 (x0 : Int) (x1 : Int) (x2 : (List (List UInt8))) (x3 : Int) (x4 : Int) (x5 : Int) (x6 : Int) (x7 : Int) (x8 : (List Vm.Target)) (x9 : (List Vm.Target)) : St := ⟨[(77, .one (dI x0)), (76, .one (dI x1)), (75, .one (.dat (Ty.list Ty.str) x2)), (15, .one (.ptr 0 0)), (5, .one (.fn n_ref_ReadRelease_2 [])), (4, .one (.fn n_ref_ReadRelease_1 [])), (3, .one (dI x3)), (2, .one (.ptr 1 0))], [(0, .box [dI x4, dI x5, .own 2]), (1, .box [dI x6, dI x7, .own 3]), (2, .arr Ty.target x8), (3, .arr Ty.target x9)], 4⟩
noncomputable def ref_ReadRelease_L1 : List It := [.inLoop [84, 83, 82, 81, 18, 17, 80, 79, 78, 77, 76, 75, 15, 5, 4, 3, 2] (Code.sub (bodyOf fn_ref_ReadRelease) [1, 1, 1, 1, 1, 1, 1, 1, 1, 1, 1, 0, 1, 0, 0, 1, 1, 0, 0, 1, 1, 0, 1, 0, 0]), .inBlock 2, .code (Code.sub (bodyOf fn_ref_ReadRelease) [1, 1, 1, 1, 1, 1, 1, 1, 1, 1, 1, 0, 1, 0, 0, 1, 1, 0, 0, 1, 1, 1]), .inBlock 1, .code (Code.sub (bodyOf fn_ref_ReadRelease) [1, 1, 1, 1, 1, 1, 1, 1, 1, 1, 1, 0, 1, 0, 0, 1, 1, 1]), .inLoop [77, 76, 75, 15, 5, 4, 3, 2] (Code.sub (bodyOf fn_ref_ReadRelease) [1, 1, 1, 1, 1, 1, 1, 1, 1, 1, 1, 0, 1, 0, 0]), .inBlock 0, .code (Code.sub (bodyOf fn_ref_ReadRelease) [1, 1, 1, 1, 1, 1, 1, 1, 1, 1, 1, 1])]
def ref_ReadRelease_S1 (x0 : Int) (x1 : Int) (x2 : (List (List UInt8))) (x3 : (List UInt8)) (x4 : (List UInt8)) (x5 : (List UInt8)) (x6 : (List (List UInt8))) (x7 : Nat) (x8 : Bool) (x9 : Int) (x10 : Int) (x11 : (List (List UInt8))) (x12 : Int) (x13 : (List Int)) (x14 : Int) (x15 : Int) (x16 : Int) (x17 : Int) (x18 : (List Vm.Target)) (x19 : (List Vm.Target)) : St := ⟨[(84, .one (dI x0)), (83, .one (dI x1)), (82, .one (.dat (Ty.list Ty.str) x2)), (81, .one (.dat Ty.str x3)), (18, .one (.own 0)), (17, .one (.dat Ty.str x4)), (80, .one (.dat Ty.str x5)), (79, .one (.eptr Ty.str x6 x7 0)), (78, .one (dB x8)), (77, .one (dI x9)), (76, .one (dI x10)), (75, .one (.dat (Ty.list Ty.str) x11)), (15, .one (.ptr 1 0)), (5, .one (.fn n_ref_ReadRelease_2 [])), (4, .one (.fn n_ref_ReadRelease_1 [])), (3, .one (dI x12)), (2, .one (.ptr 2 0))], [(0, .arr Ty.int x13), (1, .box [dI x14, dI x15, .own 3]), (2, .box [dI x16, dI x17, .own 4]), (3, .arr Ty.target x18), (4, .arr Ty.target x19)], 5⟩
theorem ref_ReadRelease_vc (s : List UInt8) (rec : RK) (K : KK) v0 (hv0 : v0 = (numE ((Lib.cut (nth (Lib.split (Lib.trimPrefix s ((114 : UInt8) :: ((101 : UInt8) :: ((108 : UInt8) :: ((101 : UInt8) :: ((97 : UInt8) :: ((115 : UInt8) :: ((101 : UInt8) :: ((32 : UInt8) :: []))))))))) ((59 : UInt8) :: ((32 : UInt8) :: []))) (Int.toNat (0 : Int)) (Ty.dflt Ty.str)) ((32 : UInt8) :: ((117 : UInt8) :: ((110 : UInt8) :: ((116 : UInt8) :: ((105 : UInt8) :: ((108 : UInt8) :: ((32 : UInt8) :: []))))))))).fst)) v1 (hv1 : v1 = (numE (((Lib.cut (nth (Lib.split (Lib.trimPrefix s ((114 : UInt8) :: ((101 : UInt8) :: ((108 : UInt8) :: ((101 : UInt8) :: ((97 : UInt8) :: ((115 : UInt8) :: ((101 : UInt8) :: ((32 : UInt8) :: []))))))))) ((59 : UInt8) :: ((32 : UInt8) :: []))) (Int.toNat (0 : Int)) (Ty.dflt Ty.str)) ((32 : UInt8) :: ((117 : UInt8) :: ((110 : UInt8) :: ((116 : UInt8) :: ((105 : UInt8) :: ((108 : UInt8) :: ((32 : UInt8) :: []))))))))).snd).fst)) v2 (hv2 : v2 = (intV ((Lib.cut (nth (Lib.split (Lib.trimPrefix s ((114 : UInt8) :: ((101 : UInt8) :: ((108 : UInt8) :: ((101 : UInt8) :: ((97 : UInt8) :: ((115 : UInt8) :: ((101 : UInt8) :: ((32 : UInt8) :: []))))))))) ((59 : UInt8) :: ((32 : UInt8) :: []))) (Int.toNat (0 : Int)) (Ty.dflt Ty.str)) ((32 : UInt8) :: ((117 : UInt8) :: ((110 : UInt8) :: ((116 : UInt8) :: ((105 : UInt8) :: ((108 : UInt8) :: ((32 : UInt8) :: []))))))))).fst)) v3 (hv3 : v3 = (intV (((Lib.cut (nth (Lib.split (Lib.trimPrefix s ((114 : UInt8) :: ((101 : UInt8) :: ((108 : UInt8) :: ((101 : UInt8) :: ((97 : UInt8) :: ((115 : UInt8) :: ((101 : UInt8) :: ((32 : UInt8) :: []))))))))) ((59 : UInt8) :: ((32 : UInt8) :: []))) (Int.toNat (0 : Int)) (Ty.dflt Ty.str)) ((32 : UInt8) :: ((117 : UInt8) :: ((110 : UInt8) :: ((116 : UInt8) :: ((105 : UInt8) :: ((108 : UInt8) :: ((32 : UInt8) :: []))))))))).snd).fst)) v4 (hv4 : v4 = (K (.tup [.agg [dI (0 : Int), dI (0 : Int), .dat (Ty.list Ty.target) []], .one (dI (1 : Int))]) [])) : segD Γ_ref_ReadRelease tab fn_ref_ReadRelease 0 K rec [.code (bodyOf fn_ref_ReadRelease)] (initSt [.one (.dat Ty.str s)] []) = (
 br (!(Lib.hasPrefix s ((114 : UInt8) :: ((101 : UInt8) :: ((108 : UInt8) :: ((101 : UInt8) :: ((97 : UInt8) :: ((115 : UInt8) :: ((101 : UInt8) :: ((32 : UInt8) :: []))))))))))
 v4
 ((((List.length (Lib.trimPrefix s ((114 : UInt8) :: ((101 : UInt8) :: ((108 : UInt8) :: ((101 : UInt8) :: ((97 : UInt8) :: ((115 : UInt8) :: ((101 : UInt8) :: ((32 : UInt8) :: [])))))))))) ≤ 4000000) ∧ (1 ≤ (List.length ((59 : UInt8) :: ((32 : UInt8) :: []))))) ∧
 ((((0 : Int) ≤ (0 : Int)) ∧ ((0 : Int) < (((len (Lib.split (Lib.trimPrefix s ((114 : UInt8) :: ((101 : UInt8) :: ((108 : UInt8) :: ((101 : UInt8) :: ((97 : UInt8) :: ((115 : UInt8) :: ((101 : UInt8) :: ((32 : UInt8) :: []))))))))) ((59 : UInt8) :: ((32 : UInt8) :: [])))) : Nat) : Int))) ∧
 (((List.length (nth (Lib.split (Lib.trimPrefix s ((114 : UInt8) :: ((101 : UInt8) :: ((108 : UInt8) :: ((101 : UInt8) :: ((97 : UInt8) :: ((115 : UInt8) :: ((101 : UInt8) :: ((32 : UInt8) :: []))))))))) ((59 : UInt8) :: ((32 : UInt8) :: []))) (Int.toNat (0 : Int)) (Ty.dflt Ty.str))) ≤ 4000000) ∧
 (((List.length ((Lib.cut (nth (Lib.split (Lib.trimPrefix s ((114 : UInt8) :: ((101 : UInt8) :: ((108 : UInt8) :: ((101 : UInt8) :: ((97 : UInt8) :: ((115 : UInt8) :: ((101 : UInt8) :: ((32 : UInt8) :: []))))))))) ((59 : UInt8) :: ((32 : UInt8) :: []))) (Int.toNat (0 : Int)) (Ty.dflt Ty.str)) ((32 : UInt8) :: ((117 : UInt8) :: ((110 : UInt8) :: ((116 : UInt8) :: ((105 : UInt8) :: ((108 : UInt8) :: ((32 : UInt8) :: []))))))))).fst) ≤ 4000) ∧
 (((List.length (((Lib.cut (nth (Lib.split (Lib.trimPrefix s ((114 : UInt8) :: ((101 : UInt8) :: ((108 : UInt8) :: ((101 : UInt8) :: ((97 : UInt8) :: ((115 : UInt8) :: ((101 : UInt8) :: ((32 : UInt8) :: []))))))))) ((59 : UInt8) :: ((32 : UInt8) :: []))) (Int.toNat (0 : Int)) (Ty.dflt Ty.str)) ((32 : UInt8) :: ((117 : UInt8) :: ((110 : UInt8) :: ((116 : UInt8) :: ((105 : UInt8) :: ((108 : UInt8) :: ((32 : UInt8) :: []))))))))).snd).fst) ≤ 4000) ∧
 (br (!(((Lib.cut (nth (Lib.split (Lib.trimPrefix s ((114 : UInt8) :: ((101 : UInt8) :: ((108 : UInt8) :: ((101 : UInt8) :: ((97 : UInt8) :: ((115 : UInt8) :: ((101 : UInt8) :: ((32 : UInt8) :: []))))))))) ((59 : UInt8) :: ((32 : UInt8) :: []))) (Int.toNat (0 : Int)) (Ty.dflt Ty.str)) ((32 : UInt8) :: ((117 : UInt8) :: ((110 : UInt8) :: ((116 : UInt8) :: ((105 : UInt8) :: ((108 : UInt8) :: ((32 : UInt8) :: []))))))))).snd).snd)
 v4
 (br (!v0)
 v4
 (br (!v1)
 v4
 ((((0 : Int) ≤ (1 : Int)) ∧ (((1 : Int) ≤ (((len (Lib.split (Lib.trimPrefix s ((114 : UInt8) :: ((101 : UInt8) :: ((108 : UInt8) :: ((101 : UInt8) :: ((97 : UInt8) :: ((115 : UInt8) :: ((101 : UInt8) :: ((32 : UInt8) :: []))))))))) ((59 : UInt8) :: ((32 : UInt8) :: [])))) : Nat) : Int)) ∧ ((((len (Lib.split (Lib.trimPrefix s ((114 : UInt8) :: ((101 : UInt8) :: ((108 : UInt8) :: ((101 : UInt8) :: ((97 : UInt8) :: ((115 : UInt8) :: ((101 : UInt8) :: ((32 : UInt8) :: []))))))))) ((59 : UInt8) :: ((32 : UInt8) :: [])))) : Nat) : Int) ≤ (((len (Lib.split (Lib.trimPrefix s ((114 : UInt8) :: ((101 : UInt8) :: ((108 : UInt8) :: ((101 : UInt8) :: ((97 : UInt8) :: ((115 : UInt8) :: ((101 : UInt8) :: ((32 : UInt8) :: []))))))))) ((59 : UInt8) :: ((32 : UInt8) :: [])))) : Nat) : Int)))) ∧
 (rec ref_ReadRelease_L0 (ref_ReadRelease_S0 (0 : Int) (((len (slc (Lib.split (Lib.trimPrefix s ((114 : UInt8) :: ((101 : UInt8) :: ((108 : UInt8) :: ((101 : UInt8) :: ((97 : UInt8) :: ((115 : UInt8) :: ((101 : UInt8) :: ((32 : UInt8) :: []))))))))) ((59 : UInt8) :: ((32 : UInt8) :: []))) (Int.toNat (1 : Int)) (Int.toNat (((len (Lib.split (Lib.trimPrefix s ((114 : UInt8) :: ((101 : UInt8) :: ((108 : UInt8) :: ((101 : UInt8) :: ((97 : UInt8) :: ((115 : UInt8) :: ((101 : UInt8) :: ((32 : UInt8) :: []))))))))) ((59 : UInt8) :: ((32 : UInt8) :: [])))) : Nat) : Int)))) : Nat) : Int) (slc (Lib.split (Lib.trimPrefix s ((114 : UInt8) :: ((101 : UInt8) :: ((108 : UInt8) :: ((101 : UInt8) :: ((97 : UInt8) :: ((115 : UInt8) :: ((101 : UInt8) :: ((32 : UInt8) :: []))))))))) ((59 : UInt8) :: ((32 : UInt8) :: []))) (Int.toNat (1 : Int)) (Int.toNat (((len (Lib.split (Lib.trimPrefix s ((114 : UInt8) :: ((101 : UInt8) :: ((108 : UInt8) :: ((101 : UInt8) :: ((97 : UInt8) :: ((115 : UInt8) :: ((101 : UInt8) :: ((32 : UInt8) :: []))))))))) ((59 : UInt8) :: ((32 : UInt8) :: [])))) : Nat) : Int))) (0 : Int) v2 v3 (0 : Int) (0 : Int) [] [])))))))))))) := by subst_vars; kernel_rfl
theorem ref_ReadRelease_vc0 (x0 : Int) (x1 : Int) (x2 : (List (List UInt8))) (x3 : Int) (x4 : Int) (x5 : Int) (x6 : Int) (x7 : Int) (x8 : (List Vm.Target)) (x9 : (List Vm.Target)) (rec : RK) (K : KK) v0 (hv0 : v0 = (checkRelease x4 x5 x8)) : segD Γ_ref_ReadRelease tab fn_ref_ReadRelease 0 K rec (ent ref_ReadRelease_L0) (ref_ReadRelease_S0 x0 x1 x2 x3 x4 x5 x6 x7 x8 x9) = (
 br (lti x0 x1)
 ((((0 : Int) ≤ x0) ∧ (x0 < (((len x2) : Nat) : Int))) ∧
 ((((List.length (nth x2 (Int.toNat x0) (Ty.dflt Ty.str))) ≤ 4000000) ∧ (1 ≤ (List.length ((32 : UInt8) :: [])))) ∧
 (rec ref_ReadRelease_L1 (ref_ReadRelease_S1 (0 : Int) (((len (Lib.split (nth x2 (Int.toNat x0) (Ty.dflt Ty.str)) ((32 : UInt8) :: []))) : Nat) : Int) (Lib.split (nth x2 (Int.toNat x0) (Ty.dflt Ty.str)) ((32 : UInt8) :: [])) (nth x2 (Int.toNat x0) (Ty.dflt Ty.str)) (nth x2 (Int.toNat x0) (Ty.dflt Ty.str)) (nth x2 (Int.toNat x0) (Ty.dflt Ty.str)) x2 (Int.toNat x0) (lti x0 x1) x0 x1 x2 x3 [] x4 x5 x6 x7 x8 x9))))
 (br (!(eqi v0 (0 : Int)))
 (K (.tup [.agg [dI (0 : Int), dI (0 : Int), .dat (Ty.list Ty.target) []], .one (dI v0)]) [])
 (K (.tup [.agg [dI x4, dI x5, .dat (Ty.list Ty.target) x8], .one (dI (0 : Int))]) []))) := by subst_vars; kernel_rfl
theorem ref_ReadRelease_vc1 (x0 : Int) (x1 : Int) (x2 : (List (List UInt8))) (x3 : (List UInt8)) (x4 : (List UInt8)) (x5 : (List UInt8)) (x6 : (List (List UInt8))) (x7 : Nat) (x8 : Bool) (x9 : Int) (x10 : Int) (x11 : (List (List UInt8))) (x12 : Int) (x13 : (List Int)) (x14 : Int) (x15 : Int) (x16 : Int) (x17 : Int) (x18 : (List Vm.Target)) (x19 : (List Vm.Target)) (rec : RK) (K : KK) v0 (hv0 : v0 = (numE (nth x2 (Int.toNat x0) (Ty.dflt Ty.str)))) v1 (hv1 : v1 = (intV (nth x2 (Int.toNat x0) (Ty.dflt Ty.str)))) v2 (hv2 : v2 = (K (.tup [.agg [dI (0 : Int), dI (0 : Int), .dat (Ty.list Ty.target) []], .one (dI (1 : Int))]) [])) : segD Γ_ref_ReadRelease tab fn_ref_ReadRelease 0 K rec (ent ref_ReadRelease_L1) (ref_ReadRelease_S1 x0 x1 x2 x3 x4 x5 x6 x7 x8 x9 x10 x11 x12 x13 x14 x15 x16 x17 x18 x19) = (
 br (lti x0 x1)
 ((((0 : Int) ≤ x0) ∧ (x0 < (((len x2) : Nat) : Int))) ∧
 (((List.length (nth x2 (Int.toNat x0) (Ty.dflt Ty.str))) ≤ 4000) ∧
 (br (!v0)
 v2
 (((((len x13) + (len (v1 :: []))) * 8) ≤ 140737488355328) ∧
 (rec ref_ReadRelease_L1 (ref_ReadRelease_S1 (w64 (x0 + (1 : Int))) x1 x2 x3 x4 x5 x6 x7 x8 x9 x10 x11 x12 (cat x13 (v1 :: [])) x14 x15 x16 x17 x18 x19))))))
 (br (!(eqi (((len x13) : Nat) : Int) (3 : Int)))
 v2
 ((((0 : Int) ≤ (0 : Int)) ∧ ((0 : Int) < (((len x13) : Nat) : Int))) ∧
 (((Int.toNat (0 : Int)) < (len x13)) ∧
 ((((0 : Int) ≤ (1 : Int)) ∧ ((1 : Int) < (((len x13) : Nat) : Int))) ∧
 (((Int.toNat (1 : Int)) < (len x13)) ∧
 ((((0 : Int) ≤ (2 : Int)) ∧ ((2 : Int) < (((len x13) : Nat) : Int))) ∧
 (((Int.toNat (2 : Int)) < (len x13)) ∧
 (((((len x18) + (len ((⟨(nth x13 (Int.toNat (0 : Int)) (Ty.dflt Ty.int)), (nth x13 (Int.toNat (1 : Int)) (Ty.dflt Ty.int)), (nth x13 (Int.toNat (2 : Int)) (Ty.dflt Ty.int))⟩ : Vm.Target) :: []))) * 24) ≤ 140737488355328) ∧
 (rec ref_ReadRelease_L0 (ref_ReadRelease_S0 (w64 (x9 + (1 : Int))) x10 x11 x12 x14 x15 x16 x17 (cat x18 ((⟨(nth x13 (Int.toNat (0 : Int)) (Ty.dflt Ty.int)), (nth x13 (Int.toNat (1 : Int)) (Ty.dflt Ty.int)), (nth x13 (Int.toNat (2 : Int)) (Ty.dflt Ty.int))⟩ : Vm.Target) :: [])) x19))))))))))) := by subst_vars; kernel_rfl

theorem in_ref_ReadRelease (ps : List (List UInt8)) (hps : ps.length ≤ 10001) (kk : Nat) (hkk : kk < ps.length) (x y : Int) (acc : List Vm.Target) (hal : acc.length ≤ 10001) (ws : List (List UInt8)) (hws : Go.Lib.split (nth ps kk (Ty.dflt Ty.str)) [32] = ws) (hl : ws.length ≤ 10001) (hp : ∀ p ∈ ws, p.length ≤ 4000) (K : KK) (M : Nat) (b3 : Bool)
    (hbad : tgtW (nth ps kk (Ty.dflt Ty.str)) = none → K (.tup [.agg [dI 0, dI 0, .dat (.list .target) []], .one (dI 1)]) [])
    (hgood : ∀ t, tgtW (nth ps kk (Ty.dflt Ty.str)) = some t → goD Γ_ref_ReadRelease tab fn_ref_ReadRelease 0 K M ref_ReadRelease_L0 (ref_ReadRelease_S0 ((kk + 1 : Nat) : Int) (((len ps) : Nat) : Int) ps 0 x y 0 0 (cat acc [t]) [])) :
    ∀ (d k : Nat) (ns : List Int), k + d = ws.length → numsW (ws.take k) = some ns →
    goD Γ_ref_ReadRelease tab fn_ref_ReadRelease 0 K (M + d + 1) ref_ReadRelease_L1 (ref_ReadRelease_S1 (k : Int) (((len ws) : Nat) : Int) ws (nth ps kk (Ty.dflt Ty.str)) (nth ps kk (Ty.dflt Ty.str)) (nth ps kk (Ty.dflt Ty.str)) ps kk b3 (kk : Int) (((len ps) : Nat) : Int) ps 0 ns x y 0 0 acc [])
  | 0, k, ns, hk, ha => by
    have ht : tgtW (nth ps kk (Ty.dflt Ty.str)) = tgtL (numsW (Go.Lib.split (nth ps kk (Ty.dflt Ty.str)) [32])) := rfl
    rw [List.take_of_length_le (by omega)] at ha
    rw [hws, ha] at ht
    rw [goD_in (L := ref_ReadRelease_L1), ref_ReadRelease_vc1 _ _ _ _ _ _ _ _ _ _ _ _ _ _ _ _ _ _ _ _ _ _ _ rfl _ rfl _ rfl]
    refine lt_f (by simp only [len]; omega) (ne_s (fun h => ?_) (fun h => ?_))
    · refine hbad (ht.trans (tgtL_len fun e => h ?_))
      show ((ns.length : Nat) : Int) = 3
      rw [e]; rfl
    · have h : ((ns.length : Nat) : Int) = 3 := h
      obtain ⟨a, b, c, rfl⟩ := three (l := ns) (by omega)
      have g := hgood ⟨a, b, c⟩ ht
      refine ⟨⟨by decide, by simp only [len, List.length_cons, List.length_nil]; omega⟩, by simp only [len, List.length_cons, List.length_nil]; decide, ⟨by decide, by simp only [len, List.length_cons, List.length_nil]; omega⟩, by simp only [len, List.length_cons, List.length_nil]; decide, ⟨by decide, by simp only [len, List.length_cons, List.length_nil]; omega⟩, by simp only [len, List.length_cons, List.length_nil]; decide, by simp only [len, List.length_cons, List.length_nil]; omega, ?_⟩
      rw [w64_succ (by omega), nth3_0, nth3_1, nth3_2]
      exact g
  | d + 1, k, ns, hk, ha => by
    rw [goD_in (L := ref_ReadRelease_L1), ref_ReadRelease_vc1 _ _ _ _ _ _ _ _ _ _ _ _ _ _ _ _ _ _ _ _ _ _ _ rfl _ rfl _ rfl, toNat_nat]
    have hm : nth ws k (Ty.dflt Ty.str) ∈ ws := nth_mem (by omega) _
    have hlen := hp _ hm
    have hal2 := numsW_len ha
    rw [List.length_take] at hal2
    have hs := take_step (l := ws) (k := k) (by omega) (Ty.dflt Ty.str)
    have ht : tgtW (nth ps kk (Ty.dflt Ty.str)) = tgtL (numsW (Go.Lib.split (nth ps kk (Ty.dflt Ty.str)) [32])) := rfl
    rw [hws] at ht
    refine lt_t (by simp only [len]; omega) ⟨⟨by omega, by simp only [len]; omega⟩, hlen, nt_s (fun h => ?_) (fun h => ?_)⟩
    · rw [numsW_bad hm (numE_none h)] at ht
      exact hbad ht
    · refine ⟨by simp only [len, List.length_cons, List.length_nil]; omega, ?_⟩
      rw [w64_succ (by omega), show M + (d + 1) = M + d + 1 from rfl]
      exact in_ref_ReadRelease ps hps kk hkk x y acc hal ws hws hl hp K M b3 hbad hgood d (k + 1) _ (by omega) (by rw [hs]; exact numsW_snoc ha (numE_val h))
theorem loop_ref_ReadRelease (l : List (List UInt8)) (hl : l.length ≤ 10001) (hp : ∀ p ∈ l, p.length ≤ 3999) (x y : Int) (K : KK) (hK : K (.tup [.agg [dI (endR (pairO (some (x, y)) (tgtsW l))).1.version, dI (endR (pairO (some (x, y)) (tgtsW l))).1.til, .dat (.list .target) (endR (pairO (some (x, y)) (tgtsW l))).1.targets], .one (dI (endR (pairO (some (x, y)) (tgtsW l))).2)]) []) : ∀ (d k : Nat) (acc : List Vm.Target), k + d = l.length → tgtsW (l.take k) = some acc → acc.length = k →
    ∃ m, goD Γ_ref_ReadRelease tab fn_ref_ReadRelease 0 K m ref_ReadRelease_L0 (ref_ReadRelease_S0 (k : Int) (((len l) : Nat) : Int) l 0 x y 0 0 acc [])
  | 0, k, acc, hk, ha, hal => by
    refine ⟨1, ?_⟩
    rw [goD_in (L := ref_ReadRelease_L0), ref_ReadRelease_vc0 _ _ _ _ _ _ _ _ _ _ _ _ _ rfl]
    rw [List.take_of_length_le (by omega)] at ha
    rw [ha] at hK
    have hK : K (.tup [.agg [dI (endR (some (x, y, acc))).1.version, dI (endR (some (x, y, acc))).1.til, .dat (.list .target) (endR (some (x, y, acc))).1.targets], .one (dI (endR (some (x, y, acc))).2)]) [] := hK
    unfold endR at hK
    refine lt_f (by simp only [len]; omega) (ne_s (fun h => ?_) (fun h => ?_))
    · simp only [if_neg h] at hK; exact hK
    · simp only [if_pos h] at hK; exact hK
  | d + 1, k, acc, hk, ha, hal => by
    have hm : nth l k (Ty.dflt Ty.str) ∈ l := nth_mem (by omega) _
    have hlen := hp _ hm
    have hs := take_step (l := l) (k := k) (by omega) (Ty.dflt Ty.str)
    have hbad : tgtW (nth l k (Ty.dflt Ty.str)) = none → K (.tup [.agg [dI 0, dI 0, .dat (.list .target) []], .one (dI 1)]) [] := fun h => by
      rw [tgtsW_bad hm h, pairO_none] at hK; exact hK
    have hc := split_count (s := nth l k (Ty.dflt Ty.str)) (sep := [32]) (Nat.le_refl 1)
    have hcl : ∀ p ∈ Go.Lib.split (nth l k (Ty.dflt Ty.str)) [32], p.length ≤ 4000 := fun p h => by
      have := split_len h
      omega
    have fuel : ∃ M, ∀ t, tgtW (nth l k (Ty.dflt Ty.str)) = some t → goD Γ_ref_ReadRelease tab fn_ref_ReadRelease 0 K M ref_ReadRelease_L0 (ref_ReadRelease_S0 ((k + 1 : Nat) : Int) (((len l) : Nat) : Int) l 0 x y 0 0 (cat acc [t]) []) := by
      cases ht : tgtW (nth l k (Ty.dflt Ty.str)) with
      | none => exact ⟨0, fun t e => by cases e⟩
      | some t =>
        obtain ⟨M, hM⟩ := loop_ref_ReadRelease l hl hp x y K hK d (k + 1) (cat acc [t]) (by omega) (by rw [hs]; exact tgtsW_snoc ha ht) (by simp [cat, hal])
        exact ⟨M, fun t' e => by cases e; exact hM⟩
    obtain ⟨M, hM⟩ := fuel
    refine ⟨M + (Go.Lib.split (nth l k (Ty.dflt Ty.str)) [32]).length + 1 + 1, ?_⟩
    rw [goD_in (L := ref_ReadRelease_L0), ref_ReadRelease_vc0 _ _ _ _ _ _ _ _ _ _ _ _ _ rfl, toNat_nat]
    refine lt_t (by simp only [len]; omega) ⟨⟨by omega, by simp only [len]; omega⟩, ⟨by omega, by decide⟩, ?_⟩
    exact in_ref_ReadRelease l hl k (by omega) x y acc (by omega) _ rfl (by omega) hcl K M _ hbad hM _ 0 [] (by omega) rfl
theorem run_ref_ReadRelease (s : List UInt8) (hp : s.length ≤ 2000) (K : KK) (hK : K (.tup [.agg [dI (endR (readP s)).1.version, dI (endR (readP s)).1.til, .dat (.list .target) (endR (readP s)).1.targets], .one (dI (endR (readP s)).2)]) []) : ∃ m, goD Γ_ref_ReadRelease tab fn_ref_ReadRelease 0 K m [.code (bodyOf fn_ref_ReadRelease)] (initSt [.one (.dat .str s)] []) := by
  have hp : s.length ≤ 2000 := hp
  have htr : (Go.Lib.trimPrefix s (releaseB ++ [32])).length ≤ 2000 := by
    unfold Go.Lib.trimPrefix
    split
    · rw [List.length_drop]; omega
    · exact hp
  have rb : ((114 : UInt8) :: ((101 : UInt8) :: ((108 : UInt8) :: ((101 : UInt8) :: ((97 : UInt8) :: ((115 : UInt8) :: ((101 : UInt8) :: ((32 : UInt8) :: [])))))))) = releaseB ++ [32] := rfl
  have ub : ((32 : UInt8) :: ((117 : UInt8) :: ((110 : UInt8) :: ((116 : UInt8) :: ((105 : UInt8) :: ((108 : UInt8) :: ((32 : UInt8) :: []))))))) = [32] ++ untilB ++ [32] := rfl
  by_cases hpre : Go.Lib.hasPrefix s (releaseB ++ [32]) = true
  case neg =>
    have e : readP s = none := if_neg hpre
    rw [e] at hK
    refine ⟨1, ?_⟩
    rw [goD_code, ref_ReadRelease_vc _ _ _ _ rfl _ rfl _ rfl _ rfl _ rfl]
    rw [rb]
    exact nt_t (by simpa using hpre) hK
  have e : readP s = pairO (cutN ((Go.Lib.split (Go.Lib.trimPrefix s (releaseB ++ [32])) [59, 32]).headD [])) (tgtsW (Go.Lib.split (Go.Lib.trimPrefix s (releaseB ++ [32])) [59, 32]).tail) := if_pos hpre
  rw [e, headD_nth, ← slc_tail] at hK
  have hc := split_count (s := Go.Lib.trimPrefix s (releaseB ++ [32])) (sep := [59, 32]) (by decide)
  have hsl : ∀ p ∈ Go.Lib.split (Go.Lib.trimPrefix s (releaseB ++ [32])) [59, 32], p.length ≤ 2000 := fun p h => Nat.le_trans (split_len h) htr
  have hp0 : (nth (Go.Lib.split (Go.Lib.trimPrefix s (releaseB ++ [32])) [59, 32]) 0 (Ty.dflt Ty.str)).length ≤ 2000 := hsl _ (nth_mem (by omega) _)
  have hcut : ∀ p : List UInt8, (Go.Lib.cut p ([32] ++ untilB ++ [32])).1.length ≤ p.length ∧ (Go.Lib.cut p ([32] ++ untilB ++ [32])).2.1.length ≤ p.length := fun p => by
    unfold Go.Lib.cut
    split
    · exact ⟨by simp only [List.length_take]; omega, by simp only [List.length_drop]; omega⟩
    · exact ⟨Nat.le_refl _, Nat.zero_le _⟩
  generalize hps : Go.Lib.split (Go.Lib.trimPrefix s (releaseB ++ [32])) [59, 32] = ps at *
  generalize hpp : nth ps 0 (Ty.dflt Ty.str) = p at *
  obtain ⟨k1, k2⟩ := hcut p
  have htl : ∀ w ∈ slc ps 1 ps.length, w.length ≤ 3999 := fun w hw => by
    rw [slc_tail] at hw
    have := hsl w (List.mem_of_mem_tail hw)
    omega
  have hll : (slc ps 1 ps.length).length ≤ 10001 := by rw [slc_tail, List.length_tail]; omega
  have step : ∀ m, (∀ x y, cutN p = some (x, y) → x = intV (Go.Lib.cut p ([32] ++ untilB ++ [32])).1 → y = intV (Go.Lib.cut p ([32] ++ untilB ++ [32])).2.1 → goD Γ_ref_ReadRelease tab fn_ref_ReadRelease 0 K m ref_ReadRelease_L0 (ref_ReadRelease_S0 ((0 : Nat) : Int) (((len (slc ps 1 ps.length)) : Nat) : Int) (slc ps 1 ps.length) 0 x y 0 0 [] [])) → goD Γ_ref_ReadRelease tab fn_ref_ReadRelease 0 K (m + 1) [.code (bodyOf fn_ref_ReadRelease)] (initSt [.one (.dat Ty.str s)] []) := fun m hm => by
    rw [goD_code, ref_ReadRelease_vc _ _ _ _ rfl _ rfl _ rfl _ rfl _ rfl]
    rw [rb, ub, hpre, hps]
    simp only [len_eq, show Int.toNat 0 = 0 from rfl, show Int.toNat 1 = 1 from rfl, toNat_nat, hpp]
    have hbad : cutN p = none → K (.tup [.agg [dI 0, dI 0, .dat (.list .target) []], .one (dI 1)]) [] := fun h => by
      rw [h, pairO_bad] at hK; exact hK
    refine nt_f rfl ⟨⟨by omega, by decide⟩, ⟨by decide, by omega⟩, by omega, by omega, by omega, ?_⟩
    have ec : cutN p = (match Go.Lib.cut p ([32] ++ untilB ++ [32]) with
      | (v, u, true) => (match numW v, numW u with | some x, some y => some (x, y) | _, _ => none)
      | _ => none) := rfl
    rcases hcc : Go.Lib.cut p ([32] ++ untilB ++ [32]) with ⟨v, u, ok⟩
    rw [hcc] at ec hm
    cases ok with
    | false => exact nt_t rfl (hbad ec)
    | true =>
      refine nt_f rfl (nt_s (fun h => ?_) (fun h => nt_s (fun h2 => ?_) (fun h2 => ?_)))
      · refine hbad (ec.trans ?_)
        simp only [numE_none h]
      · refine hbad (ec.trans ?_)
        simp only [numE_none h2]
        split <;> simp_all
      · refine ⟨⟨by decide, by omega, by omega⟩, ?_⟩
        exact hm _ _ (ec.trans (by simp only [numE_val h, numE_val h2])) rfl rfl
  cases hcn : cutN p with
  | none => exact ⟨1, step 0 fun x y h => by rw [hcn] at h; cases h⟩
  | some xy =>
    obtain ⟨x, y⟩ := xy
    rw [hcn] at hK
    obtain ⟨m, hm⟩ := loop_ref_ReadRelease (slc ps 1 ps.length) hll htl x y K hK (slc ps 1 ps.length).length 0 [] (by omega) rfl rfl
    exact ⟨m + 1, step m fun x' y' h _ _ => by rw [hcn] at h; cases h; exact hm⟩
theorem sound_ref_ReadRelease : SoundC Tryd.prog tab n_ref_ReadRelease c_ref_ReadRelease := soundC_of ok_ref_ReadRelease hf_ref_ReadRelease hB_ref_ReadRelease (by
  intro vs bs p v bs' h hp
  unfold c_ref_ReadRelease at h
  split at h
  · cases h
    exact ⟨by kernel_rfl, rfl, .inl (run_ref_ReadRelease _ hp.1 _ ⟨rfl, rfl⟩)⟩
  · cases h)

def c_law_MetaSays : Contract := fun vs bs => match vs, bs with
  | [.agg [.dat .int _, .dat (.list .int) _, .dat .int _], .agg [.dat .int _, .dat .int _, .dat (.list .target) _], .one (.dat (.list .int) _), .one (.dat .str _)], [] => some (none, .one (dB true), [])
  | _, _ => none
def Γ_law_MetaSays : Ctx := [(n_meta_RootText, c_meta_RootText), (n_meta_ReleaseText, c_meta_ReleaseText), (n_meta_ImageText, c_meta_ImageText), (n_meta_ParseRelease, c_meta_ParseRelease), (n_ref_CheckRoot, c_ref_CheckRoot), (n_ref_CheckRelease, c_ref_CheckRelease), (n_ref_CheckImage, c_ref_CheckImage), (n_law_written, c_law_written), (n_meta_CheckRoot, c_meta_CheckRoot), (n_meta_CheckRelease, c_meta_CheckRelease), (n_meta_CheckImage, c_meta_CheckImage), (n_ref_RootText, c_ref_RootText), (n_ref_ReleaseText, c_ref_ReleaseText), (n_ref_ImageText, c_ref_ImageText), (n_ref_SameRelease, c_ref_SameRelease), (n_ref_ReadRelease, c_ref_ReadRelease)]
theorem ok_law_MetaSays : Ok Tryd.prog tab Γ_law_MetaSays := ((((((((((((((((ok_nil.consC hf_ref_ReadRelease hB_ref_ReadRelease sound_ref_ReadRelease).consC hf_ref_SameRelease hB_ref_SameRelease sound_ref_SameRelease).consC hf_ref_ImageText hB_ref_ImageText sound_ref_ImageText).consC hf_ref_ReleaseText hB_ref_ReleaseText sound_ref_ReleaseText).consC hf_ref_RootText hB_ref_RootText sound_ref_RootText).consC hf_meta_CheckImage hB_meta_CheckImage sound_meta_CheckImage).consC hf_meta_CheckRelease hB_meta_CheckRelease sound_meta_CheckRelease).consC hf_meta_CheckRoot hB_meta_CheckRoot sound_meta_CheckRoot).consC hf_law_written hB_law_written sound_law_written).consC hf_ref_CheckImage hB_ref_CheckImage sound_ref_CheckImage).consC hf_ref_CheckRelease hB_ref_CheckRelease sound_ref_CheckRelease).consC hf_ref_CheckRoot hB_ref_CheckRoot sound_ref_CheckRoot).consC hf_meta_ParseRelease hB_meta_ParseRelease sound_meta_ParseRelease).consC hf_meta_ImageText hB_meta_ImageText sound_meta_ImageText).consC hf_meta_ReleaseText hB_meta_ReleaseText sound_meta_ReleaseText).consC hf_meta_RootText hB_meta_RootText sound_meta_RootText)
theorem law_MetaSays_vc (v : Int) (ks : List Int) (t : Int) (xv : Int) (xu : Int) (xt : List Vm.Target) (w : List Int) (s : List UInt8) (rec : RK) (K : KK) v0 (hv0 : v0 = (checkRoot v ks t)) v1 (hv1 : v1 = (checkRelease xv xu xt)) v2 (hv2 : v2 = (checkImage w)) v3 (hv3 : v3 = (rootTextE v ks t)) v4 (hv4 : v4 = (releaseTextE xv xu xt)) v5 (hv5 : v5 = (imageTextE w)) v6 (hv6 : v6 = (rootText v ks t)) v7 (hv7 : v7 = (releaseText xv xu xt)) v8 (hv8 : v8 = (imageText w)) v9 (hv9 : v9 = (parseE s)) v10 (hv10 : v10 = (eqL eqT v9.fst.targets [])) v11 (hv11 : v11 = (readP s)) v12 (hv12 : v12 = (endR v11)) v13 (hv13 : v13 = (eqL eqT v9.fst.targets v12.fst.targets)) v19 (hv19 : v19 = (br (lti (2000 : Int) (((len s) : Nat) : Int))
 (br (eqi v9.snd (2 : Int))
 (((List.length v9.fst.targets) ≤ 140737488355328) ∧
 (K (.one (dB (((eqi v9.fst.version (0 : Int)) && (eqi v9.fst.til (0 : Int))) && v10))) []))
 (K vF []))
 (((List.length s) ≤ 2000) ∧
 (br (eqi v9.snd v12.snd)
 (((List.length v9.fst.targets) ≤ 140737488355328) ∧
 (K (.one (dB (((eqi v9.fst.version v12.fst.version) && (eqi v9.fst.til v12.fst.til)) && v13))) []))
 (K vF []))))) v18 (hv18 : v18 = (br (!(eqi v2 (0 : Int)))
 (br (!(eqs v5.fst []))
 (K vF [])
 v19)
 v19)) v17 (hv17 : v17 = (br (eqi v2 (0 : Int))
 ((v2 = (0 : Int)) ∧
 (br (!(eqs v5.fst v8))
 (K vF [])
 v18))
 v18)) v16 (hv16 : v16 = (br (!(eqi v1 (0 : Int)))
 (br (!(eqs v4.fst []))
 (K vF [])
 v17)
 v17)) v15 (hv15 : v15 = (br (eqi v1 (0 : Int))
 ((v1 = (0 : Int)) ∧
 (br (!(eqs v4.fst v7))
 (K vF [])
 v16))
 v16)) v14 (hv14 : v14 = (br (!(eqi v0 (0 : Int)))
 (br (!(eqs v3.fst []))
 (K vF [])
 v15)
 v15)) : segD Γ_law_MetaSays tab fn_law_MetaSays 0 K rec [.code (bodyOf fn_law_MetaSays)] (initSt [.agg [dI v, dL ks, dI t], .agg [dI xv, dI xu, .dat (Ty.list Ty.target) xt], .one (dL w), .one (.dat Ty.str s)] []) = (
 br (!(eqi v0 v0))
 (K vF [])
 (br (!(eqi v1 v1))
 (K vF [])
 (br (!(eqi v2 v2))
 (K vF [])
 (br (!(eqi v3.snd v0))
 (K vF [])
 (br (!(eqi v4.snd v1))
 (K vF [])
 (br (!(eqi v5.snd v2))
 (K vF [])
 (br (eqi v0 (0 : Int))
 ((v0 = (0 : Int)) ∧
 (br (!(eqs v3.fst v6))
 (K vF [])
 v14))
 v14))))))) := by subst_vars; kernel_rfl

theorem says_chain {n : Int} {a b : List UInt8} {F X : Prop} (h1 : n = 0 → a = b) (h2 : n ≠ 0 → a = []) (hX : X) :
    br (eqi n 0) (n = 0 ∧ br (!(eqs a b)) F (br (!(eqi n 0)) (br (!(eqs a [])) F X) X)) (br (!(eqi n 0)) (br (!(eqs a [])) F X) X) := by
  refine eq_s (fun h => ⟨h, nt_f (eqs_true.2 (h1 h)) (ne_f h hX)⟩) (fun h => ne_t h (nt_f (eqs_true.2 (h2 h)) hX))
theorem says_ends (v : Int) (ks : List Int) (t : Int) : (rootTextE v ks t).2 = checkRoot v ks t ∧ (checkRoot v ks t = 0 → (rootTextE v ks t).1 = rootText v ks t) ∧ (checkRoot v ks t ≠ 0 → (rootTextE v ks t).1 = []) := by
  unfold rootTextE
  by_cases c : checkRoot v ks t = 0
  · rw [if_pos c]; exact ⟨c.symm, fun _ => rfl, fun h => absurd c h⟩
  · rw [if_neg c]; exact ⟨rfl, fun h => absurd h c, fun _ => rfl⟩
theorem says_endx (v u : Int) (ts : List Vm.Target) : (releaseTextE v u ts).2 = checkRelease v u ts ∧ (checkRelease v u ts = 0 → (releaseTextE v u ts).1 = releaseText v u ts) ∧ (checkRelease v u ts ≠ 0 → (releaseTextE v u ts).1 = []) := by
  unfold releaseTextE
  by_cases c : checkRelease v u ts = 0
  · rw [if_pos c]; exact ⟨c.symm, fun _ => rfl, fun h => absurd c h⟩
  · rw [if_neg c]; exact ⟨rfl, fun h => absurd h c, fun _ => rfl⟩
theorem says_endi (w : List Int) : (imageTextE w).2 = checkImage w ∧ (checkImage w = 0 → (imageTextE w).1 = imageText w) ∧ (checkImage w ≠ 0 → (imageTextE w).1 = []) := by
  unfold imageTextE
  by_cases c : checkImage w = 0
  · rw [if_pos c]; exact ⟨c.symm, fun _ => rfl, fun h => absurd c h⟩
  · rw [if_neg c]; exact ⟨rfl, fun h => absurd h c, fun _ => rfl⟩
theorem run_law_MetaSays (v : Int) (ks : List Int) (t : Int) (xv xu : Int) (xt : List Vm.Target) (w : List Int) (s : List UInt8) (K : KK) (hK : K (.one (dB true)) []) : ∃ m, goD Γ_law_MetaSays tab fn_law_MetaSays 0 K m [.code (bodyOf fn_law_MetaSays)] (initSt [.agg [dI v, dL ks, dI t], .agg [dI xv, dI xu, .dat (.list .target) xt], .one (dL w), .one (.dat .str s)] []) := by
  obtain ⟨a1, a2, a3⟩ := says_ends v ks t
  obtain ⟨b1, b2, b3⟩ := says_endx xv xu xt
  obtain ⟨c1, c2, c3⟩ := says_endi w
  refine ⟨1, ?_⟩
  rw [goD_code, law_MetaSays_vc _ _ _ _ _ _ _ _ _ _ _ rfl _ rfl _ rfl _ rfl _ rfl _ rfl _ rfl _ rfl _ rfl _ rfl _ rfl _ rfl _ rfl _ rfl _ rfl _ rfl _ rfl _ rfl _ rfl _ rfl]
  refine ne_f rfl (ne_f rfl (ne_f rfl (ne_f a1 (ne_f b1 (ne_f c1 (says_chain a2 a3 (says_chain b2 b3 (says_chain c2 c3 (lt_s (fun h => ?_) (fun h => ?_))))))))))
  · have h : (2000 : Int) < (s.length : Nat) := h
    have e : parseE s = (noRel, 2) := if_pos (by omega)
    rw [e]
    exact eq_t rfl ⟨Nat.zero_le _, hK⟩
  · have h : ((s.length : Nat) : Int) ≤ 2000 := h
    have e : parseE s = endR (readP s) := parseE_read (by omega)
    rw [e]
    have hl := endR_len (readP s)
    have hs : (((eqi (endR (readP s)).fst.version (endR (readP s)).fst.version) && (eqi (endR (readP s)).fst.til (endR (readP s)).fst.til)) && (eqL eqT (endR (readP s)).fst.targets (endR (readP s)).fst.targets)) = true := sameR_iff.2 ⟨rfl, rfl, rfl⟩
    exact ⟨by omega, eq_t rfl ⟨by omega, by rw [hs]; exact hK⟩⟩
theorem sound_law_MetaSays : SoundC Tryd.prog tab n_law_MetaSays c_law_MetaSays := soundC_of ok_law_MetaSays hf_law_MetaSays hB_law_MetaSays (by
  intro vs bs p v bs' h hp
  unfold c_law_MetaSays at h
  split at h
  · cases h
    exact ⟨by kernel_rfl, rfl, .inl (run_law_MetaSays _ _ _ _ _ _ _ _ _ ⟨rfl, rfl⟩)⟩
  · cases h)
end Go.Proofs.YtlbppjmekiemiacDoor
