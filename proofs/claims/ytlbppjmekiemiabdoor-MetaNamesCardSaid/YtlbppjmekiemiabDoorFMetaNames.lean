/- What the functions of MetaNames compute (part 1 of 1). No condition. -/
import Derived.Test.YtlbppjmekiemiabDoorTab
import Derived.Test.YtlbppjmekiemiabDoorSpec
import Derived.KernelRfl
import Derived.Test.YtlbppjmekiemiabDoorShelf
/- strconv.Itoa: the shelf's contract as one of ours. The number is no less than 0. -/
namespace Go.Proofs.YtlbppjmekiemiabDoor
open Go.RowKit Go.Lib Go.Sort Vm
def c_strconv_Itoa : Contract := fun vs bs => match vs, bs with
  | [.one (.dat .int n)], [] => some (some (0 ≤ n ∧ n ≤ 9223372036854775807), .one (.dat .str (numT n)), [])
  | _, _ => none
theorem sound_strconv_Itoa : SoundC Tryd.prog tab n_strconv_Itoa c_strconv_Itoa := by
  intro vs bs p v bs' h hp w S μ xs I hx
  unfold c_strconv_Itoa at h
  split at h
  · cases h
    rename_i n
    obtain ⟨⟨h1, h2⟩, _⟩ := hp
    have h1 : (0 : Int) ≤ n := h1
    have h2 : (n : Int) ≤ 9223372036854775807 := h2
    match xs, hx with
    | [X], ⟨g1, _⟩ =>
      have e1 := rel_int g1
      subst e1
      obtain ⟨g, hg⟩ : ∃ g, tab.pow = some g := ⟨_, rfl⟩
      obtain ⟨_, ty, m, hb⟩ := I.pow g hg
      have htab : Go.Lib.TabIs Tryd.prog w "internal/strconv.uint64pow10" .u64 Go.Lib.pow10Tab := by
        have hgn : Tryd.prog.globalNamed "internal/strconv.uint64pow10" = tab.pow := by kernel_rfl
        unfold Go.Lib.TabIs World.var?
        rw [hgn, hg]
        simp only [Option.bind_some, hb]
        rfl
      refine (Tryd.strconv_Itoa n (by omega) h2 w htab).mono fun e w' ⟨he, k, os, hw⟩ => ?_
      subst hw he
      have hsz : (grow (w.drewN k) os).heap = w.heap ++ os := rfl
      have E : Ext μ (memL []) w S μ (memL []) (grow (w.drewN k) os) S := ⟨fun _ h => h, (Ext.refl (μ := μ) (mem := memL []) (w := w) (S := S)).kinds, fun _ h => h, by rw [hsz]; simp, fun b hb _ => by rw [hsz, Array.getElem?_append_left hb], fun _ h => .inl h, fun _ h => .inl h, rfl, rfl, rfl⟩
      refine ⟨_, μ, S, rfl, E, ⟨fun r B h => by simp [memL] at h, fun r r' _ ⟨B, h, _⟩ => by simp [memL] at h, fun r ⟨B, h, _⟩ => by simp [memL] at h, fun b hb => Nat.lt_of_lt_of_le (I.lt b hb) E.size, I.powExt E⟩, ?_⟩
      rw [itoa_eq h1 h2]
      exact mk_str _
  · cases h
end Go.Proofs.YtlbppjmekiemiabDoor

/- strings.Join: the shelf's contract as one of ours. What comes of it is no longer than memory holds. -/
namespace Go.Proofs.YtlbppjmekiemiabDoor
open Go.RowKit Go.Lib Vm
theorem below_EI {μ : Mu} {w w' : World} {S : Nat → Prop} (I : Inv tab μ (memL []) w S) (hb : Below w.heap.size w w') : Ext μ (memL []) w S μ (memL []) w' S ∧ Inv tab μ (memL []) w' S := by
  have E : Ext μ (memL []) w S μ (memL []) w' S := ⟨fun _ h => h, (Ext.refl (μ := μ) (mem := memL []) (w := w) (S := S)).kinds, fun _ h => h, hb.size, fun b hlt _ => hb.block b hlt, fun _ h => .inl h, fun _ h => .inl h, hb.os, hb.tape, hb.output⟩
  exact ⟨E, ⟨fun r B h => by simp [memL] at h, fun r r' _ ⟨B, h, _⟩ => by simp [memL] at h, fun r ⟨B, h, _⟩ => by simp [memL] at h, fun b hb => Nat.lt_of_lt_of_le (I.lt b hb) E.size, I.powExt E⟩⟩
def c_strings_Join : Contract := fun vs bs => match vs, bs with
  | [.one (.dat (.list .str) l), .one (.dat .str sep)], [] => some (some (l.length ≤ 140737488355328 ∧ (joinT sep l).length ≤ 140737488355328), .one (.dat .str (joinT sep l)), [])
  | _, _ => none
theorem sound_strings_Join : SoundC Tryd.prog tab n_strings_Join c_strings_Join := by
  intro vs bs p v bs' h hp w S μ xs I hx
  unfold c_strings_Join at h
  split at h
  · cases h
    rename_i l sep
    obtain ⟨⟨h1, h2⟩, _⟩ := hp
    match xs, hx with
    | [X, Y], ⟨g1, g2, _⟩ =>
      have e2 := rel_str g2
      subst e2
      obtain ⟨_, hr⟩ := g1
      cases hr with
      | empty t a cap =>
        refine (Tryd.strings_Join_none a cap ⟨sep.toArray⟩ w).mono fun e w' ⟨he, hw⟩ => ?_
        subst hw he
        exact ⟨_, μ, S, rfl, Ext.refl, I, mk_str []⟩
      | list t l b off cap cs hS hcap hc hr =>
        have hm : (l.map fun s : List UInt8 => (⟨s.toArray⟩ : ByteArray)).map (·.data.toList) = l := by simp [List.map_map, Function.comp_def]
        have hj : (Go.Lib.join ((l.map fun s : List UInt8 => (⟨s.toArray⟩ : ByteArray)).map (·.data.toList)) (⟨sep.toArray⟩ : ByteArray).data.toList) = joinT sep l := by rw [hm]; exact join_eq sep l
        have key := Tryd.strings_Join b off cap (l.map fun s : List UInt8 => (⟨s.toArray⟩ : ByteArray)) ⟨sep.toArray⟩ w (fun j x hx => by
          rw [List.getElem?_map] at hx
          obtain ⟨s, hs, rfl⟩ := Option.map_eq_some_iff.1 hx
          have hjl : j < l.length := (List.getElem?_eq_some_iff.1 hs).1
          have c1 := hc j 0 hjl (by decide)
          have e : nth l j (Ty.dflt .str) = s := by simp [nth, List.getD_eq_getElem?_getD, hs]
          have c2 := hr j 0 (.dat .str s) hjl (by rw [e]; rfl)
          have c3 : cs j 0 = .string ⟨s.toArray⟩ := by
            generalize cs j 0 = y at c2
            cases c2; rfl
          rw [c3] at c1
          simpa [at0, Ty.width] using c1) (I.lt b hS) (by simpa using h1) (by simpa using hcap) (by rw [hj]; exact h2)
        rw [List.length_map, hj] at key
        refine key.mono fun e w' ⟨he, hb⟩ => ?_
        subst he
        obtain ⟨E, I'⟩ := below_EI I hb
        exact ⟨_, μ, S, rfl, E, I', mk_str _⟩
  · cases h
end Go.Proofs.YtlbppjmekiemiabDoor
namespace Go.Proofs.YtlbppjmekiemiabDoor
open Vm
def c_slices_Index_Lstring : Contract := fun vs bs => match vs, bs with
  | [.one (.dat (.list .str) l), .one (.dat .str s)], [] => some (some (l.length ≤ 140737488355328), .one (.dat .int (indexS s l)), [])
  | _, _ => none
def Γ_slices_Index_Lstring : Ctx := []
theorem ok_slices_Index_Lstring : Ok Tryd.prog tab Γ_slices_Index_Lstring := ok_nil
noncomputable def slices_Index_Lstring_L0 : List It := [.inLoop [8, 7, 4, 0, 1] (Code.sub (bodyOf fn_slices_Index_Lstring) [1, 0, 1, 0, 0]), .inBlock 0, .code (Code.sub (bodyOf fn_slices_Index_Lstring) [1, 1])]
def slices_Index_Lstring_S0 (x0 : Int) (x1 : Int) (x2 : Int) (x3 : (List (List UInt8))) (x4 : (List UInt8)) : St := ⟨[(8, .one (.dat Ty.int x0)), (7, .one (.dat Ty.int x1)), (4, .one (.dat Ty.int x2)), (0, .one (.dat (Ty.list Ty.str) x3)), (1, .one (.dat Ty.str x4))], [], 0⟩
theorem slices_Index_Lstring_vc (l : List (List UInt8)) (s : List UInt8) (rec : List It → St → Prop) (K : V → List Blk → Prop) : segD Γ_slices_Index_Lstring tab fn_slices_Index_Lstring 0 K rec [.code (bodyOf fn_slices_Index_Lstring)] (initSt [.one (.dat (Ty.list Ty.str) l), .one (.dat Ty.str s)] []) = (
    rec slices_Index_Lstring_L0 (slices_Index_Lstring_S0 (0 : Int) (((len l) : Nat) : Int) (0 : Int) l s)) := by kernel_rfl
theorem slices_Index_Lstring_w (l : List (List UInt8)) (s : List UInt8) (m : Nat) (K : V → List Blk → Prop) : goD Γ_slices_Index_Lstring tab fn_slices_Index_Lstring 0 K (m + 1) [.code (bodyOf fn_slices_Index_Lstring)] (initSt [.one (.dat (Ty.list Ty.str) l), .one (.dat Ty.str s)] []) = segD Γ_slices_Index_Lstring tab fn_slices_Index_Lstring 0 K (goD Γ_slices_Index_Lstring tab fn_slices_Index_Lstring 0 K m) [.code (bodyOf fn_slices_Index_Lstring)] (initSt [.one (.dat (Ty.list Ty.str) l), .one (.dat Ty.str s)] []) := rfl
theorem slices_Index_Lstring_vc0 (x0 : Int) (x1 : Int) (x2 : Int) (x3 : (List (List UInt8))) (x4 : (List UInt8)) (rec : List It → St → Prop) (K : V → List Blk → Prop) : segD Γ_slices_Index_Lstring tab fn_slices_Index_Lstring 0 K rec (.code (Code.sub (bodyOf fn_slices_Index_Lstring) [1, 0, 1, 0, 0]) :: slices_Index_Lstring_L0) (slices_Index_Lstring_S0 x0 x1 x2 x3 x4) = (
    br (lti x0 x1)
     ((((0 : Int) ≤ x0) ∧ (x0 < (((len x3) : Nat) : Int))) ∧
      (br (eqs x4 (nth x3 (Int.toNat x0) (Ty.dflt Ty.str)))
       (K (.one (.dat Ty.int x0)) [])
       (rec slices_Index_Lstring_L0 (slices_Index_Lstring_S0 (w64 (x0 + (1 : Int))) x1 x2 x3 x4))))
     (K (.one (.dat Ty.int (-(1 : Int)))) [])) := by kernel_rfl
theorem slices_Index_Lstring_w0 (x0 : Int) (x1 : Int) (x2 : Int) (x3 : (List (List UInt8))) (x4 : (List UInt8)) (m : Nat) (K : V → List Blk → Prop) : goD Γ_slices_Index_Lstring tab fn_slices_Index_Lstring 0 K (m + 1) slices_Index_Lstring_L0 (slices_Index_Lstring_S0 x0 x1 x2 x3 x4) = segD Γ_slices_Index_Lstring tab fn_slices_Index_Lstring 0 K (goD Γ_slices_Index_Lstring tab fn_slices_Index_Lstring 0 K m) (.code (Code.sub (bodyOf fn_slices_Index_Lstring) [1, 0, 1, 0, 0]) :: slices_Index_Lstring_L0) (slices_Index_Lstring_S0 x0 x1 x2 x3 x4) := rfl

theorem loop_slices_Index_Lstring (l : List (List UInt8)) (s : List UInt8) (hl : l.length ≤ 140737488355328) (K : V → List Blk → Prop) : ∀ (d k : Nat), k + d = l.length → K (.one (.dat .int (indexFrom k s (l.drop k)))) [] →
    goD Γ_slices_Index_Lstring tab fn_slices_Index_Lstring 0 K (d + 1) slices_Index_Lstring_L0 (slices_Index_Lstring_S0 (k : Int) (((len l) : Nat) : Int) 0 l s)
  | 0, k, hk, hK => by
    rw [slices_Index_Lstring_w0, slices_Index_Lstring_vc0 _ _ _ _ _ _ _]
    rw [List.drop_of_length_le (by omega)] at hK
    exact lt_f (by simp only [len]; omega) hK
  | d + 1, k, hk, hK => by
    rw [slices_Index_Lstring_w0, slices_Index_Lstring_vc0 _ _ _ _ _ _ _, toNat_nat]
    rw [drop_step (by omega) (Ty.dflt Ty.str)] at hK
    simp only [indexFrom] at hK
    refine lt_t (by simp only [len]; omega) ⟨⟨by omega, by simp only [len]; omega⟩, br_split (fun h => ?_) (fun h => ?_)⟩
    · rw [eqs_true] at h
      rw [if_pos h.symm] at hK; exact hK
    · rw [eqs_false] at h
      rw [if_neg (fun e => h e.symm)] at hK
      rw [w64_succ (by omega)]
      exact loop_slices_Index_Lstring l s hl K d (k + 1) (by omega) hK
set_option maxHeartbeats 4000000 in
theorem run_slices_Index_Lstring (l : List (List UInt8)) (s : List UInt8) (hp : l.length ≤ 140737488355328) (K : V → List Blk → Prop) (hK : K (.one (.dat .int (indexS s l))) []) : ∃ m, goD Γ_slices_Index_Lstring tab fn_slices_Index_Lstring 0 K m [.code (bodyOf fn_slices_Index_Lstring)] (initSt [.one (.dat (.list .str) l), .one (.dat .str s)] []) := by
  refine ⟨l.length + 2, ?_⟩
  rw [slices_Index_Lstring_w, slices_Index_Lstring_vc _ _ _ _]
  exact loop_slices_Index_Lstring l s hp K l.length 0 (by omega) hK
theorem sound_slices_Index_Lstring : SoundC Tryd.prog tab n_slices_Index_Lstring c_slices_Index_Lstring := soundC_of ok_slices_Index_Lstring hf_slices_Index_Lstring hB_slices_Index_Lstring (by
  intro vs bs p v bs' h hp
  unfold c_slices_Index_Lstring at h
  split at h
  · cases h
    exact ⟨by kernel_rfl, rfl, .inl (run_slices_Index_Lstring _ _ hp.1 _ ⟨rfl, rfl⟩)⟩
  · cases h)

def c_slices_Contains_Lstring : Contract := fun vs bs => match vs, bs with
  | [.one (.dat (.list .str) l), .one (.dat .str s)], [] => some (some (l.length ≤ 140737488355328), .one (.dat .bool (hasS s l)), [])
  | _, _ => none
def Γ_slices_Contains_Lstring : Ctx := [(n_slices_Index_Lstring, c_slices_Index_Lstring)]
theorem ok_slices_Contains_Lstring : Ok Tryd.prog tab Γ_slices_Contains_Lstring := (ok_nil.consC hf_slices_Index_Lstring hB_slices_Index_Lstring sound_slices_Index_Lstring)
theorem slices_Contains_Lstring_vc (l : List (List UInt8)) (s : List UInt8) (rec : List It → St → Prop) (K : V → List Blk → Prop) v0 (hv0 : v0 = (indexS s l)) : segD Γ_slices_Contains_Lstring tab fn_slices_Contains_Lstring 0 K rec [.code (bodyOf fn_slices_Contains_Lstring)] (initSt [.one (.dat (Ty.list Ty.str) l), .one (.dat Ty.str s)] []) = (
    ((List.length l) ≤ 140737488355328) ∧
    (K (.one (.dat Ty.bool (lei (0 : Int) v0))) [])) := by subst hv0; kernel_rfl
theorem slices_Contains_Lstring_w (l : List (List UInt8)) (s : List UInt8) (m : Nat) (K : V → List Blk → Prop) : goD Γ_slices_Contains_Lstring tab fn_slices_Contains_Lstring 0 K (m + 1) [.code (bodyOf fn_slices_Contains_Lstring)] (initSt [.one (.dat (Ty.list Ty.str) l), .one (.dat Ty.str s)] []) = segD Γ_slices_Contains_Lstring tab fn_slices_Contains_Lstring 0 K (goD Γ_slices_Contains_Lstring tab fn_slices_Contains_Lstring 0 K m) [.code (bodyOf fn_slices_Contains_Lstring)] (initSt [.one (.dat (Ty.list Ty.str) l), .one (.dat Ty.str s)] []) := rfl

set_option maxHeartbeats 4000000 in
theorem run_slices_Contains_Lstring (l : List (List UInt8)) (s : List UInt8) (hp : l.length ≤ 140737488355328) (K : V → List Blk → Prop) (hK : K (.one (.dat .bool (hasS s l))) []) : ∃ m, goD Γ_slices_Contains_Lstring tab fn_slices_Contains_Lstring 0 K m [.code (bodyOf fn_slices_Contains_Lstring)] (initSt [.one (.dat (.list .str) l), .one (.dat .str s)] []) := by
  refine ⟨1, ?_⟩
  rw [slices_Contains_Lstring_w, slices_Contains_Lstring_vc _ _ _ _ _ rfl]
  rw [show lei 0 (indexS s l) = hasS s l from indexS_has s l]
  exact ⟨hp, hK⟩
theorem sound_slices_Contains_Lstring : SoundC Tryd.prog tab n_slices_Contains_Lstring c_slices_Contains_Lstring := soundC_of ok_slices_Contains_Lstring hf_slices_Contains_Lstring hB_slices_Contains_Lstring (by
  intro vs bs p v bs' h hp
  unfold c_slices_Contains_Lstring at h
  split at h
  · cases h
    exact ⟨by kernel_rfl, rfl, .inl (run_slices_Contains_Lstring _ _ hp.1 _ ⟨rfl, rfl⟩)⟩
  · cases h)

def c_meta_CheckBook : Contract := fun vs bs => match vs, bs with
  | [.agg [.dat (.list .str) l]], [] => some (none, .one (.dat .int (checkBook l)), [])
  | _, _ => none
def Γ_meta_CheckBook : Ctx := [(n_slices_Contains_Lstring, c_slices_Contains_Lstring)]
theorem ok_meta_CheckBook : Ok Tryd.prog tab Γ_meta_CheckBook := (ok_nil.consC hf_slices_Contains_Lstring hB_slices_Contains_Lstring sound_slices_Contains_Lstring)
noncomputable def meta_CheckBook_L0 : List It := [.inLoop [12, 11, 10, 2, 1] (Code.sub (bodyOf fn_meta_CheckBook) [1, 1, 0, 1, 0, 0]), .inBlock 0, .code (Code.sub (bodyOf fn_meta_CheckBook) [1, 1, 1])]
def meta_CheckBook_S0 (x0 : Int) (x1 : Int) (x2 : (List (List UInt8))) (x3 : Int) (x4 : (List (List UInt8))) : St := ⟨[(12, .one (.dat Ty.int x0)), (11, .one (.dat Ty.int x1)), (10, .one (.dat (Ty.list Ty.str) x2)), (2, .one (.dat Ty.int x3)), (1, .one (.ptr 0 0))], [(0, .box [.dat (Ty.list Ty.str) x4])], 1⟩
theorem meta_CheckBook_vc (l : List (List UInt8)) (rec : List It → St → Prop) (K : V → List Blk → Prop) : segD Γ_meta_CheckBook tab fn_meta_CheckBook 0 K rec [.code (bodyOf fn_meta_CheckBook)] (initSt [.agg [.dat (Ty.list Ty.str) l]] []) = (
    br (lti (60 : Int) (((len l) : Nat) : Int))
     (K (.one (.dat Ty.int (2 : Int))) [])
     (rec meta_CheckBook_L0 (meta_CheckBook_S0 (0 : Int) (((len l) : Nat) : Int) l (0 : Int) l))) := by kernel_rfl
theorem meta_CheckBook_w (l : List (List UInt8)) (m : Nat) (K : V → List Blk → Prop) : goD Γ_meta_CheckBook tab fn_meta_CheckBook 0 K (m + 1) [.code (bodyOf fn_meta_CheckBook)] (initSt [.agg [.dat (Ty.list Ty.str) l]] []) = segD Γ_meta_CheckBook tab fn_meta_CheckBook 0 K (goD Γ_meta_CheckBook tab fn_meta_CheckBook 0 K m) [.code (bodyOf fn_meta_CheckBook)] (initSt [.agg [.dat (Ty.list Ty.str) l]] []) := rfl
theorem meta_CheckBook_vc0 (x0 : Int) (x1 : Int) (x2 : (List (List UInt8))) (x3 : Int) (x4 : (List (List UInt8))) (rec : List It → St → Prop) (K : V → List Blk → Prop) v0 (hv0 : v0 = (hasS (nth x2 (Int.toNat x0) (Ty.dflt Ty.str)) (slc x4 (Int.toNat (0 : Int)) (Int.toNat x0)))) : segD Γ_meta_CheckBook tab fn_meta_CheckBook 0 K rec (.code (Code.sub (bodyOf fn_meta_CheckBook) [1, 1, 0, 1, 0, 0]) :: meta_CheckBook_L0) (meta_CheckBook_S0 x0 x1 x2 x3 x4) = (
    br (lti x0 x1)
     ((((0 : Int) ≤ x0) ∧ (x0 < (((len x2) : Nat) : Int))) ∧
      (br (lti (2000 : Int) (((len (nth x2 (Int.toNat x0) (Ty.dflt Ty.str))) : Nat) : Int))
       (K (.one (.dat Ty.int (2 : Int))) [])
       ((((0 : Int) ≤ (0 : Int)) ∧ (((0 : Int) ≤ x0) ∧ (x0 ≤ (((len x4) : Nat) : Int)))) ∧
        (((List.length (slc x4 (Int.toNat (0 : Int)) (Int.toNat x0))) ≤ 140737488355328) ∧
        (br v0
         (K (.one (.dat Ty.int (6 : Int))) [])
         (rec meta_CheckBook_L0 (meta_CheckBook_S0 (w64 (x0 + (1 : Int))) x1 x2 x3 x4)))))))
     (K (.one (.dat Ty.int (0 : Int))) [])) := by subst hv0; kernel_rfl
theorem meta_CheckBook_w0 (x0 : Int) (x1 : Int) (x2 : (List (List UInt8))) (x3 : Int) (x4 : (List (List UInt8))) (m : Nat) (K : V → List Blk → Prop) : goD Γ_meta_CheckBook tab fn_meta_CheckBook 0 K (m + 1) meta_CheckBook_L0 (meta_CheckBook_S0 x0 x1 x2 x3 x4) = segD Γ_meta_CheckBook tab fn_meta_CheckBook 0 K (goD Γ_meta_CheckBook tab fn_meta_CheckBook 0 K m) (.code (Code.sub (bodyOf fn_meta_CheckBook) [1, 1, 0, 1, 0, 0]) :: meta_CheckBook_L0) (meta_CheckBook_S0 x0 x1 x2 x3 x4) := rfl

theorem loop_meta_CheckBook (l : List (List UInt8)) (hl : l.length ≤ 60) (K : V → List Blk → Prop) : ∀ (d k : Nat), k + d = l.length → K (.one (.dat .int (bookFrom (l.take k) (l.drop k)))) [] →
    goD Γ_meta_CheckBook tab fn_meta_CheckBook 0 K (d + 1) meta_CheckBook_L0 (meta_CheckBook_S0 (k : Int) (((len l) : Nat) : Int) l 0 l)
  | 0, k, hk, hK => by
    rw [meta_CheckBook_w0, meta_CheckBook_vc0 _ _ _ _ _ _ _ _ rfl]
    rw [List.drop_of_length_le (by omega)] at hK
    exact lt_f (by simp only [len]; omega) hK
  | d + 1, k, hk, hK => by
    rw [meta_CheckBook_w0, meta_CheckBook_vc0 _ _ _ _ _ _ _ _ rfl, toNat_nat, show Int.toNat (0 : Int) = 0 from rfl, slc_take]
    rw [drop_step (by omega) (Ty.dflt Ty.str)] at hK
    simp only [bookFrom] at hK
    refine lt_t (by simp only [len]; omega) ⟨⟨by omega, by simp only [len]; omega⟩, lt_s (fun h => ?_) (fun h => ⟨⟨by omega, by omega, by simp only [len]; omega⟩, by rw [List.length_take]; omega, br_split (fun h2 => ?_) (fun h2 => ?_)⟩)⟩
    · rw [if_pos (by simp only [len] at h; omega)] at hK; exact hK
    · rw [if_neg (by simp only [len] at h; omega), if_pos h2] at hK; exact hK
    · rw [if_neg (by simp only [len] at h; omega), if_neg (by rw [h2]; simp)] at hK
      rw [w64_succ (by omega)]
      rw [← take_step (by omega) (Ty.dflt Ty.str)] at hK
      exact loop_meta_CheckBook l hl K d (k + 1) (by omega) hK
set_option maxHeartbeats 4000000 in
theorem run_meta_CheckBook (l : List (List UInt8)) (K : V → List Blk → Prop) (hK : K (.one (.dat .int (checkBook l))) []) : ∃ m, goD Γ_meta_CheckBook tab fn_meta_CheckBook 0 K m [.code (bodyOf fn_meta_CheckBook)] (initSt [.agg [.dat (.list .str) l]] []) := by
  refine ⟨l.length + 2, ?_⟩
  rw [meta_CheckBook_w, meta_CheckBook_vc _ _ _]
  unfold checkBook at hK
  refine lt_s (fun h => ?_) (fun h => ?_)
  · rw [if_pos (by simp only [len] at h; omega)] at hK; exact hK
  · rw [if_neg (by simp only [len] at h; omega)] at hK
    exact loop_meta_CheckBook l (by simp only [len] at h; omega) K l.length 0 (by omega) hK
theorem sound_meta_CheckBook : SoundC Tryd.prog tab n_meta_CheckBook c_meta_CheckBook := soundC_of ok_meta_CheckBook hf_meta_CheckBook hB_meta_CheckBook (by
  intro vs bs p v bs' h hp
  unfold c_meta_CheckBook at h
  split at h
  · cases h
    exact ⟨by kernel_rfl, rfl, .inl (run_meta_CheckBook _ _ ⟨rfl, rfl⟩)⟩
  · cases h)

def c_meta_Name : Contract := fun vs bs => match vs, bs with
  | [.agg [.dat (.list .str) l], .one (.dat .str s)], [] => some (some (l.length ≤ 140737488355328), .tup [.one (.dat .int (nameB l s).1), .one (.dat .int (nameB l s).2)], [])
  | _, _ => none
def Γ_meta_Name : Ctx := [(n_meta_CheckBook, c_meta_CheckBook), (n_slices_Index_Lstring, c_slices_Index_Lstring)]
theorem ok_meta_Name : Ok Tryd.prog tab Γ_meta_Name := ((ok_nil.consC hf_slices_Index_Lstring hB_slices_Index_Lstring sound_slices_Index_Lstring).consC hf_meta_CheckBook hB_meta_CheckBook sound_meta_CheckBook)
theorem meta_Name_vc (l : List (List UInt8)) (s : List UInt8) (rec : List It → St → Prop) (K : V → List Blk → Prop) v0 (hv0 : v0 = (checkBook l)) v1 (hv1 : v1 = (indexS s l)) : segD Γ_meta_Name tab fn_meta_Name 0 K rec [.code (bodyOf fn_meta_Name)] (initSt [.agg [.dat (Ty.list Ty.str) l], .one (.dat Ty.str s)] []) = (
    br (!(eqi v0 (0 : Int)))
     (K (.tup [.one (.dat Ty.int (0 : Int)), .one (.dat Ty.int v0)]) [])
     (((List.length l) ≤ 140737488355328) ∧
      (K (.tup [.one (.dat Ty.int (w64 (v1 + (1 : Int)))), .one (.dat Ty.int (0 : Int))]) []))) := by subst hv1; subst hv0; kernel_rfl
theorem meta_Name_w (l : List (List UInt8)) (s : List UInt8) (m : Nat) (K : V → List Blk → Prop) : goD Γ_meta_Name tab fn_meta_Name 0 K (m + 1) [.code (bodyOf fn_meta_Name)] (initSt [.agg [.dat (Ty.list Ty.str) l], .one (.dat Ty.str s)] []) = segD Γ_meta_Name tab fn_meta_Name 0 K (goD Γ_meta_Name tab fn_meta_Name 0 K m) [.code (bodyOf fn_meta_Name)] (initSt [.agg [.dat (Ty.list Ty.str) l], .one (.dat Ty.str s)] []) := rfl

set_option maxHeartbeats 4000000 in
theorem run_meta_Name (l : List (List UInt8)) (s : List UInt8) (hp : l.length ≤ 140737488355328) (K : V → List Blk → Prop) (hK : K (.tup [.one (.dat .int (nameB l s).1), .one (.dat .int (nameB l s).2)]) []) : ∃ m, goD Γ_meta_Name tab fn_meta_Name 0 K m [.code (bodyOf fn_meta_Name)] (initSt [.agg [.dat (.list .str) l], .one (.dat .str s)] []) := by
  refine ⟨1, ?_⟩
  rw [meta_Name_w, meta_Name_vc _ _ _ _ _ rfl _ rfl]
  unfold nameB at hK
  refine ne_s (fun h => ?_) (fun h => ⟨hp, ?_⟩)
  · rw [if_neg h] at hK; exact hK
  · rw [if_pos h] at hK
    have := indexFrom_range s l 0 (by omega)
    rw [w64_id (by unfold indexS; omega) (by unfold indexS; omega)]
    exact hK
theorem sound_meta_Name : SoundC Tryd.prog tab n_meta_Name c_meta_Name := soundC_of ok_meta_Name hf_meta_Name hB_meta_Name (by
  intro vs bs p v bs' h hp
  unfold c_meta_Name at h
  split at h
  · cases h
    exact ⟨by kernel_rfl, rfl, .inl (run_meta_Name _ _ hp.1 _ ⟨rfl, rfl⟩)⟩
  · cases h)

def c_meta_CheckImage : Contract := fun vs bs => match vs, bs with
  | [.one (.dat (.list .int) l)], [] => some (none, .one (.dat .int (checkImage l)), [])
  | _, _ => none
def Γ_meta_CheckImage : Ctx := []
theorem ok_meta_CheckImage : Ok Tryd.prog tab Γ_meta_CheckImage := ok_nil
noncomputable def meta_CheckImage_L0 : List It := [.inLoop [15, 14, 13, 2] (Code.sub (bodyOf fn_meta_CheckImage) [1, 1, 0, 1, 0, 0]), .inBlock 0, .code (Code.sub (bodyOf fn_meta_CheckImage) [1, 1, 1])]
def meta_CheckImage_S0 (x0 : Int) (x1 : Int) (x2 : (List Int)) (x3 : Int) : St := ⟨[(15, .one (.dat Ty.int x0)), (14, .one (.dat Ty.int x1)), (13, .one (.dat (Ty.list Ty.int) x2)), (2, .one (.dat Ty.int x3))], [], 0⟩
theorem meta_CheckImage_vc (l : List Int) (rec : List It → St → Prop) (K : V → List Blk → Prop) : segD Γ_meta_CheckImage tab fn_meta_CheckImage 0 K rec [.code (bodyOf fn_meta_CheckImage)] (initSt [.one (.dat (Ty.list Ty.int) l)] []) = (
    br (eqi (((len l) : Nat) : Int) (0 : Int))
     (K (.one (.dat Ty.int (2 : Int))) [])
     (br (lti (40 : Int) (((len l) : Nat) : Int))
       (K (.one (.dat Ty.int (2 : Int))) [])
       (rec meta_CheckImage_L0 (meta_CheckImage_S0 (0 : Int) (((len l) : Nat) : Int) l (0 : Int))))) := by kernel_rfl
theorem meta_CheckImage_w (l : List Int) (m : Nat) (K : V → List Blk → Prop) : goD Γ_meta_CheckImage tab fn_meta_CheckImage 0 K (m + 1) [.code (bodyOf fn_meta_CheckImage)] (initSt [.one (.dat (Ty.list Ty.int) l)] []) = segD Γ_meta_CheckImage tab fn_meta_CheckImage 0 K (goD Γ_meta_CheckImage tab fn_meta_CheckImage 0 K m) [.code (bodyOf fn_meta_CheckImage)] (initSt [.one (.dat (Ty.list Ty.int) l)] []) := rfl
theorem meta_CheckImage_vc0 (x0 : Int) (x1 : Int) (x2 : (List Int)) (x3 : Int) (rec : List It → St → Prop) (K : V → List Blk → Prop) : segD Γ_meta_CheckImage tab fn_meta_CheckImage 0 K rec (.code (Code.sub (bodyOf fn_meta_CheckImage) [1, 1, 0, 1, 0, 0]) :: meta_CheckImage_L0) (meta_CheckImage_S0 x0 x1 x2 x3) = (
    br (lti x0 x1)
     ((((0 : Int) ≤ x0) ∧ (x0 < (((len x2) : Nat) : Int))) ∧
      (br (lti (nth x2 (Int.toNat x0) (Ty.dflt Ty.int)) (0 : Int))
       (K (.one (.dat Ty.int (3 : Int))) [])
       (br (lti (65535 : Int) (nth x2 (Int.toNat x0) (Ty.dflt Ty.int)))
         (K (.one (.dat Ty.int (3 : Int))) [])
         (rec meta_CheckImage_L0 (meta_CheckImage_S0 (w64 (x0 + (1 : Int))) x1 x2 x3)))))
     (K (.one (.dat Ty.int (0 : Int))) [])) := by kernel_rfl
theorem meta_CheckImage_w0 (x0 : Int) (x1 : Int) (x2 : (List Int)) (x3 : Int) (m : Nat) (K : V → List Blk → Prop) : goD Γ_meta_CheckImage tab fn_meta_CheckImage 0 K (m + 1) meta_CheckImage_L0 (meta_CheckImage_S0 x0 x1 x2 x3) = segD Γ_meta_CheckImage tab fn_meta_CheckImage 0 K (goD Γ_meta_CheckImage tab fn_meta_CheckImage 0 K m) (.code (Code.sub (bodyOf fn_meta_CheckImage) [1, 1, 0, 1, 0, 0]) :: meta_CheckImage_L0) (meta_CheckImage_S0 x0 x1 x2 x3) := rfl

theorem loop_meta_CheckImage (ws : List Int) (hl : ws.length ≤ 40) (K : V → List Blk → Prop) (hK : K (.one (.dat .int (if okWords ws then 0 else 3))) []) : ∀ (d k : Nat), k + d = ws.length → okWords (ws.take k) = true →
    goD Γ_meta_CheckImage tab fn_meta_CheckImage 0 K (d + 1) meta_CheckImage_L0 (meta_CheckImage_S0 (k : Int) (((len ws) : Nat) : Int) ws (0 : Int))
  | 0, k, hk, he => by
    rw [meta_CheckImage_w0, meta_CheckImage_vc0 _ _ _ _ _ _]
    refine lt_f (by simp only [len]; omega) ?_
    rw [List.take_of_length_le (by omega)] at he
    rw [if_pos he] at hK
    exact hK
  | d + 1, k, hk, he => by
    rw [meta_CheckImage_w0, meta_CheckImage_vc0 _ _ _ _ _ _]
    have bad : okWord (nth ws k (Ty.dflt Ty.int)) = false → K (.one (.dat .int 3)) [] := fun h => by
      rw [show okWords ws = false from all_false (k := k) (by omega) _ h] at hK; exact hK
    refine lt_t (by simp only [len]; omega) ⟨⟨by omega, by simp only [len]; omega⟩, lt_s (fun h => ?_) (fun h => lt_s (fun h2 => ?_) (fun h2 => ?_))⟩
    · rw [toNat_nat] at h
      exact bad (by simp only [okWord, Bool.and_eq_false_iff, decide_eq_false_iff_not]; exact .inl (by omega))
    · rw [toNat_nat] at h2
      exact bad (by simp only [okWord, Bool.and_eq_false_iff, decide_eq_false_iff_not]; exact .inr (by omega))
    · rw [w64_succ (by omega)]
      rw [toNat_nat] at h h2
      exact loop_meta_CheckImage ws hl K hK d (k + 1) (by omega) (all_take_step (by omega) (Ty.dflt Ty.int) he (by simp [okWord, h, h2]))
set_option maxHeartbeats 4000000 in
theorem run_meta_CheckImage (l : List Int) (K : V → List Blk → Prop) (hK : K (.one (.dat .int (checkImage l))) []) : ∃ m, goD Γ_meta_CheckImage tab fn_meta_CheckImage 0 K m [.code (bodyOf fn_meta_CheckImage)] (initSt [.one (.dat (.list .int) l)] []) := by
  refine ⟨l.length + 2, ?_⟩
  rw [meta_CheckImage_w, meta_CheckImage_vc _ _ _]
  unfold checkImage at hK
  refine eq_s (fun h => ?_) (fun h => lt_s (fun h2 => ?_) (fun h2 => ?_))
  · rw [if_pos (by simp only [len] at h; omega)] at hK; exact hK
  · rw [if_pos (by simp only [len] at h2; omega)] at hK; exact hK
  · rw [if_neg (by simp only [len] at h h2; omega)] at hK
    exact loop_meta_CheckImage l (by simp only [len] at h2; omega) K hK l.length 0 (by omega) rfl
theorem sound_meta_CheckImage : SoundC Tryd.prog tab n_meta_CheckImage c_meta_CheckImage := soundC_of ok_meta_CheckImage hf_meta_CheckImage hB_meta_CheckImage (by
  intro vs bs p v bs' h hp
  unfold c_meta_CheckImage at h
  split at h
  · cases h
    exact ⟨by kernel_rfl, rfl, .inl (run_meta_CheckImage _ _ ⟨rfl, rfl⟩)⟩
  · cases h)

def c_meta_list : Contract := fun vs bs => match vs, bs with
  | [.one (.dat (.list .int) l)], [] => some (some (len l ≤ 1000 ∧ nums l = true), .one (.dat .str (listT l)), [])
  | _, _ => none
def Γ_meta_list : Ctx := [(n_strconv_Itoa, c_strconv_Itoa), (n_strings_Join, c_strings_Join)]
theorem ok_meta_list : Ok Tryd.prog tab Γ_meta_list := ((ok_nil.consC hf_strings_Join hB_strings_Join sound_strings_Join).consC hf_strconv_Itoa hB_strconv_Itoa sound_strconv_Itoa)
noncomputable def meta_list_L0 : List It := [.inLoop [8, 7, 6, 3, 2] (Code.sub (bodyOf fn_meta_list) [1, 1, 0, 1, 0, 0]), .inBlock 0, .code (Code.sub (bodyOf fn_meta_list) [1, 1, 1])]
def meta_list_S0 (x0 : Int) (x1 : Int) (x2 : (List Int)) (x3 : (List UInt8)) (x4 : (List (List UInt8))) : St := ⟨[(8, .one (.dat Ty.int x0)), (7, .one (.dat Ty.int x1)), (6, .one (.dat (Ty.list Ty.int) x2)), (3, .one (.own 0)), (2, .one (.dat Ty.str x3))], [(0, .arr Ty.str x4)], 1⟩
theorem meta_list_vc (l : List Int) (rec : List It → St → Prop) (K : V → List Blk → Prop) : segD Γ_meta_list tab fn_meta_list 0 K rec [.code (bodyOf fn_meta_list)] (initSt [.one (.dat (Ty.list Ty.int) l)] []) = (
    rec meta_list_L0 (meta_list_S0 (0 : Int) (((len l) : Nat) : Int) l [] [])) := by kernel_rfl
theorem meta_list_w (l : List Int) (m : Nat) (K : V → List Blk → Prop) : goD Γ_meta_list tab fn_meta_list 0 K (m + 1) [.code (bodyOf fn_meta_list)] (initSt [.one (.dat (Ty.list Ty.int) l)] []) = segD Γ_meta_list tab fn_meta_list 0 K (goD Γ_meta_list tab fn_meta_list 0 K m) [.code (bodyOf fn_meta_list)] (initSt [.one (.dat (Ty.list Ty.int) l)] []) := rfl
theorem meta_list_vc0 (x0 : Int) (x1 : Int) (x2 : (List Int)) (x3 : (List UInt8)) (x4 : (List (List UInt8))) (rec : List It → St → Prop) (K : V → List Blk → Prop) v0 (hv0 : v0 = (numT (nth x2 (Int.toNat x0) (Ty.dflt Ty.int)))) v1 (hv1 : v1 = (joinT ((32 : UInt8) :: []) x4)) : segD Γ_meta_list tab fn_meta_list 0 K rec (.code (Code.sub (bodyOf fn_meta_list) [1, 1, 0, 1, 0, 0]) :: meta_list_L0) (meta_list_S0 x0 x1 x2 x3 x4) = (
    br (lti x0 x1)
     ((((0 : Int) ≤ x0) ∧ (x0 < (((len x2) : Nat) : Int))) ∧
      ((((0 : Int) ≤ (nth x2 (Int.toNat x0) (Ty.dflt Ty.int))) ∧ ((nth x2 (Int.toNat x0) (Ty.dflt Ty.int)) ≤ (9223372036854775807 : Int))) ∧
      (((((len x4) + (len (v0 :: []))) * 16) ≤ 140737488355328) ∧
      (rec meta_list_L0 (meta_list_S0 (w64 (x0 + (1 : Int))) x1 x2 x3 (cat x4 (v0 :: [])))))))
     ((((List.length x4) ≤ 140737488355328) ∧ ((List.length v1) ≤ 140737488355328)) ∧
      (K (.one (.dat Ty.str v1)) []))) := by subst hv1; subst hv0; kernel_rfl
theorem meta_list_w0 (x0 : Int) (x1 : Int) (x2 : (List Int)) (x3 : (List UInt8)) (x4 : (List (List UInt8))) (m : Nat) (K : V → List Blk → Prop) : goD Γ_meta_list tab fn_meta_list 0 K (m + 1) meta_list_L0 (meta_list_S0 x0 x1 x2 x3 x4) = segD Γ_meta_list tab fn_meta_list 0 K (goD Γ_meta_list tab fn_meta_list 0 K m) (.code (Code.sub (bodyOf fn_meta_list) [1, 1, 0, 1, 0, 0]) :: meta_list_L0) (meta_list_S0 x0 x1 x2 x3 x4) := rfl

theorem loop_meta_list (l : List Int) (hl : l.length ≤ 1000) (hn : nums l = true) (K : V → List Blk → Prop) (hK : K (.one (.dat .str (listT l))) []) (y : List UInt8) : ∀ (d k : Nat), k + d = l.length →
    goD Γ_meta_list tab fn_meta_list 0 K (d + 1) meta_list_L0 (meta_list_S0 (k : Int) (((len l) : Nat) : Int) l y ((l.take k).map numT))
  | 0, k, hk => by
    rw [meta_list_w0, meta_list_vc0 _ _ _ _ _ _ _ _ rfl _ rfl, List.take_of_length_le (by omega)]
    have h1 := listT_len l
    unfold listT at h1
    exact lt_f (by simp only [len]; omega) ⟨⟨by rw [List.length_map]; omega, by omega⟩, hK⟩
  | d + 1, k, hk => by
    rw [meta_list_w0, meta_list_vc0 _ _ _ _ _ _ _ _ rfl _ rfl, toNat_nat]
    have hm : nth l k (Ty.dflt Ty.int) ∈ l := by
      have : k < l.length := by omega
      simp [nth, List.getD_eq_getElem?_getD, this]
    have h1 := List.all_eq_true.1 hn _ hm
    simp only [Bool.and_eq_true, decide_eq_true_eq] at h1
    refine lt_t (by simp only [len]; omega) ⟨⟨by omega, by simp only [len]; omega⟩, h1, by simp only [len, List.length_map, List.length_take, List.length_cons, List.length_nil]; omega, ?_⟩
    rw [w64_succ (by omega), show cat ((l.take k).map numT) [numT (nth l k (Ty.dflt Ty.int))] = (l.take (k + 1)).map numT from by rw [take_step (by omega) (Ty.dflt Ty.int)]; simp [cat]]
    exact loop_meta_list l hl hn K hK y d (k + 1) (by omega)
set_option maxHeartbeats 4000000 in
theorem run_meta_list (l : List Int) (hp : len l ≤ 1000 ∧ nums l = true) (K : V → List Blk → Prop) (hK : K (.one (.dat .str (listT l))) []) : ∃ m, goD Γ_meta_list tab fn_meta_list 0 K m [.code (bodyOf fn_meta_list)] (initSt [.one (.dat (.list .int) l)] []) := by
  refine ⟨l.length + 2, ?_⟩
  rw [meta_list_w, meta_list_vc _ _ _]
  exact loop_meta_list l hp.1 hp.2 K hK [] l.length 0 (by omega)
theorem sound_meta_list : SoundC Tryd.prog tab n_meta_list c_meta_list := soundC_of ok_meta_list hf_meta_list hB_meta_list (by
  intro vs bs p v bs' h hp
  unfold c_meta_list at h
  split at h
  · cases h
    exact ⟨by kernel_rfl, rfl, .inl (run_meta_list _ hp.1 _ ⟨rfl, rfl⟩)⟩
  · cases h)

def c_meta_ImageText : Contract := fun vs bs => match vs, bs with
  | [.one (.dat (.list .int) l)], [] => some (none, .tup [.one (.dat .str (imageTextE l).1), .one (.dat .int (imageTextE l).2)], [])
  | _, _ => none
def Γ_meta_ImageText : Ctx := [(n_meta_CheckImage, c_meta_CheckImage), (n_meta_list, c_meta_list)]
theorem ok_meta_ImageText : Ok Tryd.prog tab Γ_meta_ImageText := ((ok_nil.consC hf_meta_list hB_meta_list sound_meta_list).consC hf_meta_CheckImage hB_meta_CheckImage sound_meta_CheckImage)
theorem meta_ImageText_vc (l : List Int) (rec : List It → St → Prop) (K : V → List Blk → Prop) v0 (hv0 : v0 = (checkImage l)) v1 (hv1 : v1 = (nums l)) v2 (hv2 : v2 = (listT l)) : segD Γ_meta_ImageText tab fn_meta_ImageText 0 K rec [.code (bodyOf fn_meta_ImageText)] (initSt [.one (.dat (Ty.list Ty.int) l)] []) = (
    br (!(eqi v0 (0 : Int)))
     (K (.tup [.one (.dat Ty.str []), .one (.dat Ty.int v0)]) [])
     ((((len l) ≤ 1000) ∧ (v1 = true)) ∧
      ((((len ((105 : UInt8) :: ((109 : UInt8) :: ((97 : UInt8) :: ((103 : UInt8) :: ((101 : UInt8) :: ((32 : UInt8) :: []))))))) + (len v2)) ≤ 140737488355328) ∧
      (K (.tup [.one (.dat Ty.str (cat ((105 : UInt8) :: ((109 : UInt8) :: ((97 : UInt8) :: ((103 : UInt8) :: ((101 : UInt8) :: ((32 : UInt8) :: [])))))) v2)), .one (.dat Ty.int (0 : Int))]) [])))) := by subst hv2; subst hv1; subst hv0; kernel_rfl
theorem meta_ImageText_w (l : List Int) (m : Nat) (K : V → List Blk → Prop) : goD Γ_meta_ImageText tab fn_meta_ImageText 0 K (m + 1) [.code (bodyOf fn_meta_ImageText)] (initSt [.one (.dat (Ty.list Ty.int) l)] []) = segD Γ_meta_ImageText tab fn_meta_ImageText 0 K (goD Γ_meta_ImageText tab fn_meta_ImageText 0 K m) [.code (bodyOf fn_meta_ImageText)] (initSt [.one (.dat (Ty.list Ty.int) l)] []) := rfl

set_option maxHeartbeats 4000000 in
theorem run_meta_ImageText (l : List Int) (K : V → List Blk → Prop) (hK : K (.tup [.one (.dat .str (imageTextE l).1), .one (.dat .int (imageTextE l).2)]) []) : ∃ m, goD Γ_meta_ImageText tab fn_meta_ImageText 0 K m [.code (bodyOf fn_meta_ImageText)] (initSt [.one (.dat (.list .int) l)] []) := by
  refine ⟨1, ?_⟩
  rw [meta_ImageText_w, meta_ImageText_vc _ _ _ _ rfl _ rfl _ rfl]
  unfold imageTextE at hK
  refine ne_s (fun h => ?_) (fun h => ?_)
  · rw [if_neg h] at hK; exact hK
  rw [if_pos h] at hK
  obtain ⟨h1, h2, h3⟩ := checkImage_ok h
  have n3 := listT_len l
  exact ⟨⟨by simp only [len]; omega, nums_of_words h3⟩, by simp only [len, List.length_cons, List.length_nil]; omega, hK⟩
theorem sound_meta_ImageText : SoundC Tryd.prog tab n_meta_ImageText c_meta_ImageText := soundC_of ok_meta_ImageText hf_meta_ImageText hB_meta_ImageText (by
  intro vs bs p v bs' h hp
  unfold c_meta_ImageText at h
  split at h
  · cases h
    exact ⟨by kernel_rfl, rfl, .inl (run_meta_ImageText _ _ ⟨rfl, rfl⟩)⟩
  · cases h)

def c_meta_ImageName : Contract := fun vs bs => match vs, bs with
  | [.agg [.dat (.list .str) l], .one (.dat (.list .int) ws)], [] => some (some (l.length ≤ 140737488355328), .tup [.one (.dat .int (imageName l ws).1), .one (.dat .int (imageName l ws).2)], [])
  | _, _ => none
def Γ_meta_ImageName : Ctx := [(n_meta_ImageText, c_meta_ImageText), (n_meta_Name, c_meta_Name)]
theorem ok_meta_ImageName : Ok Tryd.prog tab Γ_meta_ImageName := ((ok_nil.consC hf_meta_Name hB_meta_Name sound_meta_Name).consC hf_meta_ImageText hB_meta_ImageText sound_meta_ImageText)
theorem meta_ImageName_vc (l : List (List UInt8)) (ws : List Int) (rec : List It → St → Prop) (K : V → List Blk → Prop) v0 (hv0 : v0 = (imageTextE ws)) v1 (hv1 : v1 = (nameB l (v0).fst)) : segD Γ_meta_ImageName tab fn_meta_ImageName 0 K rec [.code (bodyOf fn_meta_ImageName)] (initSt [.agg [.dat (Ty.list Ty.str) l], .one (.dat (Ty.list Ty.int) ws)] []) = (
    br (!(eqi (v0).snd (0 : Int)))
     (K (.tup [.one (.dat Ty.int (0 : Int)), .one (.dat Ty.int (v0).snd)]) [])
     (((List.length l) ≤ 140737488355328) ∧
      (K (.tup [.one (.dat Ty.int (v1).fst), .one (.dat Ty.int (v1).snd)]) []))) := by subst hv1; subst hv0; kernel_rfl
theorem meta_ImageName_w (l : List (List UInt8)) (ws : List Int) (m : Nat) (K : V → List Blk → Prop) : goD Γ_meta_ImageName tab fn_meta_ImageName 0 K (m + 1) [.code (bodyOf fn_meta_ImageName)] (initSt [.agg [.dat (Ty.list Ty.str) l], .one (.dat (Ty.list Ty.int) ws)] []) = segD Γ_meta_ImageName tab fn_meta_ImageName 0 K (goD Γ_meta_ImageName tab fn_meta_ImageName 0 K m) [.code (bodyOf fn_meta_ImageName)] (initSt [.agg [.dat (Ty.list Ty.str) l], .one (.dat (Ty.list Ty.int) ws)] []) := rfl

set_option maxHeartbeats 4000000 in
theorem run_meta_ImageName (l : List (List UInt8)) (ws : List Int) (hp : l.length ≤ 140737488355328) (K : V → List Blk → Prop) (hK : K (.tup [.one (.dat .int (imageName l ws).1), .one (.dat .int (imageName l ws).2)]) []) : ∃ m, goD Γ_meta_ImageName tab fn_meta_ImageName 0 K m [.code (bodyOf fn_meta_ImageName)] (initSt [.agg [.dat (.list .str) l], .one (.dat (.list .int) ws)] []) := by
  refine ⟨1, ?_⟩
  rw [meta_ImageName_w, meta_ImageName_vc _ _ _ _ _ rfl _ rfl]
  unfold imageName at hK
  by_cases h : checkImage ws = 0
  · rw [if_pos h] at hK
    rw [show imageTextE ws = (imageText ws, 0) from if_pos h]
    exact ne_f rfl ⟨hp, hK⟩
  · rw [if_neg h] at hK
    rw [show imageTextE ws = ([], checkImage ws) from if_neg h]
    exact ne_t h hK
theorem sound_meta_ImageName : SoundC Tryd.prog tab n_meta_ImageName c_meta_ImageName := soundC_of ok_meta_ImageName hf_meta_ImageName hB_meta_ImageName (by
  intro vs bs p v bs' h hp
  unfold c_meta_ImageName at h
  split at h
  · cases h
    exact ⟨by kernel_rfl, rfl, .inl (run_meta_ImageName _ _ hp.1 _ ⟨rfl, rfl⟩)⟩
  · cases h)

def c_ref_CheckBook : Contract := fun vs bs => match vs, bs with
  | [.agg [.dat (.list .str) l]], [] => some (none, .one (.dat .int (checkBook l)), [])
  | _, _ => none
def Γ_ref_CheckBook : Ctx := [(n_slices_Index_Lstring, c_slices_Index_Lstring)]
theorem ok_ref_CheckBook : Ok Tryd.prog tab Γ_ref_CheckBook := (ok_nil.consC hf_slices_Index_Lstring hB_slices_Index_Lstring sound_slices_Index_Lstring)
noncomputable def ref_CheckBook_L0 : List It := [.inLoop [12, 11, 10, 2, 1] (Code.sub (bodyOf fn_ref_CheckBook) [1, 1, 0, 1, 0, 0]), .inBlock 0, .code (Code.sub (bodyOf fn_ref_CheckBook) [1, 1, 1])]
def ref_CheckBook_S0 (x0 : Int) (x1 : Int) (x2 : (List (List UInt8))) (x3 : Int) (x4 : (List (List UInt8))) : St := ⟨[(12, .one (.dat Ty.int x0)), (11, .one (.dat Ty.int x1)), (10, .one (.dat (Ty.list Ty.str) x2)), (2, .one (.dat Ty.int x3)), (1, .one (.ptr 0 0))], [(0, .box [.dat (Ty.list Ty.str) x4])], 1⟩
theorem ref_CheckBook_vc (l : List (List UInt8)) (rec : List It → St → Prop) (K : V → List Blk → Prop) : segD Γ_ref_CheckBook tab fn_ref_CheckBook 0 K rec [.code (bodyOf fn_ref_CheckBook)] (initSt [.agg [.dat (Ty.list Ty.str) l]] []) = (
    br (lti (60 : Int) (((len l) : Nat) : Int))
     (K (.one (.dat Ty.int (2 : Int))) [])
     (rec ref_CheckBook_L0 (ref_CheckBook_S0 (0 : Int) (((len l) : Nat) : Int) l (0 : Int) l))) := by kernel_rfl
theorem ref_CheckBook_w (l : List (List UInt8)) (m : Nat) (K : V → List Blk → Prop) : goD Γ_ref_CheckBook tab fn_ref_CheckBook 0 K (m + 1) [.code (bodyOf fn_ref_CheckBook)] (initSt [.agg [.dat (Ty.list Ty.str) l]] []) = segD Γ_ref_CheckBook tab fn_ref_CheckBook 0 K (goD Γ_ref_CheckBook tab fn_ref_CheckBook 0 K m) [.code (bodyOf fn_ref_CheckBook)] (initSt [.agg [.dat (Ty.list Ty.str) l]] []) := rfl
theorem ref_CheckBook_vc0 (x0 : Int) (x1 : Int) (x2 : (List (List UInt8))) (x3 : Int) (x4 : (List (List UInt8))) (rec : List It → St → Prop) (K : V → List Blk → Prop) v0 (hv0 : v0 = (indexS (nth x2 (Int.toNat x0) (Ty.dflt Ty.str)) x4)) : segD Γ_ref_CheckBook tab fn_ref_CheckBook 0 K rec (.code (Code.sub (bodyOf fn_ref_CheckBook) [1, 1, 0, 1, 0, 0]) :: ref_CheckBook_L0) (ref_CheckBook_S0 x0 x1 x2 x3 x4) = (
    br (lti x0 x1)
     ((((0 : Int) ≤ x0) ∧ (x0 < (((len x2) : Nat) : Int))) ∧
      (br (lti (2000 : Int) (((len (nth x2 (Int.toNat x0) (Ty.dflt Ty.str))) : Nat) : Int))
       (K (.one (.dat Ty.int (2 : Int))) [])
       (((List.length x4) ≤ 140737488355328) ∧
        (br (lti v0 x0)
         (K (.one (.dat Ty.int (6 : Int))) [])
         (rec ref_CheckBook_L0 (ref_CheckBook_S0 (w64 (x0 + (1 : Int))) x1 x2 x3 x4))))))
     (K (.one (.dat Ty.int (0 : Int))) [])) := by subst hv0; kernel_rfl
theorem ref_CheckBook_w0 (x0 : Int) (x1 : Int) (x2 : (List (List UInt8))) (x3 : Int) (x4 : (List (List UInt8))) (m : Nat) (K : V → List Blk → Prop) : goD Γ_ref_CheckBook tab fn_ref_CheckBook 0 K (m + 1) ref_CheckBook_L0 (ref_CheckBook_S0 x0 x1 x2 x3 x4) = segD Γ_ref_CheckBook tab fn_ref_CheckBook 0 K (goD Γ_ref_CheckBook tab fn_ref_CheckBook 0 K m) (.code (Code.sub (bodyOf fn_ref_CheckBook) [1, 1, 0, 1, 0, 0]) :: ref_CheckBook_L0) (ref_CheckBook_S0 x0 x1 x2 x3 x4) := rfl

theorem loop_ref_CheckBook (l : List (List UInt8)) (hl : l.length ≤ 60) (K : V → List Blk → Prop) : ∀ (d k : Nat), k + d = l.length → K (.one (.dat .int (bookFrom (l.take k) (l.drop k)))) [] →
    goD Γ_ref_CheckBook tab fn_ref_CheckBook 0 K (d + 1) ref_CheckBook_L0 (ref_CheckBook_S0 (k : Int) (((len l) : Nat) : Int) l 0 l)
  | 0, k, hk, hK => by
    rw [ref_CheckBook_w0, ref_CheckBook_vc0 _ _ _ _ _ _ _ _ rfl]
    rw [List.drop_of_length_le (by omega)] at hK
    exact lt_f (by simp only [len]; omega) hK
  | d + 1, k, hk, hK => by
    rw [ref_CheckBook_w0, ref_CheckBook_vc0 _ _ _ _ _ _ _ _ rfl, toNat_nat]
    have hi := indexS_take (l := l) (k := k) (by omega) (rfl : nth l k (Ty.dflt Ty.str) = nth l k (Ty.dflt Ty.str))
    rw [drop_step (by omega) (Ty.dflt Ty.str)] at hK
    simp only [bookFrom] at hK
    refine lt_t (by simp only [len]; omega) ⟨⟨by omega, by simp only [len]; omega⟩, lt_s (fun h => ?_) (fun h => ⟨by omega, br_split (fun h2 => ?_) (fun h2 => ?_)⟩)⟩
    · rw [if_pos (by simp only [len] at h; omega)] at hK; exact hK
    · rw [if_neg (by simp only [len] at h; omega), if_pos (by rw [← hi]; exact h2)] at hK; exact hK
    · rw [if_neg (by simp only [len] at h; omega), if_neg (by rw [← hi, h2]; simp)] at hK
      rw [w64_succ (by omega)]
      rw [← take_step (by omega) (Ty.dflt Ty.str)] at hK
      exact loop_ref_CheckBook l hl K d (k + 1) (by omega) hK
set_option maxHeartbeats 4000000 in
theorem run_ref_CheckBook (l : List (List UInt8)) (K : V → List Blk → Prop) (hK : K (.one (.dat .int (checkBook l))) []) : ∃ m, goD Γ_ref_CheckBook tab fn_ref_CheckBook 0 K m [.code (bodyOf fn_ref_CheckBook)] (initSt [.agg [.dat (.list .str) l]] []) := by
  refine ⟨l.length + 2, ?_⟩
  rw [ref_CheckBook_w, ref_CheckBook_vc _ _ _]
  unfold checkBook at hK
  refine lt_s (fun h => ?_) (fun h => ?_)
  · rw [if_pos (by simp only [len] at h; omega)] at hK; exact hK
  · rw [if_neg (by simp only [len] at h; omega)] at hK
    exact loop_ref_CheckBook l (by simp only [len] at h; omega) K l.length 0 (by omega) hK
theorem sound_ref_CheckBook : SoundC Tryd.prog tab n_ref_CheckBook c_ref_CheckBook := soundC_of ok_ref_CheckBook hf_ref_CheckBook hB_ref_CheckBook (by
  intro vs bs p v bs' h hp
  unfold c_ref_CheckBook at h
  split at h
  · cases h
    exact ⟨by kernel_rfl, rfl, .inl (run_ref_CheckBook _ _ ⟨rfl, rfl⟩)⟩
  · cases h)

def c_meta_CheckRoot : Contract := fun vs bs => match vs, bs with
  | [.agg [.dat .int v, .dat (.list .int) ks, .dat .int t]], [] => some (none, .one (.dat .int (checkRoot v ks t)), [])
  | _, _ => none
def Γ_meta_CheckRoot : Ctx := []
theorem ok_meta_CheckRoot : Ok Tryd.prog tab Γ_meta_CheckRoot := ok_nil
noncomputable def meta_CheckRoot_L0 : List It := [.inLoop [26, 25, 24, 2, 1] (Code.sub (bodyOf fn_meta_CheckRoot) [1, 1, 1, 0, 1, 0, 0]), .inBlock 0, .code (Code.sub (bodyOf fn_meta_CheckRoot) [1, 1, 1, 1])]
def meta_CheckRoot_S0 (x0 : Int) (x1 : Int) (x2 : (List Int)) (x3 : Int) (x4 : Int) (x5 : (List Int)) (x6 : Int) : St := ⟨[(26, .one (.dat Ty.int x0)), (25, .one (.dat Ty.int x1)), (24, .one (.dat (Ty.list Ty.int) x2)), (2, .one (.dat Ty.int x3)), (1, .one (.ptr 0 0))], [(0, .box [.dat Ty.int x4, .dat (Ty.list Ty.int) x5, .dat Ty.int x6])], 1⟩
theorem meta_CheckRoot_vc (v : Int) (ks : List Int) (t : Int) (rec : List It → St → Prop) (K : V → List Blk → Prop) : segD Γ_meta_CheckRoot tab fn_meta_CheckRoot 0 K rec [.code (bodyOf fn_meta_CheckRoot)] (initSt [.agg [.dat Ty.int v, .dat (Ty.list Ty.int) ks, .dat Ty.int t]] []) = (
    br (lti v (1 : Int))
     (K (.one (.dat Ty.int (3 : Int))) [])
     (br (lti (1000 : Int) v)
       (K (.one (.dat Ty.int (3 : Int))) [])
       (br (eqi (((len ks) : Nat) : Int) (0 : Int))
         (K (.one (.dat Ty.int (2 : Int))) [])
         (br (lti (6 : Int) (((len ks) : Nat) : Int))
           (K (.one (.dat Ty.int (2 : Int))) [])
           (rec meta_CheckRoot_L0 (meta_CheckRoot_S0 (0 : Int) (((len ks) : Nat) : Int) ks (0 : Int) v ks t)))))) := by kernel_rfl
theorem meta_CheckRoot_w (v : Int) (ks : List Int) (t : Int) (m : Nat) (K : V → List Blk → Prop) : goD Γ_meta_CheckRoot tab fn_meta_CheckRoot 0 K (m + 1) [.code (bodyOf fn_meta_CheckRoot)] (initSt [.agg [.dat Ty.int v, .dat (Ty.list Ty.int) ks, .dat Ty.int t]] []) = segD Γ_meta_CheckRoot tab fn_meta_CheckRoot 0 K (goD Γ_meta_CheckRoot tab fn_meta_CheckRoot 0 K m) [.code (bodyOf fn_meta_CheckRoot)] (initSt [.agg [.dat Ty.int v, .dat (Ty.list Ty.int) ks, .dat Ty.int t]] []) := rfl
theorem meta_CheckRoot_vc0 (x0 : Int) (x1 : Int) (x2 : (List Int)) (x3 : Int) (x4 : Int) (x5 : (List Int)) (x6 : Int) (rec : List It → St → Prop) (K : V → List Blk → Prop) : segD Γ_meta_CheckRoot tab fn_meta_CheckRoot 0 K rec (.code (Code.sub (bodyOf fn_meta_CheckRoot) [1, 1, 1, 0, 1, 0, 0]) :: meta_CheckRoot_L0) (meta_CheckRoot_S0 x0 x1 x2 x3 x4 x5 x6) = (
    br (lti x0 x1)
     ((((0 : Int) ≤ x0) ∧ (x0 < (((len x2) : Nat) : Int))) ∧
      (br (lti (nth x2 (Int.toNat x0) (Ty.dflt Ty.int)) (1 : Int))
       (K (.one (.dat Ty.int (3 : Int))) [])
       (br (lti (50 : Int) (nth x2 (Int.toNat x0) (Ty.dflt Ty.int)))
         (K (.one (.dat Ty.int (3 : Int))) [])
         (br (lti (0 : Int) x0)
           ((((0 : Int) ≤ (w64 (x0 - (1 : Int)))) ∧ ((w64 (x0 - (1 : Int))) < (((len x5) : Nat) : Int))) ∧
            (br (lei (nth x2 (Int.toNat x0) (Ty.dflt Ty.int)) (nth x5 (Int.toNat (w64 (x0 - (1 : Int)))) (Ty.dflt Ty.int)))
             (K (.one (.dat Ty.int (6 : Int))) [])
             (rec meta_CheckRoot_L0 (meta_CheckRoot_S0 (w64 (x0 + (1 : Int))) x1 x2 x3 x4 x5 x6))))
           (rec meta_CheckRoot_L0 (meta_CheckRoot_S0 (w64 (x0 + (1 : Int))) x1 x2 x3 x4 x5 x6))))))
     (br (lti x6 (1 : Int))
       (K (.one (.dat Ty.int (4 : Int))) [])
       (br (lti (((len x5) : Nat) : Int) x6)
         (K (.one (.dat Ty.int (4 : Int))) [])
         (K (.one (.dat Ty.int (0 : Int))) [])))) := by kernel_rfl
theorem meta_CheckRoot_w0 (x0 : Int) (x1 : Int) (x2 : (List Int)) (x3 : Int) (x4 : Int) (x5 : (List Int)) (x6 : Int) (m : Nat) (K : V → List Blk → Prop) : goD Γ_meta_CheckRoot tab fn_meta_CheckRoot 0 K (m + 1) meta_CheckRoot_L0 (meta_CheckRoot_S0 x0 x1 x2 x3 x4 x5 x6) = segD Γ_meta_CheckRoot tab fn_meta_CheckRoot 0 K (goD Γ_meta_CheckRoot tab fn_meta_CheckRoot 0 K m) (.code (Code.sub (bodyOf fn_meta_CheckRoot) [1, 1, 1, 0, 1, 0, 0]) :: meta_CheckRoot_L0) (meta_CheckRoot_S0 x0 x1 x2 x3 x4 x5 x6) := rfl

theorem loop_meta_CheckRoot (ks : List Int) (v t : Int) (hl : ks.length ≤ 6) (K : V → List Blk → Prop) (last : Nat → Option Int) (h0 : last 0 = none) (hs : ∀ k, k < ks.length → last (k + 1) = some (nth ks k 0)) : ∀ (d k : Nat), k + d = ks.length →
    K (.one (.dat .int (rootEnd (keysFrom (last k) (ks.drop k)) t ks.length))) [] →
    goD Γ_meta_CheckRoot tab fn_meta_CheckRoot 0 K (d + 1) meta_CheckRoot_L0 (meta_CheckRoot_S0 (k : Int) (((len ks) : Nat) : Int) ks 0 v ks t)
  | 0, k, hk, hK => by
    rw [meta_CheckRoot_w0, meta_CheckRoot_vc0 _ _ _ _ _ _ _ _ _]
    rw [List.drop_of_length_le (by omega)] at hK
    rw [show rootEnd (keysFrom (last k) []) t ks.length = if t < 1 ∨ (ks.length : Int) < t then 4 else 0 from rfl] at hK
    refine lt_f (by simp only [len]; omega) (lt_s (fun h => ?_) (fun h => lt_s (fun h2 => ?_) (fun h2 => ?_)))
    · rw [if_pos (.inl h)] at hK; exact hK
    · rw [if_pos (.inr h2)] at hK; exact hK
    · rw [if_neg (by simp only [len] at h2; omega)] at hK; exact hK
  | d + 1, k, hk, hK => by
    rw [meta_CheckRoot_w0, meta_CheckRoot_vc0 _ _ _ _ _ _ _ _ _, toNat_nat]
    rw [drop_step (by omega) (Ty.dflt Ty.int)] at hK
    have hsk := hs k (by omega)
    have e : nth ks k (Ty.dflt Ty.int) = nth ks k 0 := rfl
    rw [e] at hK ⊢
    obtain ⟨x, hx⟩ : ∃ x, nth ks k (0 : Int) = x := ⟨_, rfl⟩
    rw [hx] at hK hsk ⊢
    have ek : w64 ((k : Int) + 1) = ((k + 1 : Nat) : Int) := w64_succ (by omega)
    rw [ek]
    refine lt_t (by simp only [len]; omega) ⟨⟨by omega, by simp only [len]; omega⟩, lt_s (fun h => ?_) (fun h => lt_s (fun h2 => ?_) (fun h2 => ?_))⟩
    · rw [show keysFrom (last k) (x :: ks.drop (k + 1)) = 3 from if_pos (.inl h)] at hK; exact hK
    · rw [show keysFrom (last k) (x :: ks.drop (k + 1)) = 3 from if_pos (.inr h2)] at hK; exact hK
    · rw [show keysFrom (last k) (x :: ks.drop (k + 1)) = if notBehind (last k) x then 6 else keysFrom (some x) (ks.drop (k + 1)) from if_neg (by omega)] at hK
      refine lt_s (fun h3 => ?_) (fun h3 => ?_)
      · obtain ⟨j, rfl⟩ : ∃ j, k = j + 1 := ⟨k - 1, by omega⟩
        have hj := hs j (by omega)
        rw [hj] at hK
        rw [w64_id (n := ((j + 1 : Nat) : Int) - 1) (by omega) (by omega), show Int.toNat (((j + 1 : Nat) : Int) - 1) = j by omega]
        have e2 : nth ks j (Ty.dflt Ty.int) = nth ks j 0 := rfl
        rw [e2]
        refine ⟨⟨by omega, by simp only [len]; omega⟩, br_split (fun h4 => ?_) (fun h4 => ?_)⟩
        · rw [lei_true] at h4
          rw [if_pos (show notBehind (some (nth ks j 0)) x = true from decide_eq_true h4)] at hK; exact hK
        · rw [lei_false] at h4
          rw [if_neg (show ¬ notBehind (some (nth ks j 0)) x = true from by simp only [notBehind, decide_eq_true_eq]; omega)] at hK
          refine loop_meta_CheckRoot ks v t hl K last h0 hs d (j + 1 + 1) (by omega) ?_
          rw [hsk]; exact hK
      · have hk0 : k = 0 := by omega
        subst hk0
        rw [h0] at hK
        rw [if_neg (show ¬ notBehind none x = true from by simp [notBehind])] at hK
        refine loop_meta_CheckRoot ks v t hl K last h0 hs d 1 (by omega) ?_
        rw [hsk]; exact hK
set_option maxHeartbeats 4000000 in
theorem run_meta_CheckRoot (v : Int) (ks : List Int) (t : Int) (K : V → List Blk → Prop) (hK : K (.one (.dat .int (checkRoot v ks t))) []) : ∃ m, goD Γ_meta_CheckRoot tab fn_meta_CheckRoot 0 K m [.code (bodyOf fn_meta_CheckRoot)] (initSt [.agg [.dat .int v, .dat (.list .int) ks, .dat .int t]] []) := by
  refine ⟨ks.length + 2, ?_⟩
  rw [meta_CheckRoot_w, meta_CheckRoot_vc _ _ _ _ _]
  unfold checkRoot at hK
  refine lt_s (fun h => ?_) (fun h => lt_s (fun h2 => ?_) (fun h2 => eq_s (fun h3 => ?_) (fun h3 => lt_s (fun h4 => ?_) (fun h4 => ?_))))
  · rw [if_pos (.inl h)] at hK; exact hK
  · rw [if_pos (.inr h2)] at hK; exact hK
  · rw [if_neg (by omega), if_pos (by simp only [len] at h3; omega)] at hK; exact hK
  · rw [if_neg (by omega), if_pos (by simp only [len] at h4; omega)] at hK; exact hK
  · rw [if_neg (by omega), if_neg (by simp only [len] at h3 h4; omega)] at hK
    exact loop_meta_CheckRoot ks v t (by simp only [len] at h4; omega) K (fun k => match k with | 0 => none | k + 1 => some (nth ks k 0)) rfl (fun k _ => rfl) ks.length 0 (by omega) hK
theorem sound_meta_CheckRoot : SoundC Tryd.prog tab n_meta_CheckRoot c_meta_CheckRoot := soundC_of ok_meta_CheckRoot hf_meta_CheckRoot hB_meta_CheckRoot (by
  intro vs bs p v bs' h hp
  unfold c_meta_CheckRoot at h
  split at h
  · cases h
    exact ⟨by kernel_rfl, rfl, .inl (run_meta_CheckRoot _ _ _ _ ⟨rfl, rfl⟩)⟩
  · cases h)

def c_meta_RootText : Contract := fun vs bs => match vs, bs with
  | [.agg [.dat .int v, .dat (.list .int) ks, .dat .int t]], [] => some (none, .tup [.one (.dat .str (rootTextE v ks t).1), .one (.dat .int (rootTextE v ks t).2)], [])
  | _, _ => none
def Γ_meta_RootText : Ctx := [(n_meta_CheckRoot, c_meta_CheckRoot), (n_strconv_Itoa, c_strconv_Itoa), (n_meta_list, c_meta_list)]
theorem ok_meta_RootText : Ok Tryd.prog tab Γ_meta_RootText := (((ok_nil.consC hf_meta_list hB_meta_list sound_meta_list).consC hf_strconv_Itoa hB_strconv_Itoa sound_strconv_Itoa).consC hf_meta_CheckRoot hB_meta_CheckRoot sound_meta_CheckRoot)
theorem meta_RootText_vc (v : Int) (ks : List Int) (t : Int) (rec : List It → St → Prop) (K : V → List Blk → Prop) v0 (hv0 : v0 = (checkRoot v ks t)) v1 (hv1 : v1 = (numT v)) v2 (hv2 : v2 = (numT t)) v3 (hv3 : v3 = (nums ks)) v4 (hv4 : v4 = (listT ks)) : segD Γ_meta_RootText tab fn_meta_RootText 0 K rec [.code (bodyOf fn_meta_RootText)] (initSt [.agg [.dat Ty.int v, .dat (Ty.list Ty.int) ks, .dat Ty.int t]] []) = (
    br (!(eqi v0 (0 : Int)))
     (K (.tup [.one (.dat Ty.str []), .one (.dat Ty.int v0)]) [])
     ((((0 : Int) ≤ v) ∧ (v ≤ (9223372036854775807 : Int))) ∧
      ((((len ((114 : UInt8) :: ((111 : UInt8) :: ((111 : UInt8) :: ((116 : UInt8) :: ((32 : UInt8) :: [])))))) + (len v1)) ≤ 140737488355328) ∧
      ((((len (cat ((114 : UInt8) :: ((111 : UInt8) :: ((111 : UInt8) :: ((116 : UInt8) :: ((32 : UInt8) :: []))))) v1)) + (len ((32 : UInt8) :: []))) ≤ 140737488355328) ∧
      ((((0 : Int) ≤ t) ∧ (t ≤ (9223372036854775807 : Int))) ∧
      ((((len (cat (cat ((114 : UInt8) :: ((111 : UInt8) :: ((111 : UInt8) :: ((116 : UInt8) :: ((32 : UInt8) :: []))))) v1) ((32 : UInt8) :: []))) + (len v2)) ≤ 140737488355328) ∧
      ((((len (cat (cat (cat ((114 : UInt8) :: ((111 : UInt8) :: ((111 : UInt8) :: ((116 : UInt8) :: ((32 : UInt8) :: []))))) v1) ((32 : UInt8) :: [])) v2)) + (len ((32 : UInt8) :: ((111 : UInt8) :: ((102 : UInt8) :: ((32 : UInt8) :: [])))))) ≤ 140737488355328) ∧
      ((((len ks) ≤ 1000) ∧ (v3 = true)) ∧
      ((((len (cat (cat (cat (cat ((114 : UInt8) :: ((111 : UInt8) :: ((111 : UInt8) :: ((116 : UInt8) :: ((32 : UInt8) :: []))))) v1) ((32 : UInt8) :: [])) v2) ((32 : UInt8) :: ((111 : UInt8) :: ((102 : UInt8) :: ((32 : UInt8) :: [])))))) + (len v4)) ≤ 140737488355328) ∧
      (K (.tup [.one (.dat Ty.str (cat (cat (cat (cat (cat ((114 : UInt8) :: ((111 : UInt8) :: ((111 : UInt8) :: ((116 : UInt8) :: ((32 : UInt8) :: []))))) v1) ((32 : UInt8) :: [])) v2) ((32 : UInt8) :: ((111 : UInt8) :: ((102 : UInt8) :: ((32 : UInt8) :: []))))) v4)), .one (.dat Ty.int (0 : Int))]) [])))))))))) := by subst hv4; subst hv3; subst hv2; subst hv1; subst hv0; kernel_rfl
theorem meta_RootText_w (v : Int) (ks : List Int) (t : Int) (m : Nat) (K : V → List Blk → Prop) : goD Γ_meta_RootText tab fn_meta_RootText 0 K (m + 1) [.code (bodyOf fn_meta_RootText)] (initSt [.agg [.dat Ty.int v, .dat (Ty.list Ty.int) ks, .dat Ty.int t]] []) = segD Γ_meta_RootText tab fn_meta_RootText 0 K (goD Γ_meta_RootText tab fn_meta_RootText 0 K m) [.code (bodyOf fn_meta_RootText)] (initSt [.agg [.dat Ty.int v, .dat (Ty.list Ty.int) ks, .dat Ty.int t]] []) := rfl

set_option maxHeartbeats 4000000 in
theorem run_meta_RootText (v : Int) (ks : List Int) (t : Int) (K : V → List Blk → Prop) (hK : K (.tup [.one (.dat .str (rootTextE v ks t).1), .one (.dat .int (rootTextE v ks t).2)]) []) : ∃ m, goD Γ_meta_RootText tab fn_meta_RootText 0 K m [.code (bodyOf fn_meta_RootText)] (initSt [.agg [.dat .int v, .dat (.list .int) ks, .dat .int t]] []) := by
  refine ⟨1, ?_⟩
  rw [meta_RootText_w, meta_RootText_vc _ _ _ _ _ _ rfl _ rfl _ rfl _ rfl _ rfl]
  unfold rootTextE at hK
  refine ne_s (fun h => ?_) (fun h => ?_)
  · rw [if_neg h] at hK; exact hK
  rw [if_pos h] at hK
  obtain ⟨h1, h2, h3, h4, h5, h6⟩ := checkRoot_ok h
  have n1 := numT_len v
  have n2 := numT_len t
  have n3 := listT_len ks
  refine ⟨by omega, by simp only [len, List.length_cons, List.length_nil]; omega, by simp only [len, cat, List.length_append, List.length_cons, List.length_nil]; omega, by omega, by simp only [len, cat, List.length_append, List.length_cons, List.length_nil]; omega, by simp only [len, cat, List.length_append, List.length_cons, List.length_nil]; omega, ⟨by simp only [len]; omega, h6⟩, by simp only [len, cat, List.length_append, List.length_cons, List.length_nil]; omega, hK⟩
theorem sound_meta_RootText : SoundC Tryd.prog tab n_meta_RootText c_meta_RootText := soundC_of ok_meta_RootText hf_meta_RootText hB_meta_RootText (by
  intro vs bs p v bs' h hp
  unfold c_meta_RootText at h
  split at h
  · cases h
    exact ⟨by kernel_rfl, rfl, .inl (run_meta_RootText _ _ _ _ ⟨rfl, rfl⟩)⟩
  · cases h)

def c_meta_CheckRelease : Contract := fun vs bs => match vs, bs with
  | [.agg [.dat .int v, .dat .int u, .dat (.list .target) ts]], [] => some (none, .one (.dat .int (checkRelease v u ts)), [])
  | _, _ => none
def Γ_meta_CheckRelease : Ctx := []
theorem ok_meta_CheckRelease : Ok Tryd.prog tab Γ_meta_CheckRelease := ok_nil
noncomputable def meta_CheckRelease_L0 : List It := [.inLoop [38, 37, 36, 2] (Code.sub (bodyOf fn_meta_CheckRelease) [1, 1, 1, 0, 1, 0, 0]), .inBlock 0, .code (Code.sub (bodyOf fn_meta_CheckRelease) [1, 1, 1, 1])]
def meta_CheckRelease_S0 (x0 : Int) (x1 : Int) (x2 : (List Vm.Target)) (x3 : Int) : St := ⟨[(38, .one (.dat Ty.int x0)), (37, .one (.dat Ty.int x1)), (36, .one (.dat (Ty.list Ty.target) x2)), (2, .one (.dat Ty.int x3))], [], 0⟩
noncomputable def meta_CheckRelease_L1 : List It := [.inLoop [55, 54, 53, 52, 51, 50, 49, 48, 47, 46, 45, 44, 43, 3, 4, 42, 41, 40, 39, 38, 37, 36, 2] (Code.sub (bodyOf fn_meta_CheckRelease) [1, 1, 1, 0, 1, 0, 0, 1, 1, 0, 0, 1, 1, 0, 0]), .inBlock 2, .inBlock 1, .code (Code.sub (bodyOf fn_meta_CheckRelease) [1, 1, 1, 0, 1, 0, 0, 1, 1, 1]), .inLoop [38, 37, 36, 2] (Code.sub (bodyOf fn_meta_CheckRelease) [1, 1, 1, 0, 1, 0, 0]), .inBlock 0, .code (Code.sub (bodyOf fn_meta_CheckRelease) [1, 1, 1, 1])]
def meta_CheckRelease_S1 (x0 : Int) (x1 : Int) (x2 : Int) (x3 : Int) (x4 : Int) (x5 : Int) (x6 : Int) (x7 : Int) (x8 : Int) (x9 : Int) (x10 : Int) (x11 : Int) (x12 : Int) (x13 : Int) (x14 : Int) (x15 : Int) (x16 : Int) (x17 : Int) (x18 : Int) (x19 : Int) (x20 : Int) (x21 : Int) (x22 : Int) (x23 : Int) (x24 : Int) (x25 : Int) (x26 : Int) (x27 : Int) (x28 : (List Vm.Target)) (x29 : Nat) (x30 : Int) (x31 : Bool) (x32 : Int) (x33 : Int) (x34 : (List Vm.Target)) (x35 : Int) (x36 : Int) (x37 : Int) (x38 : Int) : St := ⟨[(55, .one (.dat Ty.int x0)), (54, .agg [.dat Ty.int x1, .dat Ty.int x2, .dat Ty.int x3, .dat Ty.int x4, .dat Ty.int x5, .dat Ty.int x6, .dat Ty.int x7, .dat Ty.int x8, .dat Ty.int x9]), (53, .agg [.dat Ty.int x10, .dat Ty.int x11, .dat Ty.int x12]), (52, .one (.dat Ty.int x13)), (51, .one (.ptr 0 2)), (50, .agg [.dat Ty.int x14, .dat Ty.int x15, .dat Ty.int x16]), (49, .one (.dat Ty.int x17)), (48, .one (.ptr 0 1)), (47, .agg [.dat Ty.int x18, .dat Ty.int x19, .dat Ty.int x20]), (46, .one (.dat Ty.int x21)), (45, .one (.dat Ty.int x22)), (44, .one (.dat Ty.int x23)), (43, .one (.ptr 0 0)), (3, .one (.dat Ty.int x24)), (4, .one (.ptr 0 0)), (42, .agg [.dat Ty.int x25, .dat Ty.int x26, .dat Ty.int x27]), (41, .one (.eptr Ty.target x28 x29 0)), (40, .one (.dat Ty.int x30)), (39, .one (.dat Ty.bool x31)), (38, .one (.dat Ty.int x32)), (37, .one (.dat Ty.int x33)), (36, .one (.dat (Ty.list Ty.target) x34)), (2, .one (.dat Ty.int x35))], [(0, .box [.dat Ty.int x36, .dat Ty.int x37, .dat Ty.int x38])], 1⟩
theorem meta_CheckRelease_vc (v : Int) (u : Int) (ts : List Vm.Target) (rec : List It → St → Prop) (K : V → List Blk → Prop) : segD Γ_meta_CheckRelease tab fn_meta_CheckRelease 0 K rec [.code (bodyOf fn_meta_CheckRelease)] (initSt [.agg [.dat Ty.int v, .dat Ty.int u, .dat (Ty.list Ty.target) ts]] []) = (
    br (lti v (1 : Int))
     (K (.one (.dat Ty.int (3 : Int))) [])
     (br (lti (1000 : Int) v)
       (K (.one (.dat Ty.int (3 : Int))) [])
       (br (lti u (0 : Int))
         (K (.one (.dat Ty.int (3 : Int))) [])
         (br (lti (100000 : Int) u)
           (K (.one (.dat Ty.int (3 : Int))) [])
           (br (eqi (((len ts) : Nat) : Int) (0 : Int))
             (K (.one (.dat Ty.int (2 : Int))) [])
             (br (lti (4 : Int) (((len ts) : Nat) : Int))
               (K (.one (.dat Ty.int (2 : Int))) [])
               (rec meta_CheckRelease_L0 (meta_CheckRelease_S0 (0 : Int) (((len ts) : Nat) : Int) ts (0 : Int))))))))) := by kernel_rfl
theorem meta_CheckRelease_w (v : Int) (u : Int) (ts : List Vm.Target) (m : Nat) (K : V → List Blk → Prop) : goD Γ_meta_CheckRelease tab fn_meta_CheckRelease 0 K (m + 1) [.code (bodyOf fn_meta_CheckRelease)] (initSt [.agg [.dat Ty.int v, .dat Ty.int u, .dat (Ty.list Ty.target) ts]] []) = segD Γ_meta_CheckRelease tab fn_meta_CheckRelease 0 K (goD Γ_meta_CheckRelease tab fn_meta_CheckRelease 0 K m) [.code (bodyOf fn_meta_CheckRelease)] (initSt [.agg [.dat Ty.int v, .dat Ty.int u, .dat (Ty.list Ty.target) ts]] []) := rfl
theorem meta_CheckRelease_vc0 (x0 : Int) (x1 : Int) (x2 : (List Vm.Target)) (x3 : Int) (rec : List It → St → Prop) (K : V → List Blk → Prop) : segD Γ_meta_CheckRelease tab fn_meta_CheckRelease 0 K rec (.code (Code.sub (bodyOf fn_meta_CheckRelease) [1, 1, 1, 0, 1, 0, 0]) :: meta_CheckRelease_L0) (meta_CheckRelease_S0 x0 x1 x2 x3) = (
    br (lti x0 x1)
     ((((0 : Int) ≤ x0) ∧ (x0 < (((len x2) : Nat) : Int))) ∧
      (rec meta_CheckRelease_L1 (meta_CheckRelease_S1 (0 : Int) ((nth x2 (Int.toNat x0) (Ty.dflt Ty.target))).unit x0 x0 ((nth x2 (Int.toNat x0) (Ty.dflt Ty.target))).image (1 : Int) (60 : Int) ((nth x2 (Int.toNat x0) (Ty.dflt Ty.target))).long (1 : Int) (40 : Int) ((nth x2 (Int.toNat x0) (Ty.dflt Ty.target))).long (1 : Int) (40 : Int) ((nth x2 (Int.toNat x0) (Ty.dflt Ty.target))).long ((nth x2 (Int.toNat x0) (Ty.dflt Ty.target))).image (1 : Int) (60 : Int) ((nth x2 (Int.toNat x0) (Ty.dflt Ty.target))).image ((nth x2 (Int.toNat x0) (Ty.dflt Ty.target))).unit x0 x0 x0 x0 ((nth x2 (Int.toNat x0) (Ty.dflt Ty.target))).unit x0 ((nth x2 (Int.toNat x0) (Ty.dflt Ty.target))).unit ((nth x2 (Int.toNat x0) (Ty.dflt Ty.target))).image ((nth x2 (Int.toNat x0) (Ty.dflt Ty.target))).long x2 (Int.toNat x0) x0 (lti x0 x1) x0 x1 x2 x3 ((nth x2 (Int.toNat x0) (Ty.dflt Ty.target))).unit ((nth x2 (Int.toNat x0) (Ty.dflt Ty.target))).image ((nth x2 (Int.toNat x0) (Ty.dflt Ty.target))).long)))
     (K (.one (.dat Ty.int (0 : Int))) [])) := by kernel_rfl
theorem meta_CheckRelease_w0 (x0 : Int) (x1 : Int) (x2 : (List Vm.Target)) (x3 : Int) (m : Nat) (K : V → List Blk → Prop) : goD Γ_meta_CheckRelease tab fn_meta_CheckRelease 0 K (m + 1) meta_CheckRelease_L0 (meta_CheckRelease_S0 x0 x1 x2 x3) = segD Γ_meta_CheckRelease tab fn_meta_CheckRelease 0 K (goD Γ_meta_CheckRelease tab fn_meta_CheckRelease 0 K m) (.code (Code.sub (bodyOf fn_meta_CheckRelease) [1, 1, 1, 0, 1, 0, 0]) :: meta_CheckRelease_L0) (meta_CheckRelease_S0 x0 x1 x2 x3) := rfl
theorem meta_CheckRelease_vc1_0 (x1 : Int) (x2 : Int) (x3 : Int) (x4 : Int) (x5 : Int) (x6 : Int) (x7 : Int) (x8 : Int) (x9 : Int) (x10 : Int) (x11 : Int) (x12 : Int) (x13 : Int) (x14 : Int) (x15 : Int) (x16 : Int) (x17 : Int) (x18 : Int) (x19 : Int) (x20 : Int) (x21 : Int) (x22 : Int) (x23 : Int) (x24 : Int) (x25 : Int) (x26 : Int) (x27 : Int) (x28 : (List Vm.Target)) (x29 : Nat) (x30 : Int) (x31 : Bool) (x32 : Int) (x33 : Int) (x34 : (List Vm.Target)) (x35 : Int) (x36 : Int) (x37 : Int) (x38 : Int) (rec : List It → St → Prop) (K : V → List Blk → Prop) : segD Γ_meta_CheckRelease tab fn_meta_CheckRelease 0 K rec (.code (Code.sub (bodyOf fn_meta_CheckRelease) [1, 1, 1, 0, 1, 0, 0, 1, 1, 0, 0, 1, 1, 0, 0]) :: meta_CheckRelease_L1) (meta_CheckRelease_S1 (0 : Int) x1 x2 x3 x4 x5 x6 x7 x8 x9 x10 x11 x12 x13 x14 x15 x16 x17 x18 x19 x20 x21 x22 x23 x24 x25 x26 x27 x28 x29 x30 x31 x32 x33 x34 x35 x36 x37 x38) = (
    (((0 : Int) ≤ (0 : Int)) ∧ ((0 : Int) < ((3 : Nat) : Int))) ∧
    ((((0 : Int) ≤ (0 : Int)) ∧ ((0 : Int) < ((3 : Nat) : Int))) ∧
    ((((0 : Int) ≤ (1 : Int)) ∧ ((1 : Int) < ((3 : Nat) : Int))) ∧
    (br (lti x1 x2)
     (K (.one (.dat Ty.int (3 : Int))) [])
     ((((0 : Int) ≤ (0 : Int)) ∧ ((0 : Int) < ((3 : Nat) : Int))) ∧
      ((((0 : Int) ≤ (2 : Int)) ∧ ((2 : Int) < ((3 : Nat) : Int))) ∧
      (br (lti x3 x1)
       (K (.one (.dat Ty.int (3 : Int))) [])
       (rec meta_CheckRelease_L1 (meta_CheckRelease_S1 (w64 ((0 : Int) + (1 : Int))) x1 x2 x3 x4 x5 x6 x7 x8 x9 x10 x11 x12 x13 x14 x15 x16 x17 x18 x19 x20 x21 x22 x23 x24 x25 x26 x27 x28 x29 x30 x31 x32 x33 x34 x35 x36 x37 x38))))))))) := by kernel_rfl
theorem meta_CheckRelease_vc1_1 (x1 : Int) (x2 : Int) (x3 : Int) (x4 : Int) (x5 : Int) (x6 : Int) (x7 : Int) (x8 : Int) (x9 : Int) (x10 : Int) (x11 : Int) (x12 : Int) (x13 : Int) (x14 : Int) (x15 : Int) (x16 : Int) (x17 : Int) (x18 : Int) (x19 : Int) (x20 : Int) (x21 : Int) (x22 : Int) (x23 : Int) (x24 : Int) (x25 : Int) (x26 : Int) (x27 : Int) (x28 : (List Vm.Target)) (x29 : Nat) (x30 : Int) (x31 : Bool) (x32 : Int) (x33 : Int) (x34 : (List Vm.Target)) (x35 : Int) (x36 : Int) (x37 : Int) (x38 : Int) (rec : List It → St → Prop) (K : V → List Blk → Prop) : segD Γ_meta_CheckRelease tab fn_meta_CheckRelease 0 K rec (.code (Code.sub (bodyOf fn_meta_CheckRelease) [1, 1, 1, 0, 1, 0, 0, 1, 1, 0, 0, 1, 1, 0, 0]) :: meta_CheckRelease_L1) (meta_CheckRelease_S1 (1 : Int) x1 x2 x3 x4 x5 x6 x7 x8 x9 x10 x11 x12 x13 x14 x15 x16 x17 x18 x19 x20 x21 x22 x23 x24 x25 x26 x27 x28 x29 x30 x31 x32 x33 x34 x35 x36 x37 x38) = (
    (((0 : Int) ≤ (1 : Int)) ∧ ((1 : Int) < ((3 : Nat) : Int))) ∧
    ((((0 : Int) ≤ (0 : Int)) ∧ ((0 : Int) < ((3 : Nat) : Int))) ∧
    ((((0 : Int) ≤ (1 : Int)) ∧ ((1 : Int) < ((3 : Nat) : Int))) ∧
    (br (lti x4 x5)
     (K (.one (.dat Ty.int (3 : Int))) [])
     ((((0 : Int) ≤ (0 : Int)) ∧ ((0 : Int) < ((3 : Nat) : Int))) ∧
      ((((0 : Int) ≤ (2 : Int)) ∧ ((2 : Int) < ((3 : Nat) : Int))) ∧
      (br (lti x6 x4)
       (K (.one (.dat Ty.int (3 : Int))) [])
       (rec meta_CheckRelease_L1 (meta_CheckRelease_S1 (w64 ((1 : Int) + (1 : Int))) x1 x2 x3 x4 x5 x6 x7 x8 x9 x10 x11 x12 x13 x14 x15 x16 x17 x18 x19 x20 x21 x22 x23 x24 x25 x26 x27 x28 x29 x30 x31 x32 x33 x34 x35 x36 x37 x38))))))))) := by kernel_rfl
theorem meta_CheckRelease_vc1_2 (x1 : Int) (x2 : Int) (x3 : Int) (x4 : Int) (x5 : Int) (x6 : Int) (x7 : Int) (x8 : Int) (x9 : Int) (x10 : Int) (x11 : Int) (x12 : Int) (x13 : Int) (x14 : Int) (x15 : Int) (x16 : Int) (x17 : Int) (x18 : Int) (x19 : Int) (x20 : Int) (x21 : Int) (x22 : Int) (x23 : Int) (x24 : Int) (x25 : Int) (x26 : Int) (x27 : Int) (x28 : (List Vm.Target)) (x29 : Nat) (x30 : Int) (x31 : Bool) (x32 : Int) (x33 : Int) (x34 : (List Vm.Target)) (x35 : Int) (x36 : Int) (x37 : Int) (x38 : Int) (rec : List It → St → Prop) (K : V → List Blk → Prop) : segD Γ_meta_CheckRelease tab fn_meta_CheckRelease 0 K rec (.code (Code.sub (bodyOf fn_meta_CheckRelease) [1, 1, 1, 0, 1, 0, 0, 1, 1, 0, 0, 1, 1, 0, 0]) :: meta_CheckRelease_L1) (meta_CheckRelease_S1 (2 : Int) x1 x2 x3 x4 x5 x6 x7 x8 x9 x10 x11 x12 x13 x14 x15 x16 x17 x18 x19 x20 x21 x22 x23 x24 x25 x26 x27 x28 x29 x30 x31 x32 x33 x34 x35 x36 x37 x38) = (
    (((0 : Int) ≤ (2 : Int)) ∧ ((2 : Int) < ((3 : Nat) : Int))) ∧
    ((((0 : Int) ≤ (0 : Int)) ∧ ((0 : Int) < ((3 : Nat) : Int))) ∧
    ((((0 : Int) ≤ (1 : Int)) ∧ ((1 : Int) < ((3 : Nat) : Int))) ∧
    (br (lti x7 x8)
     (K (.one (.dat Ty.int (3 : Int))) [])
     ((((0 : Int) ≤ (0 : Int)) ∧ ((0 : Int) < ((3 : Nat) : Int))) ∧
      ((((0 : Int) ≤ (2 : Int)) ∧ ((2 : Int) < ((3 : Nat) : Int))) ∧
      (br (lti x9 x7)
       (K (.one (.dat Ty.int (3 : Int))) [])
       (rec meta_CheckRelease_L1 (meta_CheckRelease_S1 (w64 ((2 : Int) + (1 : Int))) x1 x2 x3 x4 x5 x6 x7 x8 x9 x10 x11 x12 x13 x14 x15 x16 x17 x18 x19 x20 x21 x22 x23 x24 x25 x26 x27 x28 x29 x30 x31 x32 x33 x34 x35 x36 x37 x38))))))))) := by kernel_rfl
theorem meta_CheckRelease_vc1_3 (x1 : Int) (x2 : Int) (x3 : Int) (x4 : Int) (x5 : Int) (x6 : Int) (x7 : Int) (x8 : Int) (x9 : Int) (x10 : Int) (x11 : Int) (x12 : Int) (x13 : Int) (x14 : Int) (x15 : Int) (x16 : Int) (x17 : Int) (x18 : Int) (x19 : Int) (x20 : Int) (x21 : Int) (x22 : Int) (x23 : Int) (x24 : Int) (x25 : Int) (x26 : Int) (x27 : Int) (x28 : (List Vm.Target)) (x29 : Nat) (x30 : Int) (x31 : Bool) (x32 : Int) (x33 : Int) (x34 : (List Vm.Target)) (x35 : Int) (x36 : Int) (x37 : Int) (x38 : Int) (rec : List It → St → Prop) (K : V → List Blk → Prop) : segD Γ_meta_CheckRelease tab fn_meta_CheckRelease 0 K rec (.code (Code.sub (bodyOf fn_meta_CheckRelease) [1, 1, 1, 0, 1, 0, 0, 1, 1, 0, 0, 1, 1, 0, 0]) :: meta_CheckRelease_L1) (meta_CheckRelease_S1 (3 : Int) x1 x2 x3 x4 x5 x6 x7 x8 x9 x10 x11 x12 x13 x14 x15 x16 x17 x18 x19 x20 x21 x22 x23 x24 x25 x26 x27 x28 x29 x30 x31 x32 x33 x34 x35 x36 x37 x38) = (
    rec meta_CheckRelease_L0 (meta_CheckRelease_S0 (w64 (x32 + (1 : Int))) x33 x34 x35)) := by kernel_rfl
theorem meta_CheckRelease_w1 (x0 : Int) (x1 : Int) (x2 : Int) (x3 : Int) (x4 : Int) (x5 : Int) (x6 : Int) (x7 : Int) (x8 : Int) (x9 : Int) (x10 : Int) (x11 : Int) (x12 : Int) (x13 : Int) (x14 : Int) (x15 : Int) (x16 : Int) (x17 : Int) (x18 : Int) (x19 : Int) (x20 : Int) (x21 : Int) (x22 : Int) (x23 : Int) (x24 : Int) (x25 : Int) (x26 : Int) (x27 : Int) (x28 : (List Vm.Target)) (x29 : Nat) (x30 : Int) (x31 : Bool) (x32 : Int) (x33 : Int) (x34 : (List Vm.Target)) (x35 : Int) (x36 : Int) (x37 : Int) (x38 : Int) (m : Nat) (K : V → List Blk → Prop) : goD Γ_meta_CheckRelease tab fn_meta_CheckRelease 0 K (m + 1) meta_CheckRelease_L1 (meta_CheckRelease_S1 x0 x1 x2 x3 x4 x5 x6 x7 x8 x9 x10 x11 x12 x13 x14 x15 x16 x17 x18 x19 x20 x21 x22 x23 x24 x25 x26 x27 x28 x29 x30 x31 x32 x33 x34 x35 x36 x37 x38) = segD Γ_meta_CheckRelease tab fn_meta_CheckRelease 0 K (goD Γ_meta_CheckRelease tab fn_meta_CheckRelease 0 K m) (.code (Code.sub (bodyOf fn_meta_CheckRelease) [1, 1, 1, 0, 1, 0, 0, 1, 1, 0, 0, 1, 1, 0, 0]) :: meta_CheckRelease_L1) (meta_CheckRelease_S1 x0 x1 x2 x3 x4 x5 x6 x7 x8 x9 x10 x11 x12 x13 x14 x15 x16 x17 x18 x19 x20 x21 x22 x23 x24 x25 x26 x27 x28 x29 x30 x31 x32 x33 x34 x35 x36 x37 x38) := rfl

theorem loop_meta_CheckRelease (ts : List Vm.Target) (hl : ts.length ≤ 4) (K : V → List Blk → Prop) : ∀ (d k : Nat), k + d = ts.length → K (.one (.dat .int (if okTargets (k : Int) (ts.drop k) then 0 else 3))) [] →
    goD Γ_meta_CheckRelease tab fn_meta_CheckRelease 0 K (5 * d + 1) meta_CheckRelease_L0 (meta_CheckRelease_S0 (k : Int) (((len ts) : Nat) : Int) ts 0)
  | 0, k, hk, hK => by
    rw [show 5 * 0 + 1 = 0 + 1 by omega, meta_CheckRelease_w0, meta_CheckRelease_vc0 _ _ _ _ _ _]
    rw [List.drop_of_length_le (by omega)] at hK
    exact lt_f (by simp only [len]; omega) hK
  | d + 1, k, hk, hK => by
    rw [show 5 * (d + 1) + 1 = (5 * d + 1 + 1 + 1 + 1 + 1) + 1 by omega, meta_CheckRelease_w0, meta_CheckRelease_vc0 _ _ _ _ _ _, toNat_nat]
    rw [drop_step (by omega) (Ty.dflt Ty.target)] at hK
    obtain ⟨x, hx⟩ : ∃ x, nth ts k (Ty.dflt Ty.target) = x := ⟨_, rfl⟩
    rw [hx] at hK ⊢
    have three : okTarget (k : Int) x = false → K (.one (.dat .int 3)) [] := fun h => by rw [show okTargets (k : Int) (x :: ts.drop (k + 1)) = false from by simp [okTargets, h]] at hK; exact hK
    have hot : okTarget (k : Int) x = true ↔ (x.unit = k ∧ 1 ≤ x.image ∧ x.image ≤ 60 ∧ 1 ≤ x.long ∧ x.long ≤ 40) := by
      simp only [okTarget, Bool.and_eq_true, decide_eq_true_eq]; omega
    have bad : ¬ (x.unit = k ∧ 1 ≤ x.image ∧ x.image ≤ 60 ∧ 1 ≤ x.long ∧ x.long ≤ 40) → K (.one (.dat .int 3)) [] := fun h => three (by
      cases hc : okTarget (k : Int) x
      · rfl
      · exact absurd (hot.1 hc) h)
    refine lt_t (by simp only [len]; omega) ⟨⟨by omega, by simp only [len]; omega⟩, ?_⟩
    rw [meta_CheckRelease_w1, meta_CheckRelease_vc1_0 _ _ _ _ _ _ _ _ _ _ _ _ _ _ _ _ _ _ _ _ _ _ _ _ _ _ _ _ _ _ _ _ _ _ _ _ _ _ _ _]
    refine ⟨by omega, by omega, by omega, lt_s (fun h => bad (by omega)) (fun h => ⟨by omega, by omega, lt_s (fun h2 => bad (by omega)) (fun h2 => ?_)⟩)⟩
    rw [show w64 ((0 : Int) + 1) = 1 from w64_id (by omega) (by omega), meta_CheckRelease_w1, meta_CheckRelease_vc1_1 _ _ _ _ _ _ _ _ _ _ _ _ _ _ _ _ _ _ _ _ _ _ _ _ _ _ _ _ _ _ _ _ _ _ _ _ _ _ _ _]
    refine ⟨by omega, by omega, by omega, lt_s (fun h3 => bad (by omega)) (fun h3 => ⟨by omega, by omega, lt_s (fun h4 => bad (by omega)) (fun h4 => ?_)⟩)⟩
    rw [show w64 ((1 : Int) + 1) = 2 from w64_id (by omega) (by omega), meta_CheckRelease_w1, meta_CheckRelease_vc1_2 _ _ _ _ _ _ _ _ _ _ _ _ _ _ _ _ _ _ _ _ _ _ _ _ _ _ _ _ _ _ _ _ _ _ _ _ _ _ _ _]
    refine ⟨by omega, by omega, by omega, lt_s (fun h5 => bad (by omega)) (fun h5 => ⟨by omega, by omega, lt_s (fun h6 => bad (by omega)) (fun h6 => ?_)⟩)⟩
    rw [show w64 ((2 : Int) + 1) = 3 from w64_id (by omega) (by omega), meta_CheckRelease_w1, meta_CheckRelease_vc1_3 _ _ _ _ _ _ _ _ _ _ _ _ _ _ _ _ _ _ _ _ _ _ _ _ _ _ _ _ _ _ _ _ _ _ _ _ _ _ _ _, w64_succ (by omega)]
    rw [show okTargets (k : Int) (x :: ts.drop (k + 1)) = okTargets ((k : Int) + 1) (ts.drop (k + 1)) from by simp only [okTargets, hot.2 (show _ by omega), Bool.true_and]] at hK
    exact loop_meta_CheckRelease ts hl K d (k + 1) (by omega) (by rw [show ((k + 1 : Nat) : Int) = (k : Int) + 1 by omega]; exact hK)
set_option maxHeartbeats 4000000 in
theorem run_meta_CheckRelease (v u : Int) (ts : List Vm.Target) (K : V → List Blk → Prop) (hK : K (.one (.dat .int (checkRelease v u ts))) []) : ∃ m, goD Γ_meta_CheckRelease tab fn_meta_CheckRelease 0 K m [.code (bodyOf fn_meta_CheckRelease)] (initSt [.agg [.dat .int v, .dat .int u, .dat (.list .target) ts]] []) := by
  refine ⟨5 * ts.length + 1 + 1, ?_⟩
  rw [meta_CheckRelease_w, meta_CheckRelease_vc _ _ _ _ _]
  unfold checkRelease at hK
  refine lt_s (fun h => ?_) (fun h => lt_s (fun h2 => ?_) (fun h2 => lt_s (fun h3 => ?_) (fun h3 => lt_s (fun h4 => ?_) (fun h4 => eq_s (fun h5 => ?_) (fun h5 => lt_s (fun h6 => ?_) (fun h6 => ?_))))))
  · rw [if_pos (by omega)] at hK; exact hK
  · rw [if_pos (by omega)] at hK; exact hK
  · rw [if_pos (by omega)] at hK; exact hK
  · rw [if_pos (by omega)] at hK; exact hK
  · rw [if_neg (by omega), if_pos (by simp only [len] at h5; omega)] at hK; exact hK
  · rw [if_neg (by omega), if_pos (by simp only [len] at h6; omega)] at hK; exact hK
  · rw [if_neg (by omega), if_neg (by simp only [len] at h5 h6; omega)] at hK
    exact loop_meta_CheckRelease ts (by simp only [len] at h6; omega) K ts.length 0 (by omega) hK
theorem sound_meta_CheckRelease : SoundC Tryd.prog tab n_meta_CheckRelease c_meta_CheckRelease := soundC_of ok_meta_CheckRelease hf_meta_CheckRelease hB_meta_CheckRelease (by
  intro vs bs p v bs' h hp
  unfold c_meta_CheckRelease at h
  split at h
  · cases h
    exact ⟨by kernel_rfl, rfl, .inl (run_meta_CheckRelease _ _ _ _ ⟨rfl, rfl⟩)⟩
  · cases h)

def c_meta_ReleaseText : Contract := fun vs bs => match vs, bs with
  | [.agg [.dat .int v, .dat .int u, .dat (.list .target) ts]], [] => some (none, .tup [.one (.dat .str (releaseTextE v u ts).1), .one (.dat .int (releaseTextE v u ts).2)], [])
  | _, _ => none
def Γ_meta_ReleaseText : Ctx := [(n_meta_CheckRelease, c_meta_CheckRelease), (n_strconv_Itoa, c_strconv_Itoa), (n_meta_list, c_meta_list)]
theorem ok_meta_ReleaseText : Ok Tryd.prog tab Γ_meta_ReleaseText := (((ok_nil.consC hf_meta_list hB_meta_list sound_meta_list).consC hf_strconv_Itoa hB_strconv_Itoa sound_strconv_Itoa).consC hf_meta_CheckRelease hB_meta_CheckRelease sound_meta_CheckRelease)
noncomputable def meta_ReleaseText_L0 : List It := [.inLoop [25, 24, 23, 5, 3, 2] (Code.sub (bodyOf fn_meta_ReleaseText) [1, 1, 1, 0, 1, 0, 0]), .inBlock 0, .code (Code.sub (bodyOf fn_meta_ReleaseText) [1, 1, 1, 1])]
def meta_ReleaseText_S0 (x0 : Int) (x1 : Int) (x2 : (List Vm.Target)) (x3 : (List UInt8)) (x4 : Int) (x5 : (List UInt8)) : St := ⟨[(25, .one (.dat Ty.int x0)), (24, .one (.dat Ty.int x1)), (23, .one (.dat (Ty.list Ty.target) x2)), (5, .one (.dat Ty.str x3)), (3, .one (.dat Ty.int x4)), (2, .one (.dat Ty.str x5))], [], 0⟩
theorem meta_ReleaseText_vc (v : Int) (u : Int) (ts : List Vm.Target) (rec : List It → St → Prop) (K : V → List Blk → Prop) v0 (hv0 : v0 = (checkRelease v u ts)) v1 (hv1 : v1 = (numT v)) v2 (hv2 : v2 = (numT u)) : segD Γ_meta_ReleaseText tab fn_meta_ReleaseText 0 K rec [.code (bodyOf fn_meta_ReleaseText)] (initSt [.agg [.dat Ty.int v, .dat Ty.int u, .dat (Ty.list Ty.target) ts]] []) = (
    br (!(eqi v0 (0 : Int)))
     (K (.tup [.one (.dat Ty.str []), .one (.dat Ty.int v0)]) [])
     ((((0 : Int) ≤ v) ∧ (v ≤ (9223372036854775807 : Int))) ∧
      ((((len ((114 : UInt8) :: ((101 : UInt8) :: ((108 : UInt8) :: ((101 : UInt8) :: ((97 : UInt8) :: ((115 : UInt8) :: ((101 : UInt8) :: ((32 : UInt8) :: []))))))))) + (len v1)) ≤ 140737488355328) ∧
      ((((len (cat ((114 : UInt8) :: ((101 : UInt8) :: ((108 : UInt8) :: ((101 : UInt8) :: ((97 : UInt8) :: ((115 : UInt8) :: ((101 : UInt8) :: ((32 : UInt8) :: [])))))))) v1)) + (len ((32 : UInt8) :: ((117 : UInt8) :: ((110 : UInt8) :: ((116 : UInt8) :: ((105 : UInt8) :: ((108 : UInt8) :: ((32 : UInt8) :: []))))))))) ≤ 140737488355328) ∧
      ((((0 : Int) ≤ u) ∧ (u ≤ (9223372036854775807 : Int))) ∧
      ((((len (cat (cat ((114 : UInt8) :: ((101 : UInt8) :: ((108 : UInt8) :: ((101 : UInt8) :: ((97 : UInt8) :: ((115 : UInt8) :: ((101 : UInt8) :: ((32 : UInt8) :: [])))))))) v1) ((32 : UInt8) :: ((117 : UInt8) :: ((110 : UInt8) :: ((116 : UInt8) :: ((105 : UInt8) :: ((108 : UInt8) :: ((32 : UInt8) :: []))))))))) + (len v2)) ≤ 140737488355328) ∧
      (rec meta_ReleaseText_L0 (meta_ReleaseText_S0 (0 : Int) (((len ts) : Nat) : Int) ts (cat (cat (cat ((114 : UInt8) :: ((101 : UInt8) :: ((108 : UInt8) :: ((101 : UInt8) :: ((97 : UInt8) :: ((115 : UInt8) :: ((101 : UInt8) :: ((32 : UInt8) :: [])))))))) v1) ((32 : UInt8) :: ((117 : UInt8) :: ((110 : UInt8) :: ((116 : UInt8) :: ((105 : UInt8) :: ((108 : UInt8) :: ((32 : UInt8) :: [])))))))) v2) (0 : Int) [])))))))) := by subst hv2; subst hv1; subst hv0; kernel_rfl
theorem meta_ReleaseText_w (v : Int) (u : Int) (ts : List Vm.Target) (m : Nat) (K : V → List Blk → Prop) : goD Γ_meta_ReleaseText tab fn_meta_ReleaseText 0 K (m + 1) [.code (bodyOf fn_meta_ReleaseText)] (initSt [.agg [.dat Ty.int v, .dat Ty.int u, .dat (Ty.list Ty.target) ts]] []) = segD Γ_meta_ReleaseText tab fn_meta_ReleaseText 0 K (goD Γ_meta_ReleaseText tab fn_meta_ReleaseText 0 K m) [.code (bodyOf fn_meta_ReleaseText)] (initSt [.agg [.dat Ty.int v, .dat Ty.int u, .dat (Ty.list Ty.target) ts]] []) := rfl
theorem meta_ReleaseText_vc0 (x0 : Int) (x1 : Int) (x2 : (List Vm.Target)) (x3 : (List UInt8)) (x4 : Int) (x5 : (List UInt8)) (rec : List It → St → Prop) (K : V → List Blk → Prop) v0 (hv0 : v0 = (nums (((nth x2 (Int.toNat x0) (Ty.dflt Ty.target))).unit :: (((nth x2 (Int.toNat x0) (Ty.dflt Ty.target))).image :: (((nth x2 (Int.toNat x0) (Ty.dflt Ty.target))).long :: []))))) v1 (hv1 : v1 = (listT (((nth x2 (Int.toNat x0) (Ty.dflt Ty.target))).unit :: (((nth x2 (Int.toNat x0) (Ty.dflt Ty.target))).image :: (((nth x2 (Int.toNat x0) (Ty.dflt Ty.target))).long :: []))))) : segD Γ_meta_ReleaseText tab fn_meta_ReleaseText 0 K rec (.code (Code.sub (bodyOf fn_meta_ReleaseText) [1, 1, 1, 0, 1, 0, 0]) :: meta_ReleaseText_L0) (meta_ReleaseText_S0 x0 x1 x2 x3 x4 x5) = (
    br (lti x0 x1)
     ((((0 : Int) ≤ x0) ∧ (x0 < (((len x2) : Nat) : Int))) ∧
      ((((len (((nth x2 (Int.toNat x0) (Ty.dflt Ty.target))).unit :: (((nth x2 (Int.toNat x0) (Ty.dflt Ty.target))).image :: (((nth x2 (Int.toNat x0) (Ty.dflt Ty.target))).long :: [])))) ≤ 1000) ∧ (v0 = true)) ∧
      ((((len ((59 : UInt8) :: ((32 : UInt8) :: []))) + (len v1)) ≤ 140737488355328) ∧
      ((((len x3) + (len (cat ((59 : UInt8) :: ((32 : UInt8) :: [])) v1))) ≤ 140737488355328) ∧
      (rec meta_ReleaseText_L0 (meta_ReleaseText_S0 (w64 (x0 + (1 : Int))) x1 x2 (cat x3 (cat ((59 : UInt8) :: ((32 : UInt8) :: [])) v1)) x4 x5))))))
     (K (.tup [.one (.dat Ty.str x3), .one (.dat Ty.int (0 : Int))]) [])) := by subst hv1; subst hv0; kernel_rfl
theorem meta_ReleaseText_w0 (x0 : Int) (x1 : Int) (x2 : (List Vm.Target)) (x3 : (List UInt8)) (x4 : Int) (x5 : (List UInt8)) (m : Nat) (K : V → List Blk → Prop) : goD Γ_meta_ReleaseText tab fn_meta_ReleaseText 0 K (m + 1) meta_ReleaseText_L0 (meta_ReleaseText_S0 x0 x1 x2 x3 x4 x5) = segD Γ_meta_ReleaseText tab fn_meta_ReleaseText 0 K (goD Γ_meta_ReleaseText tab fn_meta_ReleaseText 0 K m) (.code (Code.sub (bodyOf fn_meta_ReleaseText) [1, 1, 1, 0, 1, 0, 0]) :: meta_ReleaseText_L0) (meta_ReleaseText_S0 x0 x1 x2 x3 x4 x5) := rfl

theorem loop_meta_ReleaseText (ts : List Vm.Target) (hl : ts.length ≤ 4) (hn : ∀ t ∈ ts, 0 ≤ t.unit ∧ t.unit ≤ 1000 ∧ 0 ≤ t.image ∧ t.image ≤ 1000 ∧ 0 ≤ t.long ∧ t.long ≤ 1000) (K : V → List Blk → Prop) (pre : List UInt8) (hp : pre.length ≤ 1000) (x4 : Int) (x5 : List UInt8) (hK : K (.tup [.one (.dat .str (pre ++ targetsT ts)), .one (.dat .int 0)]) []) : ∀ (d k : Nat), k + d = ts.length → (targetsT (ts.take k)).length ≤ 65 * k →
    goD Γ_meta_ReleaseText tab fn_meta_ReleaseText 0 K (d + 1) meta_ReleaseText_L0 (meta_ReleaseText_S0 (k : Int) (((len ts) : Nat) : Int) ts (pre ++ targetsT (ts.take k)) x4 x5)
  | 0, k, hk, hq => by
    rw [meta_ReleaseText_w0, meta_ReleaseText_vc0 _ _ _ _ _ _ _ _ _ rfl _ rfl, List.take_of_length_le (by omega)]
    exact lt_f (by simp only [len]; omega) hK
  | d + 1, k, hk, hq => by
    have ht := take_step (l := ts) (k := k) (by omega) (Ty.dflt Ty.target)
    have hm : nth ts k (Ty.dflt Ty.target) ∈ ts := by
      have : k < ts.length := by omega
      simp [nth, List.getD_eq_getElem?_getD, this]
    have hx := hn _ hm
    have step : targetsT (ts.take (k + 1)) = targetsT (ts.take k) ++ targetT (nth ts k (Ty.dflt Ty.target)) := by rw [ht]; simp [targetsT]
    rw [meta_ReleaseText_w0, meta_ReleaseText_vc0 _ _ _ _ _ _ _ _ _ rfl _ rfl, toNat_nat]
    obtain ⟨x, hxe⟩ : ∃ x, nth ts k (Ty.dflt Ty.target) = x := ⟨_, rfl⟩
    rw [hxe] at hx step ⊢
    have l1 := listT_len [x.unit, x.image, x.long]
    simp only [List.length_cons, List.length_nil] at l1
    have el : (targetT x).length = 2 + (listT [x.unit, x.image, x.long]).length := by simp [targetT]; omega
    have ek : w64 ((k : Int) + 1) = ((k + 1 : Nat) : Int) := w64_succ (by omega)
    rw [ek]
    refine lt_t (by simp only [len]; omega) ⟨⟨by omega, by simp only [len]; omega⟩, ⟨by simp [len], ?_⟩, by simp only [len, List.length_cons, List.length_nil]; omega, by simp only [len, cat, List.length_append, List.length_cons, List.length_nil]; omega, ?_⟩
    · simp only [nums, List.all_cons, List.all_nil, Bool.and_true, Bool.and_eq_true, decide_eq_true_eq]; omega
    · have := loop_meta_ReleaseText ts hl hn K pre hp x4 x5 hK d (k + 1) (by omega) (by rw [step, List.length_append, el]; omega)
      rw [step] at this
      have e : cat (pre ++ targetsT (ts.take k)) (cat [59, 32] (listT [x.unit, x.image, x.long])) = pre ++ (targetsT (ts.take k) ++ targetT x) := by simp [cat, targetT]
      rw [← e] at this
      exact this
set_option maxHeartbeats 4000000 in
theorem run_meta_ReleaseText (v u : Int) (ts : List Vm.Target) (K : V → List Blk → Prop) (hK : K (.tup [.one (.dat .str (releaseTextE v u ts).1), .one (.dat .int (releaseTextE v u ts).2)]) []) : ∃ m, goD Γ_meta_ReleaseText tab fn_meta_ReleaseText 0 K m [.code (bodyOf fn_meta_ReleaseText)] (initSt [.agg [.dat .int v, .dat .int u, .dat (.list .target) ts]] []) := by
  refine ⟨ts.length + 2, ?_⟩
  rw [meta_ReleaseText_w, meta_ReleaseText_vc _ _ _ _ _ _ rfl _ rfl _ rfl]
  unfold releaseTextE at hK
  refine ne_s (fun h => ?_) (fun h => ?_)
  · rw [if_neg h] at hK; exact hK
  rw [if_pos h] at hK
  obtain ⟨h1, h2, h3, h4, h5, h6, h7⟩ := checkRelease_ok h
  have n1 := numT_len v
  have n2 := numT_len u
  refine ⟨by omega, by simp only [len, List.length_cons, List.length_nil]; omega, by simp only [len, cat, List.length_append, List.length_cons, List.length_nil]; omega, by omega, by simp only [len, cat, List.length_append, List.length_cons, List.length_nil]; omega, ?_⟩
  have := loop_meta_ReleaseText ts h6 h7 K ([114, 101, 108, 101, 97, 115, 101, 32] ++ numT v ++ [32, 117, 110, 116, 105, 108, 32] ++ numT u) (by simp only [List.length_append, List.length_cons, List.length_nil]; omega) 0 [] hK ts.length 0 (by omega) (by simp [targetsT])
  rw [show targetsT (ts.take 0) = [] from by simp [targetsT], List.append_nil] at this
  exact this
theorem sound_meta_ReleaseText : SoundC Tryd.prog tab n_meta_ReleaseText c_meta_ReleaseText := soundC_of ok_meta_ReleaseText hf_meta_ReleaseText hB_meta_ReleaseText (by
  intro vs bs p v bs' h hp
  unfold c_meta_ReleaseText at h
  split at h
  · cases h
    exact ⟨by kernel_rfl, rfl, .inl (run_meta_ReleaseText _ _ _ _ ⟨rfl, rfl⟩)⟩
  · cases h)

def c_law_written : Contract := fun vs bs => match vs, bs with
  | [], [] => some (none, .one (.dat .bool true), [])
  | _, _ => none
def Γ_law_written : Ctx := [(n_meta_RootText, c_meta_RootText), (n_meta_ReleaseText, c_meta_ReleaseText), (n_meta_ImageText, c_meta_ImageText), (n_meta_ImageName, c_meta_ImageName)]
theorem ok_law_written : Ok Tryd.prog tab Γ_law_written := ((((ok_nil.consC hf_meta_ImageName hB_meta_ImageName sound_meta_ImageName).consC hf_meta_ImageText hB_meta_ImageText sound_meta_ImageText).consC hf_meta_ReleaseText hB_meta_ReleaseText sound_meta_ReleaseText).consC hf_meta_RootText hB_meta_RootText sound_meta_RootText)
theorem law_written_vc (rec : List It → St → Prop) (K : V → List Blk → Prop) v0 (hv0 : v0 = (imageText ((7 : Int) :: ((0 : Int) :: [])))) v1 (hv1 : v1 = (indexS v0 (((120 : UInt8) :: []) :: (((105 : UInt8) :: ((109 : UInt8) :: ((97 : UInt8) :: ((103 : UInt8) :: ((101 : UInt8) :: ((32 : UInt8) :: ((55 : UInt8) :: ((32 : UInt8) :: ((48 : UInt8) :: []))))))))) :: [])))) : segD Γ_law_written tab fn_law_written 0 K rec [.code (bodyOf fn_law_written)] (initSt [] []) = (
    ((List.length (((120 : UInt8) :: []) :: (((105 : UInt8) :: ((109 : UInt8) :: ((97 : UInt8) :: ((103 : UInt8) :: ((101 : UInt8) :: ((32 : UInt8) :: ((55 : UInt8) :: ((32 : UInt8) :: ((48 : UInt8) :: []))))))))) :: []))) ≤ 140737488355328) ∧
    (K (.one (.dat Ty.bool (eqi (v1 + (1 : Int)) (2 : Int)))) [])) := by subst hv1; subst hv0; kernel_rfl
theorem law_written_w (m : Nat) (K : V → List Blk → Prop) : goD Γ_law_written tab fn_law_written 0 K (m + 1) [.code (bodyOf fn_law_written)] (initSt [] []) = segD Γ_law_written tab fn_law_written 0 K (goD Γ_law_written tab fn_law_written 0 K m) [.code (bodyOf fn_law_written)] (initSt [] []) := rfl

set_option maxHeartbeats 4000000 in
theorem run_law_written  (K : V → List Blk → Prop) (hK : K (.one (.dat .bool true)) []) : ∃ m, goD Γ_law_written tab fn_law_written 0 K m [.code (bodyOf fn_law_written)] (initSt [] []) := by
  refine ⟨1, ?_⟩
  rw [law_written_w, law_written_vc _ _ _ rfl _ rfl]
  refine ⟨by decide, ?_⟩
  exact hK
theorem sound_law_written : SoundC Tryd.prog tab n_law_written c_law_written := soundC_of ok_law_written hf_law_written hB_law_written (by
  intro vs bs p v bs' h hp
  unfold c_law_written at h
  split at h
  · cases h
    exact ⟨by kernel_rfl, rfl, .inl (run_law_written  _ ⟨rfl, rfl⟩)⟩
  · cases h)

def c_ref_NameOf : Contract := fun vs bs => match vs, bs with
  | [.agg [.dat (.list .str) l], .one (.dat .str s)], [] => some (some (l.length ≤ 60), .one (.dat .int (indexS s l + 1)), [])
  | _, _ => none
def Γ_ref_NameOf : Ctx := []
theorem ok_ref_NameOf : Ok Tryd.prog tab Γ_ref_NameOf := ok_nil
noncomputable def ref_NameOf_L0 : List It := [.inLoop [10, 9, 8, 4, 1] (Code.sub (bodyOf fn_ref_NameOf) [1, 0, 1, 0, 0]), .inBlock 0, .code (Code.sub (bodyOf fn_ref_NameOf) [1, 1])]
def ref_NameOf_S0 (x0 : Int) (x1 : Int) (x2 : (List (List UInt8))) (x3 : Int) (x4 : (List UInt8)) : St := ⟨[(10, .one (.dat Ty.int x0)), (9, .one (.dat Ty.int x1)), (8, .one (.dat (Ty.list Ty.str) x2)), (4, .one (.dat Ty.int x3)), (1, .one (.dat Ty.str x4))], [], 0⟩
theorem ref_NameOf_vc (l : List (List UInt8)) (s : List UInt8) (rec : List It → St → Prop) (K : V → List Blk → Prop) : segD Γ_ref_NameOf tab fn_ref_NameOf 0 K rec [.code (bodyOf fn_ref_NameOf)] (initSt [.agg [.dat (Ty.list Ty.str) l], .one (.dat Ty.str s)] []) = (
    rec ref_NameOf_L0 (ref_NameOf_S0 (0 : Int) (((len l) : Nat) : Int) l (0 : Int) s)) := by kernel_rfl
theorem ref_NameOf_w (l : List (List UInt8)) (s : List UInt8) (m : Nat) (K : V → List Blk → Prop) : goD Γ_ref_NameOf tab fn_ref_NameOf 0 K (m + 1) [.code (bodyOf fn_ref_NameOf)] (initSt [.agg [.dat (Ty.list Ty.str) l], .one (.dat Ty.str s)] []) = segD Γ_ref_NameOf tab fn_ref_NameOf 0 K (goD Γ_ref_NameOf tab fn_ref_NameOf 0 K m) [.code (bodyOf fn_ref_NameOf)] (initSt [.agg [.dat (Ty.list Ty.str) l], .one (.dat Ty.str s)] []) := rfl
theorem ref_NameOf_vc0 (x0 : Int) (x1 : Int) (x2 : (List (List UInt8))) (x3 : Int) (x4 : (List UInt8)) (rec : List It → St → Prop) (K : V → List Blk → Prop) : segD Γ_ref_NameOf tab fn_ref_NameOf 0 K rec (.code (Code.sub (bodyOf fn_ref_NameOf) [1, 0, 1, 0, 0]) :: ref_NameOf_L0) (ref_NameOf_S0 x0 x1 x2 x3 x4) = (
    br (lti x0 x1)
     ((((0 : Int) ≤ x0) ∧ (x0 < (((len x2) : Nat) : Int))) ∧
      (br (eqs (nth x2 (Int.toNat x0) (Ty.dflt Ty.str)) x4)
       (K (.one (.dat Ty.int (w64 (x0 + (1 : Int))))) [])
       (rec ref_NameOf_L0 (ref_NameOf_S0 (w64 (x0 + (1 : Int))) x1 x2 x3 x4))))
     (K (.one (.dat Ty.int (0 : Int))) [])) := by kernel_rfl
theorem ref_NameOf_w0 (x0 : Int) (x1 : Int) (x2 : (List (List UInt8))) (x3 : Int) (x4 : (List UInt8)) (m : Nat) (K : V → List Blk → Prop) : goD Γ_ref_NameOf tab fn_ref_NameOf 0 K (m + 1) ref_NameOf_L0 (ref_NameOf_S0 x0 x1 x2 x3 x4) = segD Γ_ref_NameOf tab fn_ref_NameOf 0 K (goD Γ_ref_NameOf tab fn_ref_NameOf 0 K m) (.code (Code.sub (bodyOf fn_ref_NameOf) [1, 0, 1, 0, 0]) :: ref_NameOf_L0) (ref_NameOf_S0 x0 x1 x2 x3 x4) := rfl

theorem loop_ref_NameOf (l : List (List UInt8)) (s : List UInt8) (hl : l.length ≤ 60) (K : V → List Blk → Prop) : ∀ (d k : Nat), k + d = l.length → K (.one (.dat .int (indexFrom k s (l.drop k) + 1))) [] →
    goD Γ_ref_NameOf tab fn_ref_NameOf 0 K (d + 1) ref_NameOf_L0 (ref_NameOf_S0 (k : Int) (((len l) : Nat) : Int) l 0 s)
  | 0, k, hk, hK => by
    rw [ref_NameOf_w0, ref_NameOf_vc0 _ _ _ _ _ _ _]
    rw [List.drop_of_length_le (by omega)] at hK
    exact lt_f (by simp only [len]; omega) hK
  | d + 1, k, hk, hK => by
    rw [ref_NameOf_w0, ref_NameOf_vc0 _ _ _ _ _ _ _, toNat_nat, w64_succ (by omega)]
    rw [drop_step (by omega) (Ty.dflt Ty.str)] at hK
    simp only [indexFrom] at hK
    refine lt_t (by simp only [len]; omega) ⟨⟨by omega, by simp only [len]; omega⟩, br_split (fun h => ?_) (fun h => ?_)⟩
    · rw [eqs_true] at h
      rw [if_pos h] at hK; exact hK
    · rw [eqs_false] at h
      rw [if_neg h] at hK
      exact loop_ref_NameOf l s hl K d (k + 1) (by omega) hK
set_option maxHeartbeats 4000000 in
theorem run_ref_NameOf (l : List (List UInt8)) (s : List UInt8) (hp : l.length ≤ 60) (K : V → List Blk → Prop) (hK : K (.one (.dat .int (indexS s l + 1))) []) : ∃ m, goD Γ_ref_NameOf tab fn_ref_NameOf 0 K m [.code (bodyOf fn_ref_NameOf)] (initSt [.agg [.dat (.list .str) l], .one (.dat .str s)] []) := by
  refine ⟨l.length + 2, ?_⟩
  rw [ref_NameOf_w, ref_NameOf_vc _ _ _ _]
  exact loop_ref_NameOf l s hp K l.length 0 (by omega) hK
theorem sound_ref_NameOf : SoundC Tryd.prog tab n_ref_NameOf c_ref_NameOf := soundC_of ok_ref_NameOf hf_ref_NameOf hB_ref_NameOf (by
  intro vs bs p v bs' h hp
  unfold c_ref_NameOf at h
  split at h
  · cases h
    exact ⟨by kernel_rfl, rfl, .inl (run_ref_NameOf _ _ hp.1 _ ⟨rfl, rfl⟩)⟩
  · cases h)

def c_flash_Program_1 : Contract := fun vs bs => match vs, bs with
  | [.one (.dat .int w)], [] => some (none, .one (.dat .bool (!okWord w)), [])
  | _, _ => none
def Γ_flash_Program_1 : Ctx := []
theorem ok_flash_Program_1 : Ok Tryd.prog tab Γ_flash_Program_1 := ok_nil
theorem flash_Program_1_vc (w : Int) (rec : List It → St → Prop) (K : V → List Blk → Prop) : segD Γ_flash_Program_1 tab fn_flash_Program_1 0 K rec [.code (bodyOf fn_flash_Program_1)] (initSt [.one (.dat Ty.int w)] []) = (
    br (lti w (0 : Int))
     (K (.one (.dat Ty.bool true)) [])
     (K (.one (.dat Ty.bool (lti (65535 : Int) w))) [])) := by kernel_rfl
theorem flash_Program_1_w (w : Int) (m : Nat) (K : V → List Blk → Prop) : goD Γ_flash_Program_1 tab fn_flash_Program_1 0 K (m + 1) [.code (bodyOf fn_flash_Program_1)] (initSt [.one (.dat Ty.int w)] []) = segD Γ_flash_Program_1 tab fn_flash_Program_1 0 K (goD Γ_flash_Program_1 tab fn_flash_Program_1 0 K m) [.code (bodyOf fn_flash_Program_1)] (initSt [.one (.dat Ty.int w)] []) := rfl

set_option maxHeartbeats 4000000 in
theorem run_flash_Program_1 (w : Int) (K : V → List Blk → Prop) (hK : K (.one (.dat .bool (!okWord w))) []) : ∃ m, goD Γ_flash_Program_1 tab fn_flash_Program_1 0 K m [.code (bodyOf fn_flash_Program_1)] (initSt [.one (.dat .int w)] []) := by
  refine ⟨1, ?_⟩
  rw [flash_Program_1_w, flash_Program_1_vc _ _ _]
  refine lt_s (fun h => ?_) (fun h => ?_)
  · rw [show (!okWord w) = true from by simp [okWord]; omega] at hK; exact hK
  · rw [show (!okWord w) = lti 65535 w from by simp [okWord, lti, h]; by_cases h2 : w ≤ 65535 <;> simp [h2] <;> omega] at hK; exact hK
theorem sound_flash_Program_1 : SoundC Tryd.prog tab n_flash_Program_1 c_flash_Program_1 := soundC_of ok_flash_Program_1 hf_flash_Program_1 hB_flash_Program_1 (by
  intro vs bs p v bs' h hp
  unfold c_flash_Program_1 at h
  split at h
  · cases h
    exact ⟨by kernel_rfl, rfl, .inl (run_flash_Program_1 _ _ ⟨rfl, rfl⟩)⟩
  · cases h)

def c_ref_IsWord : Contract := fun vs bs => match vs, bs with
  | [.one (.dat .int w)], [] => some (none, .one (.dat .bool (okWord w)), [])
  | _, _ => none
def Γ_ref_IsWord : Ctx := []
theorem ok_ref_IsWord : Ok Tryd.prog tab Γ_ref_IsWord := ok_nil
theorem ref_IsWord_vc (w : Int) (rec : List It → St → Prop) (K : V → List Blk → Prop) : segD Γ_ref_IsWord tab fn_ref_IsWord 0 K rec [.code (bodyOf fn_ref_IsWord)] (initSt [.one (.dat Ty.int w)] []) = (
    br (lei (0 : Int) w)
     (K (.one (.dat Ty.bool (lei w (65535 : Int)))) [])
     (K (.one (.dat Ty.bool false)) [])) := by kernel_rfl
theorem ref_IsWord_w (w : Int) (m : Nat) (K : V → List Blk → Prop) : goD Γ_ref_IsWord tab fn_ref_IsWord 0 K (m + 1) [.code (bodyOf fn_ref_IsWord)] (initSt [.one (.dat Ty.int w)] []) = segD Γ_ref_IsWord tab fn_ref_IsWord 0 K (goD Γ_ref_IsWord tab fn_ref_IsWord 0 K m) [.code (bodyOf fn_ref_IsWord)] (initSt [.one (.dat Ty.int w)] []) := rfl

set_option maxHeartbeats 4000000 in
theorem run_ref_IsWord (w : Int) (K : V → List Blk → Prop) (hK : K (.one (.dat .bool (okWord w))) []) : ∃ m, goD Γ_ref_IsWord tab fn_ref_IsWord 0 K m [.code (bodyOf fn_ref_IsWord)] (initSt [.one (.dat .int w)] []) := by
  refine ⟨1, ?_⟩
  rw [ref_IsWord_w, ref_IsWord_vc _ _ _]
  refine br_split (fun h => ?_) (fun h => ?_)
  · rw [show okWord w = lei w 65535 from by rw [lei_true] at h; simp [okWord, lei, h]] at hK; exact hK
  · rw [show okWord w = false from by rw [lei_false] at h; simp [okWord]; omega] at hK; exact hK
theorem sound_ref_IsWord : SoundC Tryd.prog tab n_ref_IsWord c_ref_IsWord := soundC_of ok_ref_IsWord hf_ref_IsWord hB_ref_IsWord (by
  intro vs bs p v bs' h hp
  unfold c_ref_IsWord at h
  split at h
  · cases h
    exact ⟨by kernel_rfl, rfl, .inl (run_ref_IsWord _ _ ⟨rfl, rfl⟩)⟩
  · cases h)

def c_ref_allWords_1 : Contract := fun vs bs => match vs, bs with
  | [.one (.dat .int w)], [] => some (none, .one (.dat .bool (!okWord w)), [])
  | _, _ => none
def Γ_ref_allWords_1 : Ctx := [(n_ref_IsWord, c_ref_IsWord)]
theorem ok_ref_allWords_1 : Ok Tryd.prog tab Γ_ref_allWords_1 := (ok_nil.consC hf_ref_IsWord hB_ref_IsWord sound_ref_IsWord)
theorem ref_allWords_1_vc (w : Int) (rec : List It → St → Prop) (K : V → List Blk → Prop) v0 (hv0 : v0 = (okWord w)) : segD Γ_ref_allWords_1 tab fn_ref_allWords_1 0 K rec [.code (bodyOf fn_ref_allWords_1)] (initSt [.one (.dat Ty.int w)] []) = (
    K (.one (.dat Ty.bool (!v0))) []) := by subst hv0; kernel_rfl
theorem ref_allWords_1_w (w : Int) (m : Nat) (K : V → List Blk → Prop) : goD Γ_ref_allWords_1 tab fn_ref_allWords_1 0 K (m + 1) [.code (bodyOf fn_ref_allWords_1)] (initSt [.one (.dat Ty.int w)] []) = segD Γ_ref_allWords_1 tab fn_ref_allWords_1 0 K (goD Γ_ref_allWords_1 tab fn_ref_allWords_1 0 K m) [.code (bodyOf fn_ref_allWords_1)] (initSt [.one (.dat Ty.int w)] []) := rfl

set_option maxHeartbeats 4000000 in
theorem run_ref_allWords_1 (w : Int) (K : V → List Blk → Prop) (hK : K (.one (.dat .bool (!okWord w))) []) : ∃ m, goD Γ_ref_allWords_1 tab fn_ref_allWords_1 0 K m [.code (bodyOf fn_ref_allWords_1)] (initSt [.one (.dat .int w)] []) := by
  refine ⟨1, ?_⟩
  rw [ref_allWords_1_w, ref_allWords_1_vc _ _ _ _ rfl]
  exact hK
theorem sound_ref_allWords_1 : SoundC Tryd.prog tab n_ref_allWords_1 c_ref_allWords_1 := soundC_of ok_ref_allWords_1 hf_ref_allWords_1 hB_ref_allWords_1 (by
  intro vs bs p v bs' h hp
  unfold c_ref_allWords_1 at h
  split at h
  · cases h
    exact ⟨by kernel_rfl, rfl, .inl (run_ref_allWords_1 _ _ ⟨rfl, rfl⟩)⟩
  · cases h)

def c_slices_IndexFunc_Lint : Contract := fun vs bs => match vs, bs with
  | [.one (.dat (.list .int) l), .one (.fn f [])], [] => (match Nat.beq f n_flash_Program_1 with | true => some (some (Sm l), .one (.dat .int (firstBad l)), []) | false => (match Nat.beq f n_ref_allWords_1 with | true => some (some (Sm l), .one (.dat .int (firstBad l)), []) | false => none))
  | _, _ => none
def Γ_slices_IndexFunc_Lint : Ctx := [(n_flash_Program_1, c_flash_Program_1), (n_ref_allWords_1, c_ref_allWords_1)]
theorem ok_slices_IndexFunc_Lint : Ok Tryd.prog tab Γ_slices_IndexFunc_Lint := ((ok_nil.consC hf_ref_allWords_1 hB_ref_allWords_1 sound_ref_allWords_1).consC hf_flash_Program_1 hB_flash_Program_1 sound_flash_Program_1)
noncomputable def slices_IndexFunc_Lint_0_L0 : List It := [.inLoop [8, 7, 4, 0, 1] (Code.sub (bodyOf fn_slices_IndexFunc_Lint) [1, 0, 1, 0, 0]), .inBlock 0, .code (Code.sub (bodyOf fn_slices_IndexFunc_Lint) [1, 1])]
def slices_IndexFunc_Lint_0_S0 (x0 : Int) (x1 : Int) (x2 : Int) (x3 : (List Int)) : St := ⟨[(8, .one (.dat Ty.int x0)), (7, .one (.dat Ty.int x1)), (4, .one (.dat Ty.int x2)), (0, .one (.dat (Ty.list Ty.int) x3)), (1, .one (.fn n_flash_Program_1 []))], [], 0⟩
theorem slices_IndexFunc_Lint_0_vc (l : List Int) (rec : List It → St → Prop) (K : V → List Blk → Prop) : segD Γ_slices_IndexFunc_Lint tab fn_slices_IndexFunc_Lint 0 K rec [.code (bodyOf fn_slices_IndexFunc_Lint)] (initSt [.one (.dat (Ty.list Ty.int) l), .one (.fn n_flash_Program_1 [])] []) = (
    rec slices_IndexFunc_Lint_0_L0 (slices_IndexFunc_Lint_0_S0 (0 : Int) (((len l) : Nat) : Int) (0 : Int) l)) := by kernel_rfl
theorem slices_IndexFunc_Lint_0_w (l : List Int) (m : Nat) (K : V → List Blk → Prop) : goD Γ_slices_IndexFunc_Lint tab fn_slices_IndexFunc_Lint 0 K (m + 1) [.code (bodyOf fn_slices_IndexFunc_Lint)] (initSt [.one (.dat (Ty.list Ty.int) l), .one (.fn n_flash_Program_1 [])] []) = segD Γ_slices_IndexFunc_Lint tab fn_slices_IndexFunc_Lint 0 K (goD Γ_slices_IndexFunc_Lint tab fn_slices_IndexFunc_Lint 0 K m) [.code (bodyOf fn_slices_IndexFunc_Lint)] (initSt [.one (.dat (Ty.list Ty.int) l), .one (.fn n_flash_Program_1 [])] []) := rfl
theorem slices_IndexFunc_Lint_0_vc0 (x0 : Int) (x1 : Int) (x2 : Int) (x3 : (List Int)) (rec : List It → St → Prop) (K : V → List Blk → Prop) v0 (hv0 : v0 = (okWord (nth x3 (Int.toNat x0) (Ty.dflt Ty.int)))) : segD Γ_slices_IndexFunc_Lint tab fn_slices_IndexFunc_Lint 0 K rec (.code (Code.sub (bodyOf fn_slices_IndexFunc_Lint) [1, 0, 1, 0, 0]) :: slices_IndexFunc_Lint_0_L0) (slices_IndexFunc_Lint_0_S0 x0 x1 x2 x3) = (
    br (lti x0 x1)
     ((((0 : Int) ≤ x0) ∧ (x0 < (((len x3) : Nat) : Int))) ∧
      (br (!v0)
       (K (.one (.dat Ty.int x0)) [])
       (rec slices_IndexFunc_Lint_0_L0 (slices_IndexFunc_Lint_0_S0 (w64 (x0 + (1 : Int))) x1 x2 x3))))
     (K (.one (.dat Ty.int (-(1 : Int)))) [])) := by subst hv0; kernel_rfl
theorem slices_IndexFunc_Lint_0_w0 (x0 : Int) (x1 : Int) (x2 : Int) (x3 : (List Int)) (m : Nat) (K : V → List Blk → Prop) : goD Γ_slices_IndexFunc_Lint tab fn_slices_IndexFunc_Lint 0 K (m + 1) slices_IndexFunc_Lint_0_L0 (slices_IndexFunc_Lint_0_S0 x0 x1 x2 x3) = segD Γ_slices_IndexFunc_Lint tab fn_slices_IndexFunc_Lint 0 K (goD Γ_slices_IndexFunc_Lint tab fn_slices_IndexFunc_Lint 0 K m) (.code (Code.sub (bodyOf fn_slices_IndexFunc_Lint) [1, 0, 1, 0, 0]) :: slices_IndexFunc_Lint_0_L0) (slices_IndexFunc_Lint_0_S0 x0 x1 x2 x3) := rfl

noncomputable def slices_IndexFunc_Lint_1_L0 : List It := [.inLoop [8, 7, 4, 0, 1] (Code.sub (bodyOf fn_slices_IndexFunc_Lint) [1, 0, 1, 0, 0]), .inBlock 0, .code (Code.sub (bodyOf fn_slices_IndexFunc_Lint) [1, 1])]
def slices_IndexFunc_Lint_1_S0 (x0 : Int) (x1 : Int) (x2 : Int) (x3 : (List Int)) : St := ⟨[(8, .one (.dat Ty.int x0)), (7, .one (.dat Ty.int x1)), (4, .one (.dat Ty.int x2)), (0, .one (.dat (Ty.list Ty.int) x3)), (1, .one (.fn n_ref_allWords_1 []))], [], 0⟩
theorem slices_IndexFunc_Lint_1_vc (l : List Int) (rec : List It → St → Prop) (K : V → List Blk → Prop) : segD Γ_slices_IndexFunc_Lint tab fn_slices_IndexFunc_Lint 0 K rec [.code (bodyOf fn_slices_IndexFunc_Lint)] (initSt [.one (.dat (Ty.list Ty.int) l), .one (.fn n_ref_allWords_1 [])] []) = (
    rec slices_IndexFunc_Lint_1_L0 (slices_IndexFunc_Lint_1_S0 (0 : Int) (((len l) : Nat) : Int) (0 : Int) l)) := by kernel_rfl
theorem slices_IndexFunc_Lint_1_w (l : List Int) (m : Nat) (K : V → List Blk → Prop) : goD Γ_slices_IndexFunc_Lint tab fn_slices_IndexFunc_Lint 0 K (m + 1) [.code (bodyOf fn_slices_IndexFunc_Lint)] (initSt [.one (.dat (Ty.list Ty.int) l), .one (.fn n_ref_allWords_1 [])] []) = segD Γ_slices_IndexFunc_Lint tab fn_slices_IndexFunc_Lint 0 K (goD Γ_slices_IndexFunc_Lint tab fn_slices_IndexFunc_Lint 0 K m) [.code (bodyOf fn_slices_IndexFunc_Lint)] (initSt [.one (.dat (Ty.list Ty.int) l), .one (.fn n_ref_allWords_1 [])] []) := rfl
theorem slices_IndexFunc_Lint_1_vc0 (x0 : Int) (x1 : Int) (x2 : Int) (x3 : (List Int)) (rec : List It → St → Prop) (K : V → List Blk → Prop) v0 (hv0 : v0 = (okWord (nth x3 (Int.toNat x0) (Ty.dflt Ty.int)))) : segD Γ_slices_IndexFunc_Lint tab fn_slices_IndexFunc_Lint 0 K rec (.code (Code.sub (bodyOf fn_slices_IndexFunc_Lint) [1, 0, 1, 0, 0]) :: slices_IndexFunc_Lint_1_L0) (slices_IndexFunc_Lint_1_S0 x0 x1 x2 x3) = (
    br (lti x0 x1)
     ((((0 : Int) ≤ x0) ∧ (x0 < (((len x3) : Nat) : Int))) ∧
      (br (!v0)
       (K (.one (.dat Ty.int x0)) [])
       (rec slices_IndexFunc_Lint_1_L0 (slices_IndexFunc_Lint_1_S0 (w64 (x0 + (1 : Int))) x1 x2 x3))))
     (K (.one (.dat Ty.int (-(1 : Int)))) [])) := by subst hv0; kernel_rfl
theorem slices_IndexFunc_Lint_1_w0 (x0 : Int) (x1 : Int) (x2 : Int) (x3 : (List Int)) (m : Nat) (K : V → List Blk → Prop) : goD Γ_slices_IndexFunc_Lint tab fn_slices_IndexFunc_Lint 0 K (m + 1) slices_IndexFunc_Lint_1_L0 (slices_IndexFunc_Lint_1_S0 x0 x1 x2 x3) = segD Γ_slices_IndexFunc_Lint tab fn_slices_IndexFunc_Lint 0 K (goD Γ_slices_IndexFunc_Lint tab fn_slices_IndexFunc_Lint 0 K m) (.code (Code.sub (bodyOf fn_slices_IndexFunc_Lint) [1, 0, 1, 0, 0]) :: slices_IndexFunc_Lint_1_L0) (slices_IndexFunc_Lint_1_S0 x0 x1 x2 x3) := rfl

theorem loop_slices_IndexFunc_Lint_0 (l : List Int) (hs : Sm l) (K : V → List Blk → Prop) : ∀ (d k : Nat), k + d = l.length → K (.one (.dat .int (firstBadFrom k (l.drop k)))) [] →
    goD Γ_slices_IndexFunc_Lint tab fn_slices_IndexFunc_Lint 0 K (d + 1) slices_IndexFunc_Lint_0_L0 (slices_IndexFunc_Lint_0_S0 (k : Int) (((len l) : Nat) : Int) 0 l)
  | 0, k, hk, hK => by
    rw [slices_IndexFunc_Lint_0_w0, slices_IndexFunc_Lint_0_vc0 _ _ _ _ _ _ _ rfl]
    refine lt_f (by simp only [len]; omega) ?_
    rw [List.drop_of_length_le (by omega)] at hK
    exact hK
  | d + 1, k, hk, hK => by
    have hs' := hs
    unfold Sm at hs'
    rw [slices_IndexFunc_Lint_0_w0, slices_IndexFunc_Lint_0_vc0 _ _ _ _ _ _ _ rfl]
    rw [drop_step (by omega) (Ty.dflt Ty.int)] at hK
    simp only [firstBadFrom] at hK
    refine lt_t (by simp only [len]; omega) ⟨⟨by omega, by simp only [len]; omega⟩, nt_s (fun h => ?_) (fun h => ?_)⟩
    · rw [toNat_nat] at h
      rw [if_neg (by rw [h]; simp)] at hK
      exact hK
    · rw [toNat_nat] at h
      rw [if_pos h] at hK
      rw [w64_succ (by omega)]
      exact loop_slices_IndexFunc_Lint_0 l hs K d (k + 1) (by omega) hK
set_option maxHeartbeats 4000000 in
theorem run_slices_IndexFunc_Lint_0 (l : List Int) (hp : Sm l) (K : V → List Blk → Prop) (hK : K (.one (.dat .int (firstBad l))) []) : ∃ m, goD Γ_slices_IndexFunc_Lint tab fn_slices_IndexFunc_Lint 0 K m [.code (bodyOf fn_slices_IndexFunc_Lint)] (initSt [.one (.dat (.list .int) l), .one (.fn n_flash_Program_1 [])] []) := by
  refine ⟨l.length + 2, ?_⟩
  rw [slices_IndexFunc_Lint_0_w, slices_IndexFunc_Lint_0_vc _ _ _]
  exact loop_slices_IndexFunc_Lint_0 l hp K l.length 0 (by omega) hK
theorem loop_slices_IndexFunc_Lint_1 (l : List Int) (hs : Sm l) (K : V → List Blk → Prop) : ∀ (d k : Nat), k + d = l.length → K (.one (.dat .int (firstBadFrom k (l.drop k)))) [] →
    goD Γ_slices_IndexFunc_Lint tab fn_slices_IndexFunc_Lint 0 K (d + 1) slices_IndexFunc_Lint_1_L0 (slices_IndexFunc_Lint_1_S0 (k : Int) (((len l) : Nat) : Int) 0 l)
  | 0, k, hk, hK => by
    rw [slices_IndexFunc_Lint_1_w0, slices_IndexFunc_Lint_1_vc0 _ _ _ _ _ _ _ rfl]
    refine lt_f (by simp only [len]; omega) ?_
    rw [List.drop_of_length_le (by omega)] at hK
    exact hK
  | d + 1, k, hk, hK => by
    have hs' := hs
    unfold Sm at hs'
    rw [slices_IndexFunc_Lint_1_w0, slices_IndexFunc_Lint_1_vc0 _ _ _ _ _ _ _ rfl]
    rw [drop_step (by omega) (Ty.dflt Ty.int)] at hK
    simp only [firstBadFrom] at hK
    refine lt_t (by simp only [len]; omega) ⟨⟨by omega, by simp only [len]; omega⟩, nt_s (fun h => ?_) (fun h => ?_)⟩
    · rw [toNat_nat] at h
      rw [if_neg (by rw [h]; simp)] at hK
      exact hK
    · rw [toNat_nat] at h
      rw [if_pos h] at hK
      rw [w64_succ (by omega)]
      exact loop_slices_IndexFunc_Lint_1 l hs K d (k + 1) (by omega) hK
set_option maxHeartbeats 4000000 in
theorem run_slices_IndexFunc_Lint_1 (l : List Int) (hp : Sm l) (K : V → List Blk → Prop) (hK : K (.one (.dat .int (firstBad l))) []) : ∃ m, goD Γ_slices_IndexFunc_Lint tab fn_slices_IndexFunc_Lint 0 K m [.code (bodyOf fn_slices_IndexFunc_Lint)] (initSt [.one (.dat (.list .int) l), .one (.fn n_ref_allWords_1 [])] []) := by
  refine ⟨l.length + 2, ?_⟩
  rw [slices_IndexFunc_Lint_1_w, slices_IndexFunc_Lint_1_vc _ _ _]
  exact loop_slices_IndexFunc_Lint_1 l hp K l.length 0 (by omega) hK
theorem sound_slices_IndexFunc_Lint : SoundC Tryd.prog tab n_slices_IndexFunc_Lint c_slices_IndexFunc_Lint := soundC_of ok_slices_IndexFunc_Lint hf_slices_IndexFunc_Lint hB_slices_IndexFunc_Lint (by
  intro vs bs p v bs' h hp
  unfold c_slices_IndexFunc_Lint at h
  split at h
  · split at h
    · rename_i hfn
      have hfn := Nat.eq_of_beq_eq_true hfn
      subst hfn
      cases h
      exact ⟨by kernel_rfl, rfl, .inl (run_slices_IndexFunc_Lint_0 _ hp.1 _ ⟨rfl, rfl⟩)⟩
    · split at h
      · rename_i hfn
        have hfn := Nat.eq_of_beq_eq_true hfn
        subst hfn
        cases h
        exact ⟨by kernel_rfl, rfl, .inl (run_slices_IndexFunc_Lint_1 _ hp.1 _ ⟨rfl, rfl⟩)⟩
      · cases h
  · cases h)

def c_slices_ContainsFunc_Lint : Contract := fun vs bs => match vs, bs with
  | [.one (.dat (.list .int) l), .one (.fn f [])], [] => (match Nat.beq f n_flash_Program_1 with | true => some (some (Sm l), .one (.dat .bool (!okWords l)), []) | false => (match Nat.beq f n_ref_allWords_1 with | true => some (some (Sm l), .one (.dat .bool (!okWords l)), []) | false => none))
  | _, _ => none
def Γ_slices_ContainsFunc_Lint : Ctx := [(n_slices_IndexFunc_Lint, c_slices_IndexFunc_Lint), (n_flash_Program_1, c_flash_Program_1), (n_ref_allWords_1, c_ref_allWords_1)]
theorem ok_slices_ContainsFunc_Lint : Ok Tryd.prog tab Γ_slices_ContainsFunc_Lint := (((ok_nil.consC hf_ref_allWords_1 hB_ref_allWords_1 sound_ref_allWords_1).consC hf_flash_Program_1 hB_flash_Program_1 sound_flash_Program_1).consC hf_slices_IndexFunc_Lint hB_slices_IndexFunc_Lint sound_slices_IndexFunc_Lint)
theorem slices_ContainsFunc_Lint_0_vc (l : List Int) (rec : List It → St → Prop) (K : V → List Blk → Prop) v0 (hv0 : v0 = (firstBad l)) : segD Γ_slices_ContainsFunc_Lint tab fn_slices_ContainsFunc_Lint 0 K rec [.code (bodyOf fn_slices_ContainsFunc_Lint)] (initSt [.one (.dat (Ty.list Ty.int) l), .one (.fn n_flash_Program_1 [])] []) = (
    ((List.length l) ≤ 140737488355328) ∧
    (K (.one (.dat Ty.bool (lei (0 : Int) v0))) [])) := by subst hv0; kernel_rfl
theorem slices_ContainsFunc_Lint_0_w (l : List Int) (m : Nat) (K : V → List Blk → Prop) : goD Γ_slices_ContainsFunc_Lint tab fn_slices_ContainsFunc_Lint 0 K (m + 1) [.code (bodyOf fn_slices_ContainsFunc_Lint)] (initSt [.one (.dat (Ty.list Ty.int) l), .one (.fn n_flash_Program_1 [])] []) = segD Γ_slices_ContainsFunc_Lint tab fn_slices_ContainsFunc_Lint 0 K (goD Γ_slices_ContainsFunc_Lint tab fn_slices_ContainsFunc_Lint 0 K m) [.code (bodyOf fn_slices_ContainsFunc_Lint)] (initSt [.one (.dat (Ty.list Ty.int) l), .one (.fn n_flash_Program_1 [])] []) := rfl

theorem slices_ContainsFunc_Lint_1_vc (l : List Int) (rec : List It → St → Prop) (K : V → List Blk → Prop) v0 (hv0 : v0 = (firstBad l)) : segD Γ_slices_ContainsFunc_Lint tab fn_slices_ContainsFunc_Lint 0 K rec [.code (bodyOf fn_slices_ContainsFunc_Lint)] (initSt [.one (.dat (Ty.list Ty.int) l), .one (.fn n_ref_allWords_1 [])] []) = (
    ((List.length l) ≤ 140737488355328) ∧
    (K (.one (.dat Ty.bool (lei (0 : Int) v0))) [])) := by subst hv0; kernel_rfl
theorem slices_ContainsFunc_Lint_1_w (l : List Int) (m : Nat) (K : V → List Blk → Prop) : goD Γ_slices_ContainsFunc_Lint tab fn_slices_ContainsFunc_Lint 0 K (m + 1) [.code (bodyOf fn_slices_ContainsFunc_Lint)] (initSt [.one (.dat (Ty.list Ty.int) l), .one (.fn n_ref_allWords_1 [])] []) = segD Γ_slices_ContainsFunc_Lint tab fn_slices_ContainsFunc_Lint 0 K (goD Γ_slices_ContainsFunc_Lint tab fn_slices_ContainsFunc_Lint 0 K m) [.code (bodyOf fn_slices_ContainsFunc_Lint)] (initSt [.one (.dat (Ty.list Ty.int) l), .one (.fn n_ref_allWords_1 [])] []) := rfl

theorem firstBad_slices_ContainsFunc_Lint : ∀ (l : List Int) (k : Int), 0 ≤ k → lei 0 (firstBadFrom k l) = !okWords l
  | [], k, hk => by simp [firstBadFrom, okWords, lei]
  | w :: l, k, hk => by
    simp only [firstBadFrom, okWords, List.all_cons]
    cases h : okWord w with
    | true => simpa [okWords] using firstBad_slices_ContainsFunc_Lint l (k + 1) (by omega)
    | false => simp [lei, hk]
set_option maxHeartbeats 4000000 in
theorem run_slices_ContainsFunc_Lint_0 (l : List Int) (hp : Sm l) (K : V → List Blk → Prop) (hK : K (.one (.dat .bool (!okWords l))) []) : ∃ m, goD Γ_slices_ContainsFunc_Lint tab fn_slices_ContainsFunc_Lint 0 K m [.code (bodyOf fn_slices_ContainsFunc_Lint)] (initSt [.one (.dat (.list .int) l), .one (.fn n_flash_Program_1 [])] []) := by
  refine ⟨1, ?_⟩
  rw [slices_ContainsFunc_Lint_0_w, slices_ContainsFunc_Lint_0_vc _ _ _ _ rfl]
  refine ⟨hp, ?_⟩
  rw [show lei 0 (firstBad l) = !okWords l from firstBad_slices_ContainsFunc_Lint l 0 (by omega)]
  exact hK
set_option maxHeartbeats 4000000 in
theorem run_slices_ContainsFunc_Lint_1 (l : List Int) (hp : Sm l) (K : V → List Blk → Prop) (hK : K (.one (.dat .bool (!okWords l))) []) : ∃ m, goD Γ_slices_ContainsFunc_Lint tab fn_slices_ContainsFunc_Lint 0 K m [.code (bodyOf fn_slices_ContainsFunc_Lint)] (initSt [.one (.dat (.list .int) l), .one (.fn n_ref_allWords_1 [])] []) := by
  refine ⟨1, ?_⟩
  rw [slices_ContainsFunc_Lint_1_w, slices_ContainsFunc_Lint_1_vc _ _ _ _ rfl]
  refine ⟨hp, ?_⟩
  rw [show lei 0 (firstBad l) = !okWords l from firstBad_slices_ContainsFunc_Lint l 0 (by omega)]
  exact hK
theorem sound_slices_ContainsFunc_Lint : SoundC Tryd.prog tab n_slices_ContainsFunc_Lint c_slices_ContainsFunc_Lint := soundC_of ok_slices_ContainsFunc_Lint hf_slices_ContainsFunc_Lint hB_slices_ContainsFunc_Lint (by
  intro vs bs p v bs' h hp
  unfold c_slices_ContainsFunc_Lint at h
  split at h
  · split at h
    · rename_i hfn
      have hfn := Nat.eq_of_beq_eq_true hfn
      subst hfn
      cases h
      exact ⟨by kernel_rfl, rfl, .inl (run_slices_ContainsFunc_Lint_0 _ hp.1 _ ⟨rfl, rfl⟩)⟩
    · split at h
      · rename_i hfn
        have hfn := Nat.eq_of_beq_eq_true hfn
        subst hfn
        cases h
        exact ⟨by kernel_rfl, rfl, .inl (run_slices_ContainsFunc_Lint_1 _ hp.1 _ ⟨rfl, rfl⟩)⟩
      · cases h
  · cases h)

def c_ref_allWords : Contract := fun vs bs => match vs, bs with
  | [.one (.dat (.list .int) l)], [] => some (some (Sm l), .one (.dat .bool (okWords l)), [])
  | _, _ => none
def Γ_ref_allWords : Ctx := [(n_slices_ContainsFunc_Lint, c_slices_ContainsFunc_Lint), (n_ref_allWords_1, c_ref_allWords_1)]
theorem ok_ref_allWords : Ok Tryd.prog tab Γ_ref_allWords := ((ok_nil.consC hf_ref_allWords_1 hB_ref_allWords_1 sound_ref_allWords_1).consC hf_slices_ContainsFunc_Lint hB_slices_ContainsFunc_Lint sound_slices_ContainsFunc_Lint)
theorem ref_allWords_vc (l : List Int) (rec : List It → St → Prop) (K : V → List Blk → Prop) v0 (hv0 : v0 = (okWords l)) : segD Γ_ref_allWords tab fn_ref_allWords 0 K rec [.code (bodyOf fn_ref_allWords)] (initSt [.one (.dat (Ty.list Ty.int) l)] []) = (
    ((List.length l) ≤ 140737488355328) ∧
    (K (.one (.dat Ty.bool (!(!v0)))) [])) := by subst hv0; kernel_rfl
theorem ref_allWords_w (l : List Int) (m : Nat) (K : V → List Blk → Prop) : goD Γ_ref_allWords tab fn_ref_allWords 0 K (m + 1) [.code (bodyOf fn_ref_allWords)] (initSt [.one (.dat (Ty.list Ty.int) l)] []) = segD Γ_ref_allWords tab fn_ref_allWords 0 K (goD Γ_ref_allWords tab fn_ref_allWords 0 K m) [.code (bodyOf fn_ref_allWords)] (initSt [.one (.dat (Ty.list Ty.int) l)] []) := rfl

set_option maxHeartbeats 4000000 in
theorem run_ref_allWords (l : List Int) (hp : Sm l) (K : V → List Blk → Prop) (hK : K (.one (.dat .bool (okWords l))) []) : ∃ m, goD Γ_ref_allWords tab fn_ref_allWords 0 K m [.code (bodyOf fn_ref_allWords)] (initSt [.one (.dat (.list .int) l)] []) := by
  refine ⟨1, ?_⟩
  rw [ref_allWords_w, ref_allWords_vc _ _ _ _ rfl]
  refine ⟨hp, ?_⟩
  rw [Bool.not_not]
  exact hK
theorem sound_ref_allWords : SoundC Tryd.prog tab n_ref_allWords c_ref_allWords := soundC_of ok_ref_allWords hf_ref_allWords hB_ref_allWords (by
  intro vs bs p v bs' h hp
  unfold c_ref_allWords at h
  split at h
  · cases h
    exact ⟨by kernel_rfl, rfl, .inl (run_ref_allWords _ hp.1 _ ⟨rfl, rfl⟩)⟩
  · cases h)

def c_ref_CheckImage : Contract := fun vs bs => match vs, bs with
  | [.one (.dat (.list .int) l)], [] => some (none, .one (.dat .int (checkImage l)), [])
  | _, _ => none
def Γ_ref_CheckImage : Ctx := [(n_ref_allWords, c_ref_allWords)]
theorem ok_ref_CheckImage : Ok Tryd.prog tab Γ_ref_CheckImage := (ok_nil.consC hf_ref_allWords hB_ref_allWords sound_ref_allWords)
theorem ref_CheckImage_vc (l : List Int) (rec : List It → St → Prop) (K : V → List Blk → Prop) v0 (hv0 : v0 = (okWords l)) : segD Γ_ref_CheckImage tab fn_ref_CheckImage 0 K rec [.code (bodyOf fn_ref_CheckImage)] (initSt [.one (.dat (Ty.list Ty.int) l)] []) = (
    br (lti (((len l) : Nat) : Int) (1 : Int))
     (K (.one (.dat Ty.int (2 : Int))) [])
     (br (lti (40 : Int) (((len l) : Nat) : Int))
       (K (.one (.dat Ty.int (2 : Int))) [])
       (((List.length l) ≤ 140737488355328) ∧
        (br (!v0)
         (K (.one (.dat Ty.int (3 : Int))) [])
         (K (.one (.dat Ty.int (0 : Int))) []))))) := by subst hv0; kernel_rfl
theorem ref_CheckImage_w (l : List Int) (m : Nat) (K : V → List Blk → Prop) : goD Γ_ref_CheckImage tab fn_ref_CheckImage 0 K (m + 1) [.code (bodyOf fn_ref_CheckImage)] (initSt [.one (.dat (Ty.list Ty.int) l)] []) = segD Γ_ref_CheckImage tab fn_ref_CheckImage 0 K (goD Γ_ref_CheckImage tab fn_ref_CheckImage 0 K m) [.code (bodyOf fn_ref_CheckImage)] (initSt [.one (.dat (Ty.list Ty.int) l)] []) := rfl

set_option maxHeartbeats 4000000 in
theorem run_ref_CheckImage (l : List Int) (K : V → List Blk → Prop) (hK : K (.one (.dat .int (checkImage l))) []) : ∃ m, goD Γ_ref_CheckImage tab fn_ref_CheckImage 0 K m [.code (bodyOf fn_ref_CheckImage)] (initSt [.one (.dat (.list .int) l)] []) := by
  refine ⟨1, ?_⟩
  rw [ref_CheckImage_w, ref_CheckImage_vc _ _ _ _ rfl]
  unfold checkImage at hK
  refine lt_s (fun h => ?_) (fun h => lt_s (fun h2 => ?_) (fun h2 => ⟨by simp only [len] at h2; omega, nt_s (fun h3 => ?_) (fun h3 => ?_)⟩))
  · rw [if_pos (by simp only [len] at h; omega)] at hK; exact hK
  · rw [if_pos (by simp only [len] at h2; omega)] at hK; exact hK
  · rw [if_neg (by simp only [len] at h h2; omega), if_neg (by rw [h3]; simp)] at hK; exact hK
  · rw [if_neg (by simp only [len] at h h2; omega), if_pos h3] at hK; exact hK
theorem sound_ref_CheckImage : SoundC Tryd.prog tab n_ref_CheckImage c_ref_CheckImage := soundC_of ok_ref_CheckImage hf_ref_CheckImage hB_ref_CheckImage (by
  intro vs bs p v bs' h hp
  unfold c_ref_CheckImage at h
  split at h
  · cases h
    exact ⟨by kernel_rfl, rfl, .inl (run_ref_CheckImage _ _ ⟨rfl, rfl⟩)⟩
  · cases h)

def c_ref_spaced : Contract := fun vs bs => match vs, bs with
  | [.one (.dat (.list .int) l)], [] => some (some (len l ≤ 1000 ∧ nums l = true), .one (.dat .str (listT l)), [])
  | _, _ => none
def Γ_ref_spaced : Ctx := [(n_strconv_Itoa, c_strconv_Itoa)]
theorem ok_ref_spaced : Ok Tryd.prog tab Γ_ref_spaced := (ok_nil.consC hf_strconv_Itoa hB_strconv_Itoa sound_strconv_Itoa)
noncomputable def ref_spaced_L0 : List It := [.inLoop [8, 7, 6, 3, 2] (Code.sub (bodyOf fn_ref_spaced) [1, 1, 0, 1, 0, 0]), .inBlock 0, .code (Code.sub (bodyOf fn_ref_spaced) [1, 1, 1])]
def ref_spaced_S0 (x0 : Int) (x1 : Int) (x2 : (List Int)) (x3 : (List UInt8)) (x4 : (List UInt8)) : St := ⟨[(8, .one (.dat Ty.int x0)), (7, .one (.dat Ty.int x1)), (6, .one (.dat (Ty.list Ty.int) x2)), (3, .one (.dat Ty.str x3)), (2, .one (.dat Ty.str x4))], [], 0⟩
theorem ref_spaced_vc (l : List Int) (rec : List It → St → Prop) (K : V → List Blk → Prop) : segD Γ_ref_spaced tab fn_ref_spaced 0 K rec [.code (bodyOf fn_ref_spaced)] (initSt [.one (.dat (Ty.list Ty.int) l)] []) = (
    rec ref_spaced_L0 (ref_spaced_S0 (0 : Int) (((len l) : Nat) : Int) l [] [])) := by kernel_rfl
theorem ref_spaced_w (l : List Int) (m : Nat) (K : V → List Blk → Prop) : goD Γ_ref_spaced tab fn_ref_spaced 0 K (m + 1) [.code (bodyOf fn_ref_spaced)] (initSt [.one (.dat (Ty.list Ty.int) l)] []) = segD Γ_ref_spaced tab fn_ref_spaced 0 K (goD Γ_ref_spaced tab fn_ref_spaced 0 K m) [.code (bodyOf fn_ref_spaced)] (initSt [.one (.dat (Ty.list Ty.int) l)] []) := rfl
theorem ref_spaced_vc0 (x0 : Int) (x1 : Int) (x2 : (List Int)) (x3 : (List UInt8)) (x4 : (List UInt8)) (rec : List It → St → Prop) (K : V → List Blk → Prop) v0 (hv0 : v0 = (numT (nth x2 (Int.toNat x0) (Ty.dflt Ty.int)))) : segD Γ_ref_spaced tab fn_ref_spaced 0 K rec (.code (Code.sub (bodyOf fn_ref_spaced) [1, 1, 0, 1, 0, 0]) :: ref_spaced_L0) (ref_spaced_S0 x0 x1 x2 x3 x4) = (
    br (lti x0 x1)
     ((((0 : Int) ≤ x0) ∧ (x0 < (((len x2) : Nat) : Int))) ∧
      (br (lti (0 : Int) x0)
       ((((len x3) + (len ((32 : UInt8) :: []))) ≤ 140737488355328) ∧
        ((((0 : Int) ≤ (nth x2 (Int.toNat x0) (Ty.dflt Ty.int))) ∧ ((nth x2 (Int.toNat x0) (Ty.dflt Ty.int)) ≤ (9223372036854775807 : Int))) ∧
        ((((len (cat x3 ((32 : UInt8) :: []))) + (len v0)) ≤ 140737488355328) ∧
        (rec ref_spaced_L0 (ref_spaced_S0 (w64 (x0 + (1 : Int))) x1 x2 (cat (cat x3 ((32 : UInt8) :: [])) v0) x4)))))
       ((((0 : Int) ≤ (nth x2 (Int.toNat x0) (Ty.dflt Ty.int))) ∧ ((nth x2 (Int.toNat x0) (Ty.dflt Ty.int)) ≤ (9223372036854775807 : Int))) ∧
        ((((len x3) + (len v0)) ≤ 140737488355328) ∧
        (rec ref_spaced_L0 (ref_spaced_S0 (w64 (x0 + (1 : Int))) x1 x2 (cat x3 v0) x4))))))
     (K (.one (.dat Ty.str x3)) [])) := by subst hv0; kernel_rfl
theorem ref_spaced_w0 (x0 : Int) (x1 : Int) (x2 : (List Int)) (x3 : (List UInt8)) (x4 : (List UInt8)) (m : Nat) (K : V → List Blk → Prop) : goD Γ_ref_spaced tab fn_ref_spaced 0 K (m + 1) ref_spaced_L0 (ref_spaced_S0 x0 x1 x2 x3 x4) = segD Γ_ref_spaced tab fn_ref_spaced 0 K (goD Γ_ref_spaced tab fn_ref_spaced 0 K m) (.code (Code.sub (bodyOf fn_ref_spaced) [1, 1, 0, 1, 0, 0]) :: ref_spaced_L0) (ref_spaced_S0 x0 x1 x2 x3 x4) := rfl

theorem loop_ref_spaced (l : List Int) (hl : l.length ≤ 1000) (hn : nums l = true) (K : V → List Blk → Prop) (hK : K (.one (.dat .str (listT l))) []) (y : List UInt8) : ∀ (d k : Nat), k + d = l.length →
    goD Γ_ref_spaced tab fn_ref_spaced 0 K (d + 1) ref_spaced_L0 (ref_spaced_S0 (k : Int) (((len l) : Nat) : Int) l (listT (l.take k)) y)
  | 0, k, hk => by
    rw [ref_spaced_w0, ref_spaced_vc0 _ _ _ _ _ _ _ _ rfl, List.take_of_length_le (by omega)]
    exact lt_f (by simp only [len]; omega) hK
  | d + 1, k, hk => by
    rw [ref_spaced_w0, ref_spaced_vc0 _ _ _ _ _ _ _ _ rfl, toNat_nat]
    have hm : nth l k (Ty.dflt Ty.int) ∈ l := by
      have : k < l.length := by omega
      simp [nth, List.getD_eq_getElem?_getD, this]
    have ht := take_step (l := l) (k := k) (by omega) (Ty.dflt Ty.int)
    have h0 := listT_len (l.take k)
    have hlk : (l.take k).length = k := by rw [List.length_take]; omega
    obtain ⟨x, hx⟩ : ∃ x, nth l k (Ty.dflt Ty.int) = x := ⟨_, rfl⟩
    rw [hx] at hm ht ⊢
    have h1 := List.all_eq_true.1 hn _ hm
    have h2 := numT_len x
    simp only [Bool.and_eq_true, decide_eq_true_eq] at h1
    have ek : w64 ((k : Int) + 1) = ((k + 1 : Nat) : Int) := w64_succ (by omega)
    rw [ek]
    refine lt_t (by simp only [len]; omega) ⟨⟨by omega, by simp only [len]; omega⟩, lt_s (fun h3 => ?_) (fun h3 => ?_)⟩
    · refine ⟨by simp only [len, List.length_cons, List.length_nil]; omega, h1, by simp only [len, cat, List.length_append, List.length_cons, List.length_nil]; omega, ?_⟩
      rw [show cat (cat (listT (l.take k)) [32]) (numT x) = listT (l.take (k + 1)) from by rw [ht, listT_snoc (by intro e; rw [e] at hlk; simp at hlk; omega)]; rfl]
      exact loop_ref_spaced l hl hn K hK y d (k + 1) (by omega)
    · have : k = 0 := by omega
      subst this
      refine ⟨h1, by simp only [len]; omega, ?_⟩
      rw [show cat (listT (l.take 0)) (numT x) = listT (l.take (0 + 1)) from by rw [ht]; rfl]
      exact loop_ref_spaced l hl hn K hK y d (0 + 1) (by omega)
set_option maxHeartbeats 4000000 in
theorem run_ref_spaced (l : List Int) (hp : len l ≤ 1000 ∧ nums l = true) (K : V → List Blk → Prop) (hK : K (.one (.dat .str (listT l))) []) : ∃ m, goD Γ_ref_spaced tab fn_ref_spaced 0 K m [.code (bodyOf fn_ref_spaced)] (initSt [.one (.dat (.list .int) l)] []) := by
  refine ⟨l.length + 2, ?_⟩
  rw [ref_spaced_w, ref_spaced_vc _ _ _]
  exact loop_ref_spaced l hp.1 hp.2 K hK [] l.length 0 (by omega)
theorem sound_ref_spaced : SoundC Tryd.prog tab n_ref_spaced c_ref_spaced := soundC_of ok_ref_spaced hf_ref_spaced hB_ref_spaced (by
  intro vs bs p v bs' h hp
  unfold c_ref_spaced at h
  split at h
  · cases h
    exact ⟨by kernel_rfl, rfl, .inl (run_ref_spaced _ hp.1 _ ⟨rfl, rfl⟩)⟩
  · cases h)

def c_ref_ImageText : Contract := fun vs bs => match vs, bs with
  | [.one (.dat (.list .int) l)], [] => some (some (checkImage l = 0), .one (.dat .str (imageText l)), [])
  | _, _ => none
def Γ_ref_ImageText : Ctx := [(n_ref_spaced, c_ref_spaced)]
theorem ok_ref_ImageText : Ok Tryd.prog tab Γ_ref_ImageText := (ok_nil.consC hf_ref_spaced hB_ref_spaced sound_ref_spaced)
theorem ref_ImageText_vc (l : List Int) (rec : List It → St → Prop) (K : V → List Blk → Prop) v0 (hv0 : v0 = (nums l)) v1 (hv1 : v1 = (listT l)) : segD Γ_ref_ImageText tab fn_ref_ImageText 0 K rec [.code (bodyOf fn_ref_ImageText)] (initSt [.one (.dat (Ty.list Ty.int) l)] []) = (
    (((len l) ≤ 1000) ∧ (v0 = true)) ∧
    ((((len ((105 : UInt8) :: ((109 : UInt8) :: ((97 : UInt8) :: ((103 : UInt8) :: ((101 : UInt8) :: ((32 : UInt8) :: []))))))) + (len v1)) ≤ 140737488355328) ∧
    (K (.one (.dat Ty.str (cat ((105 : UInt8) :: ((109 : UInt8) :: ((97 : UInt8) :: ((103 : UInt8) :: ((101 : UInt8) :: ((32 : UInt8) :: [])))))) v1))) []))) := by subst hv1; subst hv0; kernel_rfl
theorem ref_ImageText_w (l : List Int) (m : Nat) (K : V → List Blk → Prop) : goD Γ_ref_ImageText tab fn_ref_ImageText 0 K (m + 1) [.code (bodyOf fn_ref_ImageText)] (initSt [.one (.dat (Ty.list Ty.int) l)] []) = segD Γ_ref_ImageText tab fn_ref_ImageText 0 K (goD Γ_ref_ImageText tab fn_ref_ImageText 0 K m) [.code (bodyOf fn_ref_ImageText)] (initSt [.one (.dat (Ty.list Ty.int) l)] []) := rfl

set_option maxHeartbeats 4000000 in
theorem run_ref_ImageText (l : List Int) (hp : checkImage l = 0) (K : V → List Blk → Prop) (hK : K (.one (.dat .str (imageText l))) []) : ∃ m, goD Γ_ref_ImageText tab fn_ref_ImageText 0 K m [.code (bodyOf fn_ref_ImageText)] (initSt [.one (.dat (.list .int) l)] []) := by
  refine ⟨1, ?_⟩
  rw [ref_ImageText_w, ref_ImageText_vc _ _ _ _ rfl _ rfl]
  obtain ⟨h1, h2, h3⟩ := checkImage_ok hp
  have n1 := listT_len l
  exact ⟨⟨by simp only [len]; omega, nums_of_words h3⟩, by simp only [len, List.length_cons, List.length_nil]; omega, hK⟩
theorem sound_ref_ImageText : SoundC Tryd.prog tab n_ref_ImageText c_ref_ImageText := soundC_of ok_ref_ImageText hf_ref_ImageText hB_ref_ImageText (by
  intro vs bs p v bs' h hp
  unfold c_ref_ImageText at h
  split at h
  · cases h
    exact ⟨by kernel_rfl, rfl, .inl (run_ref_ImageText _ hp.1 _ ⟨rfl, rfl⟩)⟩
  · cases h)

def c_law_MetaNames : Contract := fun vs bs => match vs, bs with
  | [.agg [.dat (.list .str) l], .one (.dat .str _), .one (.dat (.list .int) _)], [] => some (some (l.length ≤ 140737488355328), .one (.dat .bool true), [])
  | _, _ => none
def Γ_law_MetaNames : Ctx := [(n_meta_Name, c_meta_Name), (n_meta_ImageName, c_meta_ImageName), (n_ref_CheckBook, c_ref_CheckBook), (n_law_written, c_law_written), (n_meta_CheckBook, c_meta_CheckBook), (n_ref_NameOf, c_ref_NameOf), (n_ref_CheckImage, c_ref_CheckImage), (n_ref_ImageText, c_ref_ImageText)]
theorem ok_law_MetaNames : Ok Tryd.prog tab Γ_law_MetaNames := ((((((((ok_nil.consC hf_ref_ImageText hB_ref_ImageText sound_ref_ImageText).consC hf_ref_CheckImage hB_ref_CheckImage sound_ref_CheckImage).consC hf_ref_NameOf hB_ref_NameOf sound_ref_NameOf).consC hf_meta_CheckBook hB_meta_CheckBook sound_meta_CheckBook).consC hf_law_written hB_law_written sound_law_written).consC hf_ref_CheckBook hB_ref_CheckBook sound_ref_CheckBook).consC hf_meta_ImageName hB_meta_ImageName sound_meta_ImageName).consC hf_meta_Name hB_meta_Name sound_meta_Name)
theorem law_MetaNames_vc (l : List (List UInt8)) (s : List UInt8) (ws : List Int) (rec : List It → St → Prop) (K : V → List Blk → Prop) v0 (hv0 : v0 = (checkBook l)) v1 (hv1 : v1 = (nameB l s)) v2 (hv2 : v2 = (indexS s l)) v3 (hv3 : v3 = (checkImage ws)) v4 (hv4 : v4 = (imageName l ws)) v5 (hv5 : v5 = (imageText ws)) v6 (hv6 : v6 = (indexS v5 l)) : segD Γ_law_MetaNames tab fn_law_MetaNames 0 K rec [.code (bodyOf fn_law_MetaNames)] (initSt [.agg [.dat (Ty.list Ty.str) l], .one (.dat Ty.str s), .one (.dat (Ty.list Ty.int) ws)] []) = (
    ((List.length l) ≤ 140737488355328) ∧
    (((List.length l) ≤ 140737488355328) ∧
    (br (!(eqi v0 v0))
     (K (.one (.dat Ty.bool false)) [])
     (br (!(eqi (v1).snd v0))
       (K (.one (.dat Ty.bool false)) [])
       (br (eqi v0 (0 : Int))
         (((List.length l) ≤ 60) ∧
          (br (!(eqi (v1).fst (v2 + (1 : Int))))
           (K (.one (.dat Ty.bool false)) [])
           (br (!(eqi v0 (0 : Int)))
             (br (!(eqi (v1).fst (0 : Int)))
               (K (.one (.dat Ty.bool false)) [])
               (br (!(eqi v3 (0 : Int)))
                 (br (eqi (v4).snd v3)
                   (br (eqi v3 (0 : Int))
                     ((v3 = (0 : Int)) ∧
                      (((List.length l) ≤ 60) ∧
                      (br (eqi (v4).fst (v6 + (1 : Int)))
                       (K (.one (.dat Ty.bool true)) [])
                       (br (!(eqi v3 (0 : Int)))
                         (K (.one (.dat Ty.bool (eqi (v4).fst (0 : Int)))) [])
                         (K (.one (.dat Ty.bool false)) [])))))
                     (br (!(eqi v3 (0 : Int)))
                       (K (.one (.dat Ty.bool (eqi (v4).fst (0 : Int)))) [])
                       (K (.one (.dat Ty.bool false)) [])))
                   (K (.one (.dat Ty.bool false)) []))
                 (br (eqi (v4).snd v0)
                   (br (eqi v0 (0 : Int))
                     ((v3 = (0 : Int)) ∧
                      (((List.length l) ≤ 60) ∧
                      (br (eqi (v4).fst (v6 + (1 : Int)))
                       (K (.one (.dat Ty.bool true)) [])
                       (br (!(eqi v0 (0 : Int)))
                         (K (.one (.dat Ty.bool (eqi (v4).fst (0 : Int)))) [])
                         (K (.one (.dat Ty.bool false)) [])))))
                     (br (!(eqi v0 (0 : Int)))
                       (K (.one (.dat Ty.bool (eqi (v4).fst (0 : Int)))) [])
                       (K (.one (.dat Ty.bool false)) [])))
                   (K (.one (.dat Ty.bool false)) []))))
             (br (!(eqi v3 (0 : Int)))
               (br (eqi (v4).snd v3)
                 (br (eqi v3 (0 : Int))
                   ((v3 = (0 : Int)) ∧
                    (((List.length l) ≤ 60) ∧
                    (br (eqi (v4).fst (v6 + (1 : Int)))
                     (K (.one (.dat Ty.bool true)) [])
                     (br (!(eqi v3 (0 : Int)))
                       (K (.one (.dat Ty.bool (eqi (v4).fst (0 : Int)))) [])
                       (K (.one (.dat Ty.bool false)) [])))))
                   (br (!(eqi v3 (0 : Int)))
                     (K (.one (.dat Ty.bool (eqi (v4).fst (0 : Int)))) [])
                     (K (.one (.dat Ty.bool false)) [])))
                 (K (.one (.dat Ty.bool false)) []))
               (br (eqi (v4).snd v0)
                 (br (eqi v0 (0 : Int))
                   ((v3 = (0 : Int)) ∧
                    (((List.length l) ≤ 60) ∧
                    (br (eqi (v4).fst (v6 + (1 : Int)))
                     (K (.one (.dat Ty.bool true)) [])
                     (br (!(eqi v0 (0 : Int)))
                       (K (.one (.dat Ty.bool (eqi (v4).fst (0 : Int)))) [])
                       (K (.one (.dat Ty.bool false)) [])))))
                   (br (!(eqi v0 (0 : Int)))
                     (K (.one (.dat Ty.bool (eqi (v4).fst (0 : Int)))) [])
                     (K (.one (.dat Ty.bool false)) [])))
                 (K (.one (.dat Ty.bool false)) []))))))
         (br (!(eqi v0 (0 : Int)))
           (br (!(eqi (v1).fst (0 : Int)))
             (K (.one (.dat Ty.bool false)) [])
             (br (!(eqi v3 (0 : Int)))
               (br (eqi (v4).snd v3)
                 (br (eqi v3 (0 : Int))
                   ((v3 = (0 : Int)) ∧
                    (((List.length l) ≤ 60) ∧
                    (br (eqi (v4).fst (v6 + (1 : Int)))
                     (K (.one (.dat Ty.bool true)) [])
                     (br (!(eqi v3 (0 : Int)))
                       (K (.one (.dat Ty.bool (eqi (v4).fst (0 : Int)))) [])
                       (K (.one (.dat Ty.bool false)) [])))))
                   (br (!(eqi v3 (0 : Int)))
                     (K (.one (.dat Ty.bool (eqi (v4).fst (0 : Int)))) [])
                     (K (.one (.dat Ty.bool false)) [])))
                 (K (.one (.dat Ty.bool false)) []))
               (br (eqi (v4).snd v0)
                 (br (eqi v0 (0 : Int))
                   ((v3 = (0 : Int)) ∧
                    (((List.length l) ≤ 60) ∧
                    (br (eqi (v4).fst (v6 + (1 : Int)))
                     (K (.one (.dat Ty.bool true)) [])
                     (br (!(eqi v0 (0 : Int)))
                       (K (.one (.dat Ty.bool (eqi (v4).fst (0 : Int)))) [])
                       (K (.one (.dat Ty.bool false)) [])))))
                   (br (!(eqi v0 (0 : Int)))
                     (K (.one (.dat Ty.bool (eqi (v4).fst (0 : Int)))) [])
                     (K (.one (.dat Ty.bool false)) [])))
                 (K (.one (.dat Ty.bool false)) []))))
           (br (!(eqi v3 (0 : Int)))
             (br (eqi (v4).snd v3)
               (br (eqi v3 (0 : Int))
                 ((v3 = (0 : Int)) ∧
                  (((List.length l) ≤ 60) ∧
                  (br (eqi (v4).fst (v6 + (1 : Int)))
                   (K (.one (.dat Ty.bool true)) [])
                   (br (!(eqi v3 (0 : Int)))
                     (K (.one (.dat Ty.bool (eqi (v4).fst (0 : Int)))) [])
                     (K (.one (.dat Ty.bool false)) [])))))
                 (br (!(eqi v3 (0 : Int)))
                   (K (.one (.dat Ty.bool (eqi (v4).fst (0 : Int)))) [])
                   (K (.one (.dat Ty.bool false)) [])))
               (K (.one (.dat Ty.bool false)) []))
             (br (eqi (v4).snd v0)
               (br (eqi v0 (0 : Int))
                 ((v3 = (0 : Int)) ∧
                  (((List.length l) ≤ 60) ∧
                  (br (eqi (v4).fst (v6 + (1 : Int)))
                   (K (.one (.dat Ty.bool true)) [])
                   (br (!(eqi v0 (0 : Int)))
                     (K (.one (.dat Ty.bool (eqi (v4).fst (0 : Int)))) [])
                     (K (.one (.dat Ty.bool false)) [])))))
                 (br (!(eqi v0 (0 : Int)))
                   (K (.one (.dat Ty.bool (eqi (v4).fst (0 : Int)))) [])
                   (K (.one (.dat Ty.bool false)) [])))
               (K (.one (.dat Ty.bool false)) []))))))))) := by subst hv6; subst hv5; subst hv4; subst hv3; subst hv2; subst hv1; subst hv0; kernel_rfl
theorem law_MetaNames_w (l : List (List UInt8)) (s : List UInt8) (ws : List Int) (m : Nat) (K : V → List Blk → Prop) : goD Γ_law_MetaNames tab fn_law_MetaNames 0 K (m + 1) [.code (bodyOf fn_law_MetaNames)] (initSt [.agg [.dat (Ty.list Ty.str) l], .one (.dat Ty.str s), .one (.dat (Ty.list Ty.int) ws)] []) = segD Γ_law_MetaNames tab fn_law_MetaNames 0 K (goD Γ_law_MetaNames tab fn_law_MetaNames 0 K m) [.code (bodyOf fn_law_MetaNames)] (initSt [.agg [.dat (Ty.list Ty.str) l], .one (.dat Ty.str s), .one (.dat (Ty.list Ty.int) ws)] []) := rfl

set_option maxHeartbeats 4000000 in
theorem run_law_MetaNames (l : List (List UInt8)) (s : List UInt8) (ws : List Int) (hp : l.length ≤ 140737488355328) (K : V → List Blk → Prop) (hK : K (.one (.dat .bool true)) []) : ∃ m, goD Γ_law_MetaNames tab fn_law_MetaNames 0 K m [.code (bodyOf fn_law_MetaNames)] (initSt [.agg [.dat (.list .str) l], .one (.dat .str s), .one (.dat (.list .int) ws)] []) := by
  refine ⟨1, ?_⟩
  rw [law_MetaNames_w, law_MetaNames_vc _ _ _ _ _ _ rfl _ rfl _ rfl _ rfl _ rfl _ rfl _ rfl]
  have e0 : ∀ a : Int, eqi a a = true := fun a => eqi_true.2 rfl
  refine ⟨hp, hp, ?_⟩
  by_cases hc : checkBook l = 0
  case neg =>
    have hcf : eqi (checkBook l) 0 = false := eqi_false.2 hc
    rw [show nameB l s = (0, checkBook l) from if_neg hc]
    by_cases hi : checkImage ws = 0
    · rw [show imageName l ws = (0, checkBook l) from by unfold imageName; rw [if_pos hi]; exact if_neg hc]
      simp only [e0, hcf, hi, br, Bool.not_true, Bool.not_false]
      exact hK
    · rw [show imageName l ws = (0, checkImage ws) from if_neg hi]
      have hif : eqi (checkImage ws) 0 = false := eqi_false.2 hi
      simp only [e0, hcf, hif, br, Bool.not_true, Bool.not_false]
      exact hK
  have h60 : l.length ≤ 60 := by
    unfold checkBook at hc
    by_cases c : 60 < l.length
    · rw [if_pos c] at hc; cases hc
    · omega
  rw [hc, show nameB l s = (indexS s l + 1, 0) from if_pos hc]
  by_cases hi : checkImage ws = 0
  · rw [show imageName l ws = (indexS (imageText ws) l + 1, 0) from by unfold imageName; rw [if_pos hi]; exact if_pos hc, hi]
    simp only [e0, br, Bool.not_true, Bool.not_false]
    exact ⟨h60, trivial, h60, hK⟩
  · rw [show imageName l ws = (0, checkImage ws) from if_neg hi]
    have hif : eqi (checkImage ws) 0 = false := eqi_false.2 hi
    simp only [e0, hif, br, Bool.not_true, Bool.not_false]
    exact ⟨h60, hK⟩
theorem sound_law_MetaNames : SoundC Tryd.prog tab n_law_MetaNames c_law_MetaNames := soundC_of ok_law_MetaNames hf_law_MetaNames hB_law_MetaNames (by
  intro vs bs p v bs' h hp
  unfold c_law_MetaNames at h
  split at h
  · cases h
    exact ⟨by kernel_rfl, rfl, .inl (run_law_MetaNames _ _ _ hp.1 _ ⟨rfl, rfl⟩)⟩
  · cases h)
end Go.Proofs.YtlbppjmekiemiabDoor
