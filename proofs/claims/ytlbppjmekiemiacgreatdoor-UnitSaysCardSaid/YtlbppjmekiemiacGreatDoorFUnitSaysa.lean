/- What the functions of UnitSays compute (part 1 of 3). No condition. -/
import Derived.Test.YtlbppjmekiemiacGreatDoorTab
import Derived.Test.YtlbppjmekiemiacGreatDoorSpec
import Derived.KernelRfl
import Derived.Test.YtlbppjmekiemiacGreatDoorShelf
import Derived.WalkKit
import Derived.Lib.Mul64
import Derived.Laws.Bits64b
import Derived.Shelf.Spec.SlicesGrow
/- strconv.Itoa: the shelf's contract as one of ours. The number is no less than 0. -/
namespace Go.Proofs.YtlbppjmekiemiacGreatDoor
open Go.RowKit Go.Lib Go.Sort Vm
def c_strconv_Itoa : Contract := fun vs bs => match vs, bs with
  | [.one (.dat .int n)], [] => some (some (0 ≤ n ∧ n ≤ 9223372036854775807), .one (.dat .str (numT n)), [])
  | _, _ => none
theorem sound_strconv_Itoa : SoundC Tryz.prog tab n_strconv_Itoa c_strconv_Itoa := by
  intro vs bs p v bs' h hp w S μ xs I hx
  unfold c_strconv_Itoa at h
  split at h
  · cases h
    rename_i n
    obtain ⟨⟨h1, h2⟩, _⟩ := hp
    have h1 : (0 : Int) ≤ n := h1
    have h2 : (n : Int) ≤ 9223372036854775807 := h2
    match xs, hx with
    | [X], ⟨g1, _⟩ =>
      have e1 := rel_int g1
      subst e1
      obtain ⟨g, hg⟩ : ∃ g, tab.pow = some g := ⟨_, rfl⟩
      obtain ⟨_, ty, m, hb⟩ := I.pow g hg
      have htab : Go.Lib.TabIs Tryz.prog w "internal/strconv.uint64pow10" .u64 Go.Lib.pow10Tab := by
        have hgn : Tryz.prog.globalNamed "internal/strconv.uint64pow10" = tab.pow := by kernel_rfl
        unfold Go.Lib.TabIs World.var?
        rw [hgn, hg]
        simp only [Option.bind_some, hb]
        rfl
      refine (Tryz.strconv_Itoa n (by omega) h2 w htab).mono fun e w' ⟨he, k, os, hw⟩ => ?_
      subst hw he
      have hsz : (grow (w.drewN k) os).heap = w.heap ++ os := rfl
      have E : Ext μ (memL []) w S μ (memL []) (grow (w.drewN k) os) S := ⟨fun _ h => h, (Ext.refl (μ := μ) (mem := memL []) (w := w) (S := S)).kinds, fun _ h => h, by rw [hsz]; simp, fun b hb _ => by rw [hsz, Array.getElem?_append_left hb], fun _ h => .inl h, fun _ h => .inl h, rfl, rfl, rfl⟩
      refine ⟨_, μ, S, rfl, E, ⟨fun r B h => by simp [memL] at h, fun r r' _ ⟨B, h, _⟩ => by simp [memL] at h, fun r ⟨B, h, _⟩ => by simp [memL] at h, fun b hb => Nat.lt_of_lt_of_le (I.lt b hb) E.size, I.powExt E⟩, ?_⟩
      rw [itoa_eq h1 h2]
      exact mk_str _
  · cases h
end Go.Proofs.YtlbppjmekiemiacGreatDoor

/- strings.Join: the shelf's contract as one of ours. What comes of it is no longer than memory holds. -/
namespace Go.Proofs.YtlbppjmekiemiacGreatDoor
open Go.RowKit Go.Lib Vm
theorem below_EI {μ : Mu} {w w' : World} {S : Nat → Prop} (I : Inv tab μ (memL []) w S) (hb : Below w.heap.size w w') : Ext μ (memL []) w S μ (memL []) w' S ∧ Inv tab μ (memL []) w' S := by
  have E : Ext μ (memL []) w S μ (memL []) w' S := ⟨fun _ h => h, (Ext.refl (μ := μ) (mem := memL []) (w := w) (S := S)).kinds, fun _ h => h, hb.size, fun b hlt _ => hb.block b hlt, fun _ h => .inl h, fun _ h => .inl h, hb.os, hb.tape, hb.output⟩
  exact ⟨E, ⟨fun r B h => by simp [memL] at h, fun r r' _ ⟨B, h, _⟩ => by simp [memL] at h, fun r ⟨B, h, _⟩ => by simp [memL] at h, fun b hb => Nat.lt_of_lt_of_le (I.lt b hb) E.size, I.powExt E⟩⟩
def c_strings_Join : Contract := fun vs bs => match vs, bs with
  | [.one (.dat (.list .str) l), .one (.dat .str sep)], [] => some (some (l.length ≤ 140737488355328 ∧ (joinT sep l).length ≤ 140737488355328), .one (.dat .str (joinT sep l)), [])
  | _, _ => none
theorem sound_strings_Join : SoundC Tryz.prog tab n_strings_Join c_strings_Join := by
  intro vs bs p v bs' h hp w S μ xs I hx
  unfold c_strings_Join at h
  split at h
  · cases h
    rename_i l sep
    obtain ⟨⟨h1, h2⟩, _⟩ := hp
    match xs, hx with
    | [X, Y], ⟨g1, g2, _⟩ =>
      have e2 := rel_str g2
      subst e2
      obtain ⟨_, hr⟩ := g1
      cases hr with
      | empty t a cap =>
        refine (Tryz.strings_Join_none a cap ⟨sep.toArray⟩ w).mono fun e w' ⟨he, hw⟩ => ?_
        subst hw he
        exact ⟨_, μ, S, rfl, Ext.refl, I, mk_str []⟩
      | list t l b off cap cs hS hcap hc hr =>
        have hm : (l.map fun s : List UInt8 => (⟨s.toArray⟩ : ByteArray)).map (·.data.toList) = l := by simp [List.map_map, Function.comp_def]
        have hj : (Go.Lib.join ((l.map fun s : List UInt8 => (⟨s.toArray⟩ : ByteArray)).map (·.data.toList)) (⟨sep.toArray⟩ : ByteArray).data.toList) = joinT sep l := by rw [hm]; exact join_eq sep l
        have key := Tryz.strings_Join b off cap (l.map fun s : List UInt8 => (⟨s.toArray⟩ : ByteArray)) ⟨sep.toArray⟩ w (fun j x hx => by
          rw [List.getElem?_map] at hx
          obtain ⟨s, hs, rfl⟩ := Option.map_eq_some_iff.1 hx
          have hjl : j < l.length := (List.getElem?_eq_some_iff.1 hs).1
          have c1 := hc j 0 hjl (by decide)
          have e : nth l j (Ty.dflt .str) = s := by simp [nth, List.getD_eq_getElem?_getD, hs]
          have c2 := hr j 0 (.dat .str s) hjl (by rw [e]; rfl)
          have c3 : cs j 0 = .string ⟨s.toArray⟩ := by
            generalize cs j 0 = y at c2
            cases c2; rfl
          rw [c3] at c1
          simpa [at0, Ty.width] using c1) (I.lt b hS) (by simpa using h1) (by simpa using hcap) (by rw [hj]; exact h2)
        rw [List.length_map, hj] at key
        refine key.mono fun e w' ⟨he, hb⟩ => ?_
        subst he
        obtain ⟨E, I'⟩ := below_EI I hb
        exact ⟨_, μ, S, rfl, E, I', mk_str _⟩
  · cases h
end Go.Proofs.YtlbppjmekiemiacGreatDoor

/- math/bits.Mul: the whole product. Both factors are of 64 bits. -/
namespace Go.Proofs.YtlbppjmekiemiacGreatDoor
open Go.RowKit Go.Lib Vm
namespace Mul64
theorem maskN (a : Nat) (ha : a < 18446744073709551616) : bits .and .u64 (a : Int) 4294967295 = ((a % 4294967296 : Nat) : Int) := by
  have h := bits_and_u64_nat a 4294967295 ha (by omega)
  have e : a &&& 4294967295 = a % 4294967296 := Nat.and_two_pow_sub_one_eq_mod a 32
  rw [e] at h
  exact h
theorem divN (a : Nat) : (a : Int) / 4294967296 = ((a / 4294967296 : Nat) : Int) := by omega
theorem mulN (a b : Nat) : (a : Int) * (b : Int) = ((a * b : Nat) : Int) := (Int.natCast_mul a b).symm
theorem addN (a b : Nat) : (a : Int) + (b : Int) = ((a + b : Nat) : Int) := (Int.natCast_add a b).symm
theorem wrapN (a : Nat) (ha : a < 18446744073709551616) : IntKind.u64.wrap (a : Int) = (a : Int) := by rw [IntKind.wrap_u64]; omega
theorem wrapM (a : Nat) : IntKind.u64.wrap (a : Int) = ((a % 18446744073709551616 : Nat) : Int) := by rw [IntKind.wrap_u64]; omega
end Mul64
set_option maxHeartbeats 1000000 in
theorem mul64_any (x y : Nat) (hx : x < 18446744073709551616) (hy : y < 18446744073709551616) (w : World) :
    Calls Tryz.prog 190 #[.int .u64 x, .int .u64 y] w fun e w' => e = .returned (.tuple #[.int .u64 ((x * y / 18446744073709551616 : Nat) : Int), .int .u64 ((x * y % 18446744073709551616 : Nat) : Int)]) ∧ w' = w := by
  obtain ⟨bd, bt, bw, hhi⟩ := Lib.mul64_hi x y hx hy
  have ba := Lib.half_mul_le (a := x / 4294967296) (b := y / 4294967296) (by omega) (by omega)
  have bb := Lib.half_mul_le (a := x / 4294967296) (b := y % 4294967296) (by omega) (by omega)
  have bc := Lib.half_mul_le (a := x % 4294967296) (b := y / 4294967296) (by omega) (by omega)
  have ba' : x / 4294967296 * (y / 4294967296) < 18446744073709551616 := by omega
  have bb' : x / 4294967296 * (y % 4294967296) < 18446744073709551616 := by omega
  have bc' : x % 4294967296 * (y / 4294967296) < 18446744073709551616 := by omega
  have bh1 : x / 4294967296 * (y / 4294967296) + (x / 4294967296 * (y % 4294967296) + x % 4294967296 * (y % 4294967296) / 4294967296) / 4294967296 < 18446744073709551616 := by omega
  have bh : x / 4294967296 * (y / 4294967296) + (x / 4294967296 * (y % 4294967296) + x % 4294967296 * (y % 4294967296) / 4294967296) / 4294967296 + ((x / 4294967296 * (y % 4294967296) + x % 4294967296 * (y % 4294967296) / 4294967296) % 4294967296 + x % 4294967296 * (y / 4294967296)) / 4294967296 < 18446744073709551616 := by omega
  go_enter Tryz.func190, Tryz.ntmps190
  go_wp2
  simp only [Mul64.maskN x hx, Mul64.maskN y hy, Mul64.divN, Mul64.mulN, Mul64.addN, Mul64.wrapN _ bd, Mul64.wrapN _ bb', Mul64.wrapN _ bt, Mul64.maskN _ bt, Mul64.wrapN _ bc', Mul64.wrapN _ bw, Mul64.wrapN _ ba', Mul64.wrapN _ bh1, Mul64.wrapN _ bh, Mul64.wrapM (x * y)]
  rw [hhi]
  go_ret2
  exact ⟨rfl, rfl⟩
set_option maxHeartbeats 1000000 in
theorem mul_any (x y : Nat) (hx : x < 18446744073709551616) (hy : y < 18446744073709551616) (w : World) :
    Calls Tryz.prog 144 #[.int .u64 x, .int .u64 y] w fun e w' => e = .returned (.tuple #[.int .u64 ((x * y / 18446744073709551616 : Nat) : Int), .int .u64 ((x * y % 18446744073709551616 : Nat) : Int)]) ∧ w' = w := by
  have c64 := mul64_any x y hx hy w
  go_enter Tryz.func144, Tryz.ntmps144
  go_wp2_with (go_at_call 190; refine c64.mono ?_; rintro e w' ⟨rfl, hw⟩; rw [hw])
  go_ret2
  exact ⟨rfl, rfl⟩
def c_math_bits_Mul : Contract := fun vs bs => match vs, bs with
  | [.one (.dat .u64 a), .one (.dat .u64 b)], [] => some (some (inU64 a = true ∧ inU64 b = true), .tup [.one (.dat .u64 ((a * b) / two64)), .one (.dat .u64 ((a * b) % two64))], [])
  | _, _ => none
theorem sound_math_bits_Mul : SoundC Tryz.prog tab n_math_bits_Mul c_math_bits_Mul := by
  intro vs bs p v bs' h hp w S μ xs I hx
  unfold c_math_bits_Mul at h
  split at h
  · cases h
    rename_i a b
    obtain ⟨⟨h1, h2⟩, _⟩ := hp
    simp only [inU64, Bool.and_eq_true, decide_eq_true_eq] at h1 h2
    obtain ⟨x, rfl⟩ := Int.eq_ofNat_of_zero_le h1.1
    obtain ⟨y, rfl⟩ := Int.eq_ofNat_of_zero_le h2.1
    match xs, hx with
    | [X, Y], ⟨g1, g2, _⟩ =>
      have e1 := rel_u64 g1
      have e2 := rel_u64 g2
      subst e1 e2
      refine (mul_any x y (by omega) (by omega) w).mono fun e w' ⟨he, hw⟩ => ?_
      subst hw he
      refine ⟨_, μ, S, rfl, Ext.refl, I, _, rfl, rfl, fun i u hu => ?_⟩
      match i, hu with
      | 0, hu => cases hu; exact ⟨_, rfl, mk_u64 _⟩
      | 1, hu => cases hu; exact ⟨_, rfl, mk_u64 _⟩
  · cases h
end Go.Proofs.YtlbppjmekiemiacGreatDoor

/- slices.Grow of no list: the shelf's contract, laid at this program. n is no less than 0. -/
namespace Go.Proofs.YtlbppjmekiemiacGreatDoor
open Go.RowKit Go.Lib Vm Go.Shelf
def growC_change_ren : Go.Shelf.Ren := ⟨fun | 4 => 208 | n => n, fun | 22 => 220 | 25 => 256 | n => n, fun n => n⟩
theorem growC_change : Lays8.n4 Tryz.prog growC_change_ren := {
  mixed := by kernel_rfl
  f4 := ⟨Tryz.f208.name, by decide, Tryz.func208.trans (congrArg some (by kernel_rfl))⟩
  t0 := by kernel_rfl
  a0 := fun _ => by kernel_rfl
  z0 := fun _ => by kernel_rfl
  v0 := fun _ => by kernel_rfl
  t3 := by kernel_rfl
  a3 := fun _ => by kernel_rfl
  z3 := fun _ => by kernel_rfl
  v3 := fun _ => by kernel_rfl
  t4 := by kernel_rfl
  a4 := fun _ => by kernel_rfl
  z4 := fun _ => by kernel_rfl
  v4 := fun _ => by kernel_rfl
  t9 := by kernel_rfl
  a9 := fun _ => by kernel_rfl
  z9 := fun _ => by kernel_rfl
  v9 := fun _ => by kernel_rfl
  t20 := by kernel_rfl
  a20 := fun _ => by kernel_rfl
  z20 := fun _ => by kernel_rfl
  v20 := fun _ => by kernel_rfl
  t22 := by kernel_rfl
  a22 := fun _ => by kernel_rfl
  z22 := fun _ => by kernel_rfl
  v22 := fun _ => by kernel_rfl }
def c_slices_Grow_Lref_change : Contract := fun vs bs => match vs, bs with
  | [.one (.nil .change), .one (.dat .int n)], [] => some (some (0 ≤ n ∧ n ≤ 100000), .one (.own 0), [.arr .change []])
  | _, _ => none
theorem sound_slices_Grow_Lref_change : SoundC Tryz.prog tab n_slices_Grow_Lref_change c_slices_Grow_Lref_change := by
  intro vs bs p v bs' h hp w S μ xs I hx
  unfold c_slices_Grow_Lref_change at h
  split at h
  · cases h
    rename_i n
    obtain ⟨⟨h1, h2⟩, _⟩ := hp
    obtain ⟨k, rfl⟩ := Int.eq_ofNat_of_zero_le h1
    have h2 : (k : Int) ≤ 100000 := h2
    match xs, hx with
    | [X, Y], ⟨g1, g2, _⟩ =>
      have e1 : X = .slice none 0 0 := g1.2
      have e2 := rel_int g2
      subst e1 e2
      have hm : memL ([] : List Blk) 0 = none := rfl
      have hml : memU [(0, Blk.arr .change [])] (memL []) = memL [.arr .change []] := by
        funext q
        by_cases e : q = 0
        · subst e; rfl
        · rw [memU_ne e]
          cases q with
          | zero => exact absurd rfl e
          | succ q => rfl
      by_cases hk : k = 0
      · subst hk
        refine (Any8.slices_Grow_room growC_change none 0 0 0 w (by omega) (by omega) (by omega) (by omega)).mono fun e w' ⟨he, hw⟩ => ?_
        subst hw he
        obtain ⟨E, I'⟩ := name_EI (t := .change) I hm
        rw [hml] at E I'
        exact ⟨_, _, S, rfl, E, I', rfl, (fun h => by cases h), fun _ _ _ => muU_eq⟩
      · obtain ⟨ti, ht, hkk, hby⟩ : ∃ ti, tyAt tab 220 = some ti ∧ ti.isSlice .change = true ∧ ti.bytes = 16 := ⟨_, rfl, rfl, rfl⟩
        obtain ⟨e, i, z, hs⟩ := und_slice tab_ok ht hkk
        have he : e = 256 := by
          have h1 := hs.und
          have h2 : Tryz.prog.underlying 220 = some (.slice 256) := growC_change.t22
          rw [h2] at h1
          cases h1; rfl
        subst he
        have hw2 : Ty.width .change = 2 := rfl
        refine (Any8.slices_Grow_grow growC_change i z hs.info hs.zero (by rw [hs.size]; decide) none 0 0 k [] w (by omega) (by omega) (by rw [hs.bytes, hby]; omega) (by omega) (by simp) (fun _ => rfl) (fun a h => by cases h)).mono fun e w' ⟨he, hw⟩ => ?_
        have hge := grownCap_ge w (0 + k) 0 (growC_change_ren.t 25)
        have hgm := grownCap_le_maxLen w (0 + k) 0 (growC_change_ren.t 25) (by unfold maxLen; omega)
        generalize grownCap w (0 + k) 0 (growC_change_ren.t 25) = G at he hw hge hgm
        generalize hcur : (([] : List Value).toArray ++ Builtin.zeroCells z.cells (0 + k - 0) ++ Builtin.zeroCells z.cells (G - (0 + k))) = cur at hw
        have hcsz : cur.size = G * 2 := by
          subst hcur
          simp only [Array.size_append, List.size_toArray, List.length_nil, size_zeroCells, hs.zs, hw2]
          omega
        subst hw he
        have hl : (Loc.ar (.slice (some (at0 w.heap.size 0)) 0 G)).block = some w.drew.heap.size ∨ (Loc.ar (.slice (some (at0 w.heap.size 0)) 0 G)).block = none := .inl rfl
        have Ed : Ext μ (memL []) w S μ (memL []) w.drew S := ⟨fun _ h => h, (Ext.refl (μ := μ) (mem := memL []) (w := w) (S := S)).kinds, fun _ h => h, Nat.le_refl _, fun _ _ _ => rfl, fun _ h => .inl h, fun _ h => .inl h, rfl, rfl, rfl⟩
        have Id : Inv tab μ (memL []) w.drew S := ⟨fun q B h1 h2 => by obtain ⟨l', e1, e2⟩ := I.rel q B h1 h2; exact ⟨l', e1, e2.ext Ed I fun _ _ => rfl⟩, I.inj, I.sep, I.lt, I.pow⟩
        have E1 := alloc_E (μ := μ) (S := S) (w := w.drew) (o := .cells cur (growC_change_ren.t 25)) (B := .arr .change []) hm hl
        have I1 := alloc_I (o := .cells cur (growC_change_ren.t 25)) (B := .arr .change []) hm hl Id
          (.inr ⟨w.heap.size, G, cur, growC_change_ren.t 25, rfl, heap_alloc_new w.drew _, Nat.zero_le _, hgm, by rw [hcsz, hw2]; exact Nat.le_refl _, fun i j c hi => by cases hi⟩)
        rw [hml] at E1 I1
        exact ⟨_, _, S, rfl, Ed.trans E1, I1, rfl, (fun h => by cases h), fun _ _ _ => muU_eq⟩
  · cases h
end Go.Proofs.YtlbppjmekiemiacGreatDoor
namespace Go.Proofs.YtlbppjmekiemiacGreatDoor
open Vm
def c_ref_OwnFlash : Contract := fun vs bs => match vs, bs with
  | [.agg [.dat (.list .int) ws, .dat .int fu]], [] => some (some (len ws * 8 ≤ 140737488355328), .agg [.own 0, .dat .int fu], [.arr .int ws])
  | _, _ => none
def Γ_ref_OwnFlash : Ctx := []
theorem ok_ref_OwnFlash : Ok Tryz.prog tab Γ_ref_OwnFlash := ok_nil
theorem ref_OwnFlash_vc (ws : List Int) (fu : Int) (rec : RK) (K : KK) : segO Γ_ref_OwnFlash tab fn_ref_OwnFlash 0 K rec [.code (bodyOf fn_ref_OwnFlash)] (initSt [.agg [dL ws, dI fu]] []) = (
 (((0 + (len ws)) * 8) ≤ 140737488355328) ∧
 (K (.agg [.own 0, dI fu]) [.arr Ty.int (cat [] ws)])) := by kernel_rfl
theorem ref_OwnFlash_w (m : Nat) (K : KK) (st : St) : goO Γ_ref_OwnFlash tab fn_ref_OwnFlash 0 K (m + 1) [.code (bodyOf fn_ref_OwnFlash)] st = segO Γ_ref_OwnFlash tab fn_ref_OwnFlash 0 K (goO Γ_ref_OwnFlash tab fn_ref_OwnFlash 0 K m) [.code (bodyOf fn_ref_OwnFlash)] st := rfl

set_option maxHeartbeats 4000000 in
theorem run_ref_OwnFlash (ws : List Int) (fu : Int) (hp : len ws * 8 ≤ 140737488355328) (K : KK) (hK : K (.agg [.own 0, dI fu]) [.arr .int ws]) : ∃ m, goO Γ_ref_OwnFlash tab fn_ref_OwnFlash 0 K m [.code (bodyOf fn_ref_OwnFlash)] (initSt [.agg [dL ws, dI fu]] []) := by
  refine ⟨1, ?_⟩
  rw [ref_OwnFlash_w, ref_OwnFlash_vc _ _ _ _]
  exact ⟨by omega, hK⟩
theorem sound_ref_OwnFlash : SoundC Tryz.prog tab n_ref_OwnFlash c_ref_OwnFlash := soundC_of ok_ref_OwnFlash hf_ref_OwnFlash hB_ref_OwnFlash (by
  intro vs bs p v bs' h hp
  unfold c_ref_OwnFlash at h
  split at h
  · cases h
    exact ⟨by kernel_rfl, rfl, .inr (.inl (run_ref_OwnFlash _ _ hp.1 _ ⟨rfl, rfl⟩))⟩
  · cases h)

def c_slices_Index_Lstring : Contract := fun vs bs => match vs, bs with
  | [.one (.dat (.list .str) l), .one (.dat .str s)], [] => some (some (l.length ≤ 140737488355328), .one (.dat .int (indexS s l)), [])
  | _, _ => none
def Γ_slices_Index_Lstring : Ctx := []
theorem ok_slices_Index_Lstring : Ok Tryz.prog tab Γ_slices_Index_Lstring := ok_nil
noncomputable def slices_Index_Lstring_L0 : List It := [.inLoop [8, 7, 4, 0, 1] (Code.sub (bodyOf fn_slices_Index_Lstring) [1, 0, 1, 0, 0]), .inBlock 0, .code (Code.sub (bodyOf fn_slices_Index_Lstring) [1, 1])]
def slices_Index_Lstring_S0 (x0 : Int) (x1 : Int) (x2 : Int) (x3 : (List (List UInt8))) (x4 : (List UInt8)) : St := ⟨[(8, .one (dI x0)), (7, .one (dI x1)), (4, .one (dI x2)), (0, .one (.dat (Ty.list Ty.str) x3)), (1, .one (.dat Ty.str x4))], [], 0⟩
theorem slices_Index_Lstring_vc (l : List (List UInt8)) (s : List UInt8) (rec : RK) (K : KK) : segD Γ_slices_Index_Lstring tab fn_slices_Index_Lstring 0 K rec [.code (bodyOf fn_slices_Index_Lstring)] (initSt [.one (.dat (Ty.list Ty.str) l), .one (.dat Ty.str s)] []) = (
 rec slices_Index_Lstring_L0 (slices_Index_Lstring_S0 (0 : Int) (((len l) : Nat) : Int) (0 : Int) l s)) := by kernel_rfl
theorem slices_Index_Lstring_w (m : Nat) (K : KK) (st : St) : goD Γ_slices_Index_Lstring tab fn_slices_Index_Lstring 0 K (m + 1) [.code (bodyOf fn_slices_Index_Lstring)] st = segD Γ_slices_Index_Lstring tab fn_slices_Index_Lstring 0 K (goD Γ_slices_Index_Lstring tab fn_slices_Index_Lstring 0 K m) [.code (bodyOf fn_slices_Index_Lstring)] st := rfl
theorem slices_Index_Lstring_vc0 (x0 : Int) (x1 : Int) (x2 : Int) (x3 : (List (List UInt8))) (x4 : (List UInt8)) (rec : RK) (K : KK) : segD Γ_slices_Index_Lstring tab fn_slices_Index_Lstring 0 K rec (.code (Code.sub (bodyOf fn_slices_Index_Lstring) [1, 0, 1, 0, 0]) :: slices_Index_Lstring_L0) (slices_Index_Lstring_S0 x0 x1 x2 x3 x4) = (
 br (lti x0 x1)
 ((((0 : Int) ≤ x0) ∧ (x0 < (((len x3) : Nat) : Int))) ∧
 (br (eqs x4 (nth x3 (Int.toNat x0) (Ty.dflt Ty.str)))
 (K (.one (dI x0)) [])
 (rec slices_Index_Lstring_L0 (slices_Index_Lstring_S0 (w64 (x0 + (1 : Int))) x1 x2 x3 x4))))
 (K (.one (dI (-(1 : Int)))) [])) := by kernel_rfl
theorem slices_Index_Lstring_w0 (m : Nat) (K : KK) (st : St) : goD Γ_slices_Index_Lstring tab fn_slices_Index_Lstring 0 K (m + 1) slices_Index_Lstring_L0 st = segD Γ_slices_Index_Lstring tab fn_slices_Index_Lstring 0 K (goD Γ_slices_Index_Lstring tab fn_slices_Index_Lstring 0 K m) (.code (Code.sub (bodyOf fn_slices_Index_Lstring) [1, 0, 1, 0, 0]) :: slices_Index_Lstring_L0) st := rfl

theorem loop_slices_Index_Lstring (l : List (List UInt8)) (s : List UInt8) (hl : l.length ≤ 140737488355328) (K : KK) : ∀ (d k : Nat), k + d = l.length → K (.one (dI (indexFrom k s (l.drop k)))) [] →
    goD Γ_slices_Index_Lstring tab fn_slices_Index_Lstring 0 K (d + 1) slices_Index_Lstring_L0 (slices_Index_Lstring_S0 (k : Int) (((len l) : Nat) : Int) 0 l s)
  | 0, k, hk, hK => by
    rw [slices_Index_Lstring_w0, slices_Index_Lstring_vc0 _ _ _ _ _ _ _]
    rw [List.drop_of_length_le (by omega)] at hK
    exact lt_f (by simp only [len]; omega) hK
  | d + 1, k, hk, hK => by
    rw [slices_Index_Lstring_w0, slices_Index_Lstring_vc0 _ _ _ _ _ _ _, toNat_nat]
    rw [drop_step (by omega) (Ty.dflt Ty.str)] at hK
    simp only [indexFrom] at hK
    refine lt_t (by simp only [len]; omega) ⟨⟨by omega, by simp only [len]; omega⟩, br_split (fun h => ?_) (fun h => ?_)⟩
    · rw [eqs_true] at h
      rw [if_pos h.symm] at hK; exact hK
    · rw [eqs_false] at h
      rw [if_neg (fun e => h e.symm)] at hK
      rw [w64_succ (by omega)]
      exact loop_slices_Index_Lstring l s hl K d (k + 1) (by omega) hK
set_option maxHeartbeats 4000000 in
theorem run_slices_Index_Lstring (l : List (List UInt8)) (s : List UInt8) (hp : l.length ≤ 140737488355328) (K : KK) (hK : K (.one (dI (indexS s l))) []) : ∃ m, goD Γ_slices_Index_Lstring tab fn_slices_Index_Lstring 0 K m [.code (bodyOf fn_slices_Index_Lstring)] (initSt [.one (.dat (.list .str) l), .one (.dat .str s)] []) := by
  refine ⟨l.length + 2, ?_⟩
  rw [slices_Index_Lstring_w, slices_Index_Lstring_vc _ _ _ _]
  exact loop_slices_Index_Lstring l s hp K l.length 0 (by omega) hK
theorem sound_slices_Index_Lstring : SoundC Tryz.prog tab n_slices_Index_Lstring c_slices_Index_Lstring := soundC_of ok_slices_Index_Lstring hf_slices_Index_Lstring hB_slices_Index_Lstring (by
  intro vs bs p v bs' h hp
  unfold c_slices_Index_Lstring at h
  split at h
  · cases h
    exact ⟨by kernel_rfl, rfl, .inl (run_slices_Index_Lstring _ _ hp.1 _ ⟨rfl, rfl⟩)⟩
  · cases h)

def c_slices_Contains_Lstring : Contract := fun vs bs => match vs, bs with
  | [.one (.dat (.list .str) l), .one (.dat .str s)], [] => some (some (l.length ≤ 140737488355328), .one (.dat .bool (hasS s l)), [])
  | _, _ => none
def Γ_slices_Contains_Lstring : Ctx := [(n_slices_Index_Lstring, c_slices_Index_Lstring)]
theorem ok_slices_Contains_Lstring : Ok Tryz.prog tab Γ_slices_Contains_Lstring := (ok_nil.consC hf_slices_Index_Lstring hB_slices_Index_Lstring sound_slices_Index_Lstring)
theorem slices_Contains_Lstring_vc (l : List (List UInt8)) (s : List UInt8) (rec : RK) (K : KK) v0 (hv0 : v0 = (indexS s l)) : segD Γ_slices_Contains_Lstring tab fn_slices_Contains_Lstring 0 K rec [.code (bodyOf fn_slices_Contains_Lstring)] (initSt [.one (.dat (Ty.list Ty.str) l), .one (.dat Ty.str s)] []) = (
 ((List.length l) ≤ 140737488355328) ∧
 (K (.one (dB (lei (0 : Int) v0))) [])) := by subst_vars; kernel_rfl
theorem slices_Contains_Lstring_w (m : Nat) (K : KK) (st : St) : goD Γ_slices_Contains_Lstring tab fn_slices_Contains_Lstring 0 K (m + 1) [.code (bodyOf fn_slices_Contains_Lstring)] st = segD Γ_slices_Contains_Lstring tab fn_slices_Contains_Lstring 0 K (goD Γ_slices_Contains_Lstring tab fn_slices_Contains_Lstring 0 K m) [.code (bodyOf fn_slices_Contains_Lstring)] st := rfl

set_option maxHeartbeats 4000000 in
theorem run_slices_Contains_Lstring (l : List (List UInt8)) (s : List UInt8) (hp : l.length ≤ 140737488355328) (K : KK) (hK : K (.one (dB (hasS s l))) []) : ∃ m, goD Γ_slices_Contains_Lstring tab fn_slices_Contains_Lstring 0 K m [.code (bodyOf fn_slices_Contains_Lstring)] (initSt [.one (.dat (.list .str) l), .one (.dat .str s)] []) := by
  refine ⟨1, ?_⟩
  rw [slices_Contains_Lstring_w, slices_Contains_Lstring_vc _ _ _ _ _ rfl]
  rw [show lei 0 (indexS s l) = hasS s l from indexS_has s l]
  exact ⟨hp, hK⟩
theorem sound_slices_Contains_Lstring : SoundC Tryz.prog tab n_slices_Contains_Lstring c_slices_Contains_Lstring := soundC_of ok_slices_Contains_Lstring hf_slices_Contains_Lstring hB_slices_Contains_Lstring (by
  intro vs bs p v bs' h hp
  unfold c_slices_Contains_Lstring at h
  split at h
  · cases h
    exact ⟨by kernel_rfl, rfl, .inl (run_slices_Contains_Lstring _ _ hp.1 _ ⟨rfl, rfl⟩)⟩
  · cases h)

def c_meta_CheckBook : Contract := fun vs bs => match vs, bs with
  | [.agg [.dat (.list .str) l]], [] => some (none, .one (.dat .int (checkBook l)), [])
  | _, _ => none
def Γ_meta_CheckBook : Ctx := [(n_slices_Contains_Lstring, c_slices_Contains_Lstring)]
theorem ok_meta_CheckBook : Ok Tryz.prog tab Γ_meta_CheckBook := (ok_nil.consC hf_slices_Contains_Lstring hB_slices_Contains_Lstring sound_slices_Contains_Lstring)
noncomputable def meta_CheckBook_L0 : List It := [.inLoop [12, 11, 10, 2, 1] (Code.sub (bodyOf fn_meta_CheckBook) [1, 1, 0, 1, 0, 0]), .inBlock 0, .code (Code.sub (bodyOf fn_meta_CheckBook) [1, 1, 1])]
def meta_CheckBook_S0 (x0 : Int) (x1 : Int) (x2 : (List (List UInt8))) (x3 : Int) (x4 : (List (List UInt8))) : St := ⟨[(12, .one (dI x0)), (11, .one (dI x1)), (10, .one (.dat (Ty.list Ty.str) x2)), (2, .one (dI x3)), (1, .one (.ptr 0 0))], [(0, .box [.dat (Ty.list Ty.str) x4])], 1⟩
theorem meta_CheckBook_vc (l : List (List UInt8)) (rec : RK) (K : KK) : segD Γ_meta_CheckBook tab fn_meta_CheckBook 0 K rec [.code (bodyOf fn_meta_CheckBook)] (initSt [.agg [.dat (Ty.list Ty.str) l]] []) = (
 br (lti (60 : Int) (((len l) : Nat) : Int))
 (K (.one (dI (2 : Int))) [])
 (rec meta_CheckBook_L0 (meta_CheckBook_S0 (0 : Int) (((len l) : Nat) : Int) l (0 : Int) l))) := by kernel_rfl
theorem meta_CheckBook_w (m : Nat) (K : KK) (st : St) : goD Γ_meta_CheckBook tab fn_meta_CheckBook 0 K (m + 1) [.code (bodyOf fn_meta_CheckBook)] st = segD Γ_meta_CheckBook tab fn_meta_CheckBook 0 K (goD Γ_meta_CheckBook tab fn_meta_CheckBook 0 K m) [.code (bodyOf fn_meta_CheckBook)] st := rfl
theorem meta_CheckBook_vc0 (x0 : Int) (x1 : Int) (x2 : (List (List UInt8))) (x3 : Int) (x4 : (List (List UInt8))) (rec : RK) (K : KK) v0 (hv0 : v0 = (hasS (nth x2 (Int.toNat x0) (Ty.dflt Ty.str)) (slc x4 (Int.toNat (0 : Int)) (Int.toNat x0)))) : segD Γ_meta_CheckBook tab fn_meta_CheckBook 0 K rec (.code (Code.sub (bodyOf fn_meta_CheckBook) [1, 1, 0, 1, 0, 0]) :: meta_CheckBook_L0) (meta_CheckBook_S0 x0 x1 x2 x3 x4) = (
 br (lti x0 x1)
 ((((0 : Int) ≤ x0) ∧ (x0 < (((len x2) : Nat) : Int))) ∧
 (br (lti (2000 : Int) (((len (nth x2 (Int.toNat x0) (Ty.dflt Ty.str))) : Nat) : Int))
 (K (.one (dI (2 : Int))) [])
 ((((0 : Int) ≤ (0 : Int)) ∧ (((0 : Int) ≤ x0) ∧ (x0 ≤ (((len x4) : Nat) : Int)))) ∧
 (((List.length (slc x4 (Int.toNat (0 : Int)) (Int.toNat x0))) ≤ 140737488355328) ∧
 (br v0
 (K (.one (dI (6 : Int))) [])
 (rec meta_CheckBook_L0 (meta_CheckBook_S0 (w64 (x0 + (1 : Int))) x1 x2 x3 x4)))))))
 (K (.one (dI (0 : Int))) [])) := by subst_vars; kernel_rfl
theorem meta_CheckBook_w0 (m : Nat) (K : KK) (st : St) : goD Γ_meta_CheckBook tab fn_meta_CheckBook 0 K (m + 1) meta_CheckBook_L0 st = segD Γ_meta_CheckBook tab fn_meta_CheckBook 0 K (goD Γ_meta_CheckBook tab fn_meta_CheckBook 0 K m) (.code (Code.sub (bodyOf fn_meta_CheckBook) [1, 1, 0, 1, 0, 0]) :: meta_CheckBook_L0) st := rfl

theorem loop_meta_CheckBook (l : List (List UInt8)) (hl : l.length ≤ 60) (K : KK) : ∀ (d k : Nat), k + d = l.length → K (.one (dI (bookFrom (l.take k) (l.drop k)))) [] →
    goD Γ_meta_CheckBook tab fn_meta_CheckBook 0 K (d + 1) meta_CheckBook_L0 (meta_CheckBook_S0 (k : Int) (((len l) : Nat) : Int) l 0 l)
  | 0, k, hk, hK => by
    rw [meta_CheckBook_w0, meta_CheckBook_vc0 _ _ _ _ _ _ _ _ rfl]
    rw [List.drop_of_length_le (by omega)] at hK
    exact lt_f (by simp only [len]; omega) hK
  | d + 1, k, hk, hK => by
    rw [meta_CheckBook_w0, meta_CheckBook_vc0 _ _ _ _ _ _ _ _ rfl, toNat_nat, show Int.toNat (0 : Int) = 0 from rfl, slc_take]
    rw [drop_step (by omega) (Ty.dflt Ty.str)] at hK
    simp only [bookFrom] at hK
    refine lt_t (by simp only [len]; omega) ⟨⟨by omega, by simp only [len]; omega⟩, lt_s (fun h => ?_) (fun h => ⟨⟨by omega, by omega, by simp only [len]; omega⟩, by rw [List.length_take]; omega, br_split (fun h2 => ?_) (fun h2 => ?_)⟩)⟩
    · rw [if_pos (by simp only [len] at h; omega)] at hK; exact hK
    · rw [if_neg (by simp only [len] at h; omega), if_pos h2] at hK; exact hK
    · rw [if_neg (by simp only [len] at h; omega), if_neg (by rw [h2]; simp)] at hK
      rw [w64_succ (by omega)]
      rw [← take_step (by omega) (Ty.dflt Ty.str)] at hK
      exact loop_meta_CheckBook l hl K d (k + 1) (by omega) hK
set_option maxHeartbeats 4000000 in
theorem run_meta_CheckBook (l : List (List UInt8)) (K : KK) (hK : K (.one (dI (checkBook l))) []) : ∃ m, goD Γ_meta_CheckBook tab fn_meta_CheckBook 0 K m [.code (bodyOf fn_meta_CheckBook)] (initSt [.agg [.dat (.list .str) l]] []) := by
  refine ⟨l.length + 2, ?_⟩
  rw [meta_CheckBook_w, meta_CheckBook_vc _ _ _]
  unfold checkBook at hK
  refine lt_s (fun h => ?_) (fun h => ?_)
  · rw [if_pos (by simp only [len] at h; omega)] at hK; exact hK
  · rw [if_neg (by simp only [len] at h; omega)] at hK
    exact loop_meta_CheckBook l (by simp only [len] at h; omega) K l.length 0 (by omega) hK
theorem sound_meta_CheckBook : SoundC Tryz.prog tab n_meta_CheckBook c_meta_CheckBook := soundC_of ok_meta_CheckBook hf_meta_CheckBook hB_meta_CheckBook (by
  intro vs bs p v bs' h hp
  unfold c_meta_CheckBook at h
  split at h
  · cases h
    exact ⟨by kernel_rfl, rfl, .inl (run_meta_CheckBook _ _ ⟨rfl, rfl⟩)⟩
  · cases h)

def c_flash_Check : Contract := fun vs bs => match vs, bs with
  | [.agg [.dat (.list .int) ws, .dat .int fu]], [] => some (none, .one (.dat .int (checkFlash ⟨ws, fu⟩)), [])
  | _, _ => none
def Γ_flash_Check : Ctx := []
theorem ok_flash_Check : Ok Tryz.prog tab Γ_flash_Check := ok_nil
noncomputable def flash_Check_L0 : List It := [.inLoop [31, 30, 29, 2] (Code.sub (bodyOf fn_flash_Check) [1, 1, 1, 0, 1, 0, 0]), .inBlock 0, .code (Code.sub (bodyOf fn_flash_Check) [1, 1, 1, 1])]
def flash_Check_S0 (x0 : Int) (x1 : Int) (x2 : (List Int)) (x3 : Int) : St := ⟨[(31, .one (dI x0)), (30, .one (dI x1)), (29, .one (dL x2)), (2, .one (dI x3))], [], 0⟩
theorem flash_Check_vc (ws : List Int) (fu : Int) (rec : RK) (K : KK) : segD Γ_flash_Check tab fn_flash_Check 0 K rec [.code (bodyOf fn_flash_Check)] (initSt [.agg [dL ws, dI fu]] []) = (
 br (eqi (((len ws) : Nat) : Int) (0 : Int))
 (K (.one (dI (4 : Int))) [])
 (((32 : Int) ≠ (0 : Int)) ∧
 (br (!(eqi (Int.tmod (((len ws) : Nat) : Int) (32 : Int)) (0 : Int)))
 (K (.one (dI (4 : Int))) [])
 (br (lti (192 : Int) (((len ws) : Nat) : Int))
 (K (.one (dI (4 : Int))) [])
 (br (lti fu (-(1 : Int)))
 (K (.one (dI (3 : Int))) [])
 (br (lti (100000 : Int) fu)
 (K (.one (dI (3 : Int))) [])
 (rec flash_Check_L0 (flash_Check_S0 (0 : Int) (((len ws) : Nat) : Int) ws (0 : Int))))))))) := by kernel_rfl
theorem flash_Check_w (m : Nat) (K : KK) (st : St) : goD Γ_flash_Check tab fn_flash_Check 0 K (m + 1) [.code (bodyOf fn_flash_Check)] st = segD Γ_flash_Check tab fn_flash_Check 0 K (goD Γ_flash_Check tab fn_flash_Check 0 K m) [.code (bodyOf fn_flash_Check)] st := rfl
theorem flash_Check_vc0 (x0 : Int) (x1 : Int) (x2 : (List Int)) (x3 : Int) (rec : RK) (K : KK) : segD Γ_flash_Check tab fn_flash_Check 0 K rec (.code (Code.sub (bodyOf fn_flash_Check) [1, 1, 1, 0, 1, 0, 0]) :: flash_Check_L0) (flash_Check_S0 x0 x1 x2 x3) = (
 br (lti x0 x1)
 ((((0 : Int) ≤ x0) ∧ (x0 < (((len x2) : Nat) : Int))) ∧
 (br (lti (nth x2 (Int.toNat x0) (Ty.dflt Ty.int)) (0 : Int))
 (K (.one (dI (3 : Int))) [])
 (br (lti (65535 : Int) (nth x2 (Int.toNat x0) (Ty.dflt Ty.int)))
 (K (.one (dI (3 : Int))) [])
 (rec flash_Check_L0 (flash_Check_S0 (w64 (x0 + (1 : Int))) x1 x2 x3)))))
 (K (.one (dI (0 : Int))) [])) := by kernel_rfl
theorem flash_Check_w0 (m : Nat) (K : KK) (st : St) : goD Γ_flash_Check tab fn_flash_Check 0 K (m + 1) flash_Check_L0 st = segD Γ_flash_Check tab fn_flash_Check 0 K (goD Γ_flash_Check tab fn_flash_Check 0 K m) (.code (Code.sub (bodyOf fn_flash_Check) [1, 1, 1, 0, 1, 0, 0]) :: flash_Check_L0) st := rfl

theorem loop_flash_Check (ws : List Int) (hl : ws.length ≤ 192) (K : KK) (hK : K (.one (dI (if okWords ws then 0 else 3))) []) : ∀ (d k : Nat), k + d = ws.length → okWords (ws.take k) = true →
    goD Γ_flash_Check tab fn_flash_Check 0 K (d + 1) flash_Check_L0 (flash_Check_S0 (k : Int) (((len ws) : Nat) : Int) ws (0 : Int))
  | 0, k, hk, he => by
    rw [flash_Check_w0, flash_Check_vc0 _ _ _ _ _ _]
    refine lt_f (by simp only [len]; omega) ?_
    rw [List.take_of_length_le (by omega)] at he
    rw [if_pos he] at hK
    exact hK
  | d + 1, k, hk, he => by
    rw [flash_Check_w0, flash_Check_vc0 _ _ _ _ _ _]
    have bad : okWord (nth ws k (Ty.dflt Ty.int)) = false → K (.one (dI 3)) [] := fun h => by
      rw [show okWords ws = false from all_false (k := k) (by omega) _ h] at hK; exact hK
    refine lt_t (by simp only [len]; omega) ⟨⟨by omega, by simp only [len]; omega⟩, lt_s (fun h => ?_) (fun h => lt_s (fun h2 => ?_) (fun h2 => ?_))⟩
    · rw [toNat_nat] at h
      exact bad (by simp only [okWord, Bool.and_eq_false_iff, decide_eq_false_iff_not]; exact .inl (by omega))
    · rw [toNat_nat] at h2
      exact bad (by simp only [okWord, Bool.and_eq_false_iff, decide_eq_false_iff_not]; exact .inr (by omega))
    · rw [w64_succ (by omega)]
      rw [toNat_nat] at h h2
      exact loop_flash_Check ws hl K hK d (k + 1) (by omega) (all_take_step (by omega) (Ty.dflt Ty.int) he (by simp [okWord, h, h2]))
set_option maxHeartbeats 4000000 in
theorem run_flash_Check (ws : List Int) (fu : Int) (K : KK) (hK : K (.one (dI (checkFlash ⟨ws, fu⟩))) []) : ∃ m, goD Γ_flash_Check tab fn_flash_Check 0 K m [.code (bodyOf fn_flash_Check)] (initSt [.agg [dL ws, dI fu]] []) := by
  refine ⟨ws.length + 2, ?_⟩
  rw [flash_Check_w, flash_Check_vc _ _ _ _]
  have four : okLen ws.length = false → K (.one (dI 4)) [] := fun h => by
    rw [show checkFlash ⟨ws, fu⟩ = 4 from by simp [checkFlash, h]] at hK; exact hK
  refine eq_s (fun h => four ?_) (fun h => ⟨by decide, ne_s (fun h2 => four ?_) (fun h2 => lt_s (fun h3 => four ?_) (fun h3 => ?_))⟩)
  · simp only [len] at h; simp [okLen]; omega
  · simp only [len] at h2; rw [Int.tmod_eq_emod_of_nonneg (by omega)] at h2; simp [okLen]; omega
  · simp only [len] at h3; simp [okLen]; omega
  · have hlen : okLen ws.length = true := by simp only [len] at h h2 h3; rw [Int.tmod_eq_emod_of_nonneg (by omega)] at h2; simp [okLen]; omega
    have three : (decide (-1 ≤ fu) && decide (fu ≤ 100000)) = false → K (.one (dI 3)) [] := fun h => by
      rw [show checkFlash ⟨ws, fu⟩ = 3 from by simp [checkFlash, hlen, h]] at hK; exact hK
    refine lt_s (fun h4 => three ?_) (fun h4 => lt_s (fun h5 => three ?_) (fun h5 => ?_))
    · simp; omega
    · simp; omega
    · refine loop_flash_Check ws (by simp only [len] at h3; omega) K ?_ ws.length 0 (by omega) rfl
      rw [show checkFlash ⟨ws, fu⟩ = if okWords ws then 0 else 3 from by simp [checkFlash, hlen, h4, h5]] at hK
      exact hK
theorem sound_flash_Check : SoundC Tryz.prog tab n_flash_Check c_flash_Check := soundC_of ok_flash_Check hf_flash_Check hB_flash_Check (by
  intro vs bs p v bs' h hp
  unfold c_flash_Check at h
  split at h
  · cases h
    exact ⟨by kernel_rfl, rfl, .inl (run_flash_Check _ _ _ ⟨rfl, rfl⟩)⟩
  · cases h)

def c_log_live : Contract := fun vs bs => match vs, bs with
  | [.agg [.dat (.list .int) ws, .dat .int _]], [] => some (some (64 ≤ len ws ∧ okWords ws = true), .tup [.one (.dat .int (liveS ws)), .one (.dat .int (liveG ws)), .one (.dat .bool (liveOk ws))], [])
  | _, _ => none
def Γ_log_live : Ctx := []
theorem ok_log_live : Ok Tryz.prog tab Γ_log_live := ok_nil
theorem log_live_vc (ws : List Int) (fu : Int) (rec : RK) (K : KK) v0 (hv0 : v0 = (K (.tup [.one (dI (0 : Int)), .one (dI (nth ws (Int.toNat (0 : Int)) (Ty.dflt Ty.int))), .one (dB (lti (0 : Int) (nth ws (Int.toNat (0 : Int)) (Ty.dflt Ty.int))))]) [])) v1 (hv1 : v1 = (K (.tup [.one (dI (1 : Int)), .one (dI (nth ws (Int.toNat (32 : Int)) (Ty.dflt Ty.int))), .one (dB true)]) [])) v2 (hv2 : v2 = (K (.tup [.one (dI (0 : Int)), .one (dI (0 : Int)), .one (dB (lti (0 : Int) (0 : Int)))]) [])) : segD Γ_log_live tab fn_log_live 0 K rec [.code (bodyOf fn_log_live)] (initSt [.agg [dL ws, dI fu]] []) = (
 (((0 : Int) ≤ (0 : Int)) ∧ ((0 : Int) < (((len ws) : Nat) : Int))) ∧
 ((((0 : Int) ≤ (32 : Int)) ∧ ((32 : Int) < (((len ws) : Nat) : Int))) ∧
 (br (eqi (nth ws (Int.toNat (0 : Int)) (Ty.dflt Ty.int)) (65535 : Int))
 (br (eqi (nth ws (Int.toNat (32 : Int)) (Ty.dflt Ty.int)) (65535 : Int))
 v2
 (br (lti (0 : Int) (nth ws (Int.toNat (32 : Int)) (Ty.dflt Ty.int)))
 v1
 v2))
 (br (eqi (nth ws (Int.toNat (32 : Int)) (Ty.dflt Ty.int)) (65535 : Int))
 (br (lti (nth ws (Int.toNat (0 : Int)) (Ty.dflt Ty.int)) (0 : Int))
 (K (.tup [.one (dI (1 : Int)), .one (dI (0 : Int)), .one (dB true)]) [])
 v0)
 (br (lti (nth ws (Int.toNat (0 : Int)) (Ty.dflt Ty.int)) (nth ws (Int.toNat (32 : Int)) (Ty.dflt Ty.int)))
 v1
 v0))))) := by subst_vars; kernel_rfl
theorem log_live_w (m : Nat) (K : KK) (st : St) : goD Γ_log_live tab fn_log_live 0 K (m + 1) [.code (bodyOf fn_log_live)] st = segD Γ_log_live tab fn_log_live 0 K (goD Γ_log_live tab fn_log_live 0 K m) [.code (bodyOf fn_log_live)] st := rfl

set_option maxHeartbeats 4000000 in
theorem run_log_live (ws : List Int) (fu : Int) (hp : 64 ≤ len ws ∧ okWords ws = true) (K : KK) (hK : K (.tup [.one (dI (liveS ws)), .one (dI (liveG ws)), .one (dB (liveOk ws))]) []) : ∃ m, goD Γ_log_live tab fn_log_live 0 K m [.code (bodyOf fn_log_live)] (initSt [.agg [dL ws, dI fu]] []) := by
  obtain ⟨hl, hok⟩ := hp
  refine ⟨1, ?_⟩
  rw [log_live_w, log_live_vc _ _ _ _ _ rfl _ rfl _ rfl]
  have o0 := getD_ok hok 0
  have o1 := getD_ok hok 32
  have e0 : nth ws (Int.toNat (0 : Int)) (Ty.dflt Ty.int) = ws.getD 0 0 := rfl
  have e1 : nth ws (Int.toNat (32 : Int)) (Ty.dflt Ty.int) = ws.getD 32 0 := rfl
  rw [e0, e1]
  have g0 : genOf ws 0 = if ws.getD 0 0 = 65535 then 0 else ws.getD 0 0 := rfl
  have g1 : genOf ws 1 = if ws.getD 32 0 = 65535 then 0 else ws.getD 32 0 := rfl
  unfold liveOk liveG liveS at hK
  refine ⟨⟨by omega, by omega⟩, ⟨by omega, by omega⟩, eq_s (fun h => eq_s (fun h2 => ?_) (fun h2 => lt_s (fun h3 => ?_) (fun h3 => ?_))) (fun h => eq_s (fun h2 => lt_s (fun h3 => ?_) (fun h3 => ?_)) (fun h2 => lt_s (fun h3 => ?_) (fun h3 => ?_)))⟩
  · rw [if_pos h] at g0; rw [if_pos h2] at g1
    rw [if_neg (by omega), g0] at hK; exact hK
  · rw [if_pos h] at g0; rw [if_neg h2] at g1
    rw [if_pos (by omega), g1, show decide (0 < ws.getD 32 0) = true from decide_eq_true h3] at hK; exact hK
  · rw [if_pos h] at g0; rw [if_neg h2] at g1
    rw [if_neg (by omega), g0] at hK; exact hK
  · omega
  · rw [if_neg h] at g0; rw [if_pos h2] at g1
    rw [if_neg (by omega), g0] at hK; exact hK
  · rw [if_neg h] at g0; rw [if_neg h2] at g1
    rw [if_pos (by omega), g1, show decide (0 < ws.getD 32 0) = true from decide_eq_true (by omega)] at hK; exact hK
  · rw [if_neg h] at g0; rw [if_neg h2] at g1
    rw [if_neg (by omega), g0] at hK; exact hK
theorem sound_log_live : SoundC Tryz.prog tab n_log_live c_log_live := soundC_of ok_log_live hf_log_live hB_log_live (by
  intro vs bs p v bs' h hp
  unfold c_log_live at h
  split at h
  · cases h
    exact ⟨by kernel_rfl, rfl, .inl (run_log_live _ _ hp.1 _ ⟨rfl, rfl⟩)⟩
  · cases h)

def c_log_Check : Contract := fun vs bs => match vs, bs with
  | [.agg [.dat (.list .int) ws, .dat .int fu]], [] => some (none, .one (.dat .int (checkLog ⟨ws, fu⟩)), [])
  | _, _ => none
def Γ_log_Check : Ctx := [(n_flash_Check, c_flash_Check), (n_log_live, c_log_live)]
theorem ok_log_Check : Ok Tryz.prog tab Γ_log_Check := ((ok_nil.consC hf_log_live hB_log_live sound_log_live).consC hf_flash_Check hB_flash_Check sound_flash_Check)
theorem log_Check_vc (ws : List Int) (fu : Int) (rec : RK) (K : KK) v0 (hv0 : v0 = (checkFlash (⟨ws, fu⟩ : Flash))) v1 (hv1 : v1 = (okWords ws)) v2 (hv2 : v2 = (liveOk ws)) v3 (hv3 : v3 = (liveG ws)) : segD Γ_log_Check tab fn_log_Check 0 K rec [.code (bodyOf fn_log_Check)] (initSt [.agg [dL ws, dI fu]] []) = (
 br (!(eqi v0 (0 : Int)))
 (K (.one (dI v0)) [])
 (br (lti (((len ws) : Nat) : Int) (64 : Int))
 (K (.one (dI (4 : Int))) [])
 (((64 ≤ (len ws)) ∧ (v1 = true)) ∧
 (br (!v2)
 (K (.one (dI (5 : Int))) [])
 (br (lti (60000 : Int) v3)
 (K (.one (dI (5 : Int))) [])
 (K (.one (dI (0 : Int))) [])))))) := by subst_vars; kernel_rfl
theorem log_Check_w (m : Nat) (K : KK) (st : St) : goD Γ_log_Check tab fn_log_Check 0 K (m + 1) [.code (bodyOf fn_log_Check)] st = segD Γ_log_Check tab fn_log_Check 0 K (goD Γ_log_Check tab fn_log_Check 0 K m) [.code (bodyOf fn_log_Check)] st := rfl

set_option maxHeartbeats 4000000 in
theorem run_log_Check (ws : List Int) (fu : Int) (K : KK) (hK : K (.one (dI (checkLog ⟨ws, fu⟩))) []) : ∃ m, goD Γ_log_Check tab fn_log_Check 0 K m [.code (bodyOf fn_log_Check)] (initSt [.agg [dL ws, dI fu]] []) := by
  refine ⟨1, ?_⟩
  rw [log_Check_w, log_Check_vc _ _ _ _ _ rfl _ rfl _ rfl _ rfl]
  unfold checkLog at hK
  refine ne_s (fun h => ?_) (fun h => ?_)
  · rw [if_neg h] at hK; exact hK
  rw [if_pos h] at hK
  refine lt_s (fun h2 => ?_) (fun h2 => ?_)
  · rw [if_neg (by simp only [len] at h2 ⊢; omega)] at hK; exact hK
  rw [if_pos (by simp only [len] at h2 ⊢; omega)] at hK
  refine ⟨⟨by simp only [len] at h2 ⊢; omega, (checkFlash_ok h).2.2.2⟩, nt_s (fun h3 => ?_) (fun h3 => lt_s (fun h4 => ?_) (fun h4 => ?_))⟩
  · rw [if_neg (by simp only [liveOk, decide_eq_false_iff_not] at h3 ⊢; omega)] at hK; exact hK
  · rw [if_neg (by simp only; omega)] at hK; exact hK
  · rw [if_pos (by simp only [liveOk, decide_eq_true_eq] at h3 ⊢; omega)] at hK; exact hK
theorem sound_log_Check : SoundC Tryz.prog tab n_log_Check c_log_Check := soundC_of ok_log_Check hf_log_Check hB_log_Check (by
  intro vs bs p v bs' h hp
  unfold c_log_Check at h
  split at h
  · cases h
    exact ⟨by kernel_rfl, rfl, .inl (run_log_Check _ _ _ ⟨rfl, rfl⟩)⟩
  · cases h)

def c_unit_Check : Contract := fun vs bs => match vs, bs with
  | [.agg [.dat (.list .int) ws, .dat .int fu, .dat .bool up, .dat .int un, .dat .int ug]], [] => some (none, .one (.dat .int (checkU ⟨⟨ws, fu⟩, up, un, ug⟩)), [])
  | _, _ => none
def Γ_unit_Check : Ctx := [(n_log_Check, c_log_Check)]
theorem ok_unit_Check : Ok Tryz.prog tab Γ_unit_Check := (ok_nil.consC hf_log_Check hB_log_Check sound_log_Check)
theorem unit_Check_vc (ws : List Int) (fu : Int) (up : Bool) (un : Int) (ug : Int) (rec : RK) (K : KK) v0 (hv0 : v0 = (checkLog ⟨ws, fu⟩)) : segD Γ_unit_Check tab fn_unit_Check 0 K rec [.code (bodyOf fn_unit_Check)] (initSt [.agg [dL ws, dI fu, dB up, dI un, dI ug]] []) = (
 br (!(eqi v0 (0 : Int)))
 (K (.one (dI v0)) [])
 (br (!(eqi (((len ws) : Nat) : Int) (192 : Int)))
 (K (.one (dI (4 : Int))) [])
 (br (lti un (0 : Int))
 (K (.one (dI (3 : Int))) [])
 (br (lti (8 : Int) un)
 (K (.one (dI (3 : Int))) [])
 (br (lti ug (0 : Int))
 (K (.one (dI (3 : Int))) [])
 (br (lti (40 : Int) ug)
 (K (.one (dI (3 : Int))) [])
 (K (.one (dI (0 : Int))) []))))))) := by subst_vars; kernel_rfl
theorem unit_Check_w (m : Nat) (K : KK) (st : St) : goD Γ_unit_Check tab fn_unit_Check 0 K (m + 1) [.code (bodyOf fn_unit_Check)] st = segD Γ_unit_Check tab fn_unit_Check 0 K (goD Γ_unit_Check tab fn_unit_Check 0 K m) [.code (bodyOf fn_unit_Check)] st := rfl

set_option maxHeartbeats 4000000 in
theorem run_unit_Check (ws : List Int) (fu : Int) (up : Bool) (un ug : Int) (K : KK) (hK : K (.one (dI (checkU ⟨⟨ws, fu⟩, up, un, ug⟩))) []) : ∃ m, goD Γ_unit_Check tab fn_unit_Check 0 K m [.code (bodyOf fn_unit_Check)] (initSt [.agg [dL ws, dI fu, dB up, dI un, dI ug]] []) := by
  refine ⟨1, ?_⟩
  rw [unit_Check_w, unit_Check_vc _ _ _ _ _ _ _ _ rfl]
  unfold checkU at hK
  simp only at hK
  refine ne_s (fun h => ?_) (fun h => ne_s (fun h2 => ?_) (fun h2 => lt_s (fun h3 => ?_) (fun h3 => lt_s (fun h4 => ?_) (fun h4 => lt_s (fun h5 => ?_) (fun h5 => lt_s (fun h6 => ?_) (fun h6 => ?_))))))
  · rw [if_neg h] at hK; exact hK
  · rw [if_pos h, if_neg (by simp only [len] at h2; omega)] at hK; exact hK
  all_goals rw [if_pos h, if_pos (by simp only [len] at h2; omega)] at hK
  · rw [if_pos (by omega)] at hK; exact hK
  · rw [if_pos (by omega)] at hK; exact hK
  · rw [if_pos (by omega)] at hK; exact hK
  · rw [if_pos (by omega)] at hK; exact hK
  · rw [if_neg (by omega)] at hK; exact hK
theorem sound_unit_Check : SoundC Tryz.prog tab n_unit_Check c_unit_Check := soundC_of ok_unit_Check hf_unit_Check hB_unit_Check (by
  intro vs bs p v bs' h hp
  unfold c_unit_Check at h
  split at h
  · cases h
    exact ⟨by kernel_rfl, rfl, .inl (run_unit_Check _ _ _ _ _ _ ⟨rfl, rfl⟩)⟩
  · cases h)

def c_flash_Program_1 : Contract := fun vs bs => match vs, bs with
  | [.one (.dat .int w)], [] => some (none, .one (.dat .bool (!okWord w)), [])
  | _, _ => none
def Γ_flash_Program_1 : Ctx := []
theorem ok_flash_Program_1 : Ok Tryz.prog tab Γ_flash_Program_1 := ok_nil
theorem flash_Program_1_vc (w : Int) (rec : RK) (K : KK) : segD Γ_flash_Program_1 tab fn_flash_Program_1 0 K rec [.code (bodyOf fn_flash_Program_1)] (initSt [.one (dI w)] []) = (
 br (lti w (0 : Int))
 (K vT [])
 (K (.one (dB (lti (65535 : Int) w))) [])) := by kernel_rfl
theorem flash_Program_1_w (m : Nat) (K : KK) (st : St) : goD Γ_flash_Program_1 tab fn_flash_Program_1 0 K (m + 1) [.code (bodyOf fn_flash_Program_1)] st = segD Γ_flash_Program_1 tab fn_flash_Program_1 0 K (goD Γ_flash_Program_1 tab fn_flash_Program_1 0 K m) [.code (bodyOf fn_flash_Program_1)] st := rfl

set_option maxHeartbeats 4000000 in
theorem run_flash_Program_1 (w : Int) (K : KK) (hK : K (.one (dB (!okWord w))) []) : ∃ m, goD Γ_flash_Program_1 tab fn_flash_Program_1 0 K m [.code (bodyOf fn_flash_Program_1)] (initSt [.one (dI w)] []) := by
  refine ⟨1, ?_⟩
  rw [flash_Program_1_w, flash_Program_1_vc _ _ _]
  refine lt_s (fun h => ?_) (fun h => ?_)
  · rw [show (!okWord w) = true from by simp [okWord]; omega] at hK; exact hK
  · rw [show (!okWord w) = lti 65535 w from by simp [okWord, lti, h]; by_cases h2 : w ≤ 65535 <;> simp [h2] <;> omega] at hK; exact hK
theorem sound_flash_Program_1 : SoundC Tryz.prog tab n_flash_Program_1 c_flash_Program_1 := soundC_of ok_flash_Program_1 hf_flash_Program_1 hB_flash_Program_1 (by
  intro vs bs p v bs' h hp
  unfold c_flash_Program_1 at h
  split at h
  · cases h
    exact ⟨by kernel_rfl, rfl, .inl (run_flash_Program_1 _ _ ⟨rfl, rfl⟩)⟩
  · cases h)

def c_ref_IsWord : Contract := fun vs bs => match vs, bs with
  | [.one (.dat .int w)], [] => some (none, .one (.dat .bool (okWord w)), [])
  | _, _ => none
def Γ_ref_IsWord : Ctx := []
theorem ok_ref_IsWord : Ok Tryz.prog tab Γ_ref_IsWord := ok_nil
theorem ref_IsWord_vc (w : Int) (rec : RK) (K : KK) : segD Γ_ref_IsWord tab fn_ref_IsWord 0 K rec [.code (bodyOf fn_ref_IsWord)] (initSt [.one (dI w)] []) = (
 br (lei (0 : Int) w)
 (K (.one (dB (lei w (65535 : Int)))) [])
 (K vF [])) := by kernel_rfl
theorem ref_IsWord_w (m : Nat) (K : KK) (st : St) : goD Γ_ref_IsWord tab fn_ref_IsWord 0 K (m + 1) [.code (bodyOf fn_ref_IsWord)] st = segD Γ_ref_IsWord tab fn_ref_IsWord 0 K (goD Γ_ref_IsWord tab fn_ref_IsWord 0 K m) [.code (bodyOf fn_ref_IsWord)] st := rfl

set_option maxHeartbeats 4000000 in
theorem run_ref_IsWord (w : Int) (K : KK) (hK : K (.one (dB (okWord w))) []) : ∃ m, goD Γ_ref_IsWord tab fn_ref_IsWord 0 K m [.code (bodyOf fn_ref_IsWord)] (initSt [.one (dI w)] []) := by
  refine ⟨1, ?_⟩
  rw [ref_IsWord_w, ref_IsWord_vc _ _ _]
  refine br_split (fun h => ?_) (fun h => ?_)
  · rw [show okWord w = lei w 65535 from by rw [lei_true] at h; simp [okWord, lei, h]] at hK; exact hK
  · rw [show okWord w = false from by rw [lei_false] at h; simp [okWord]; omega] at hK; exact hK
theorem sound_ref_IsWord : SoundC Tryz.prog tab n_ref_IsWord c_ref_IsWord := soundC_of ok_ref_IsWord hf_ref_IsWord hB_ref_IsWord (by
  intro vs bs p v bs' h hp
  unfold c_ref_IsWord at h
  split at h
  · cases h
    exact ⟨by kernel_rfl, rfl, .inl (run_ref_IsWord _ _ ⟨rfl, rfl⟩)⟩
  · cases h)

def c_ref_allWords_1 : Contract := fun vs bs => match vs, bs with
  | [.one (.dat .int w)], [] => some (none, .one (.dat .bool (!okWord w)), [])
  | _, _ => none
def Γ_ref_allWords_1 : Ctx := [(n_ref_IsWord, c_ref_IsWord)]
theorem ok_ref_allWords_1 : Ok Tryz.prog tab Γ_ref_allWords_1 := (ok_nil.consC hf_ref_IsWord hB_ref_IsWord sound_ref_IsWord)
theorem ref_allWords_1_vc (w : Int) (rec : RK) (K : KK) v0 (hv0 : v0 = (okWord w)) : segD Γ_ref_allWords_1 tab fn_ref_allWords_1 0 K rec [.code (bodyOf fn_ref_allWords_1)] (initSt [.one (dI w)] []) = (
 K (.one (dB (!v0))) []) := by subst_vars; kernel_rfl
theorem ref_allWords_1_w (m : Nat) (K : KK) (st : St) : goD Γ_ref_allWords_1 tab fn_ref_allWords_1 0 K (m + 1) [.code (bodyOf fn_ref_allWords_1)] st = segD Γ_ref_allWords_1 tab fn_ref_allWords_1 0 K (goD Γ_ref_allWords_1 tab fn_ref_allWords_1 0 K m) [.code (bodyOf fn_ref_allWords_1)] st := rfl

set_option maxHeartbeats 4000000 in
theorem run_ref_allWords_1 (w : Int) (K : KK) (hK : K (.one (dB (!okWord w))) []) : ∃ m, goD Γ_ref_allWords_1 tab fn_ref_allWords_1 0 K m [.code (bodyOf fn_ref_allWords_1)] (initSt [.one (dI w)] []) := by
  refine ⟨1, ?_⟩
  rw [ref_allWords_1_w, ref_allWords_1_vc _ _ _ _ rfl]
  exact hK
theorem sound_ref_allWords_1 : SoundC Tryz.prog tab n_ref_allWords_1 c_ref_allWords_1 := soundC_of ok_ref_allWords_1 hf_ref_allWords_1 hB_ref_allWords_1 (by
  intro vs bs p v bs' h hp
  unfold c_ref_allWords_1 at h
  split at h
  · cases h
    exact ⟨by kernel_rfl, rfl, .inl (run_ref_allWords_1 _ _ ⟨rfl, rfl⟩)⟩
  · cases h)

def c_unit_CheckMessage_1 : Contract := fun vs bs => match vs, bs with
  | [.one (.dat .int w)], [] => some (none, .one (.dat .bool (!okWord w)), [])
  | _, _ => none
def Γ_unit_CheckMessage_1 : Ctx := []
theorem ok_unit_CheckMessage_1 : Ok Tryz.prog tab Γ_unit_CheckMessage_1 := ok_nil
theorem unit_CheckMessage_1_vc (w : Int) (rec : RK) (K : KK) : segD Γ_unit_CheckMessage_1 tab fn_unit_CheckMessage_1 0 K rec [.code (bodyOf fn_unit_CheckMessage_1)] (initSt [.one (dI w)] []) = (
 br (lti w (0 : Int))
 (K vT [])
 (K (.one (dB (lti (65535 : Int) w))) [])) := by kernel_rfl
theorem unit_CheckMessage_1_w (m : Nat) (K : KK) (st : St) : goD Γ_unit_CheckMessage_1 tab fn_unit_CheckMessage_1 0 K (m + 1) [.code (bodyOf fn_unit_CheckMessage_1)] st = segD Γ_unit_CheckMessage_1 tab fn_unit_CheckMessage_1 0 K (goD Γ_unit_CheckMessage_1 tab fn_unit_CheckMessage_1 0 K m) [.code (bodyOf fn_unit_CheckMessage_1)] st := rfl

set_option maxHeartbeats 4000000 in
theorem run_unit_CheckMessage_1 (w : Int) (K : KK) (hK : K (.one (dB (!okWord w))) []) : ∃ m, goD Γ_unit_CheckMessage_1 tab fn_unit_CheckMessage_1 0 K m [.code (bodyOf fn_unit_CheckMessage_1)] (initSt [.one (dI w)] []) := by
  refine ⟨1, ?_⟩
  rw [unit_CheckMessage_1_w, unit_CheckMessage_1_vc _ _ _]
  refine lt_s (fun h => ?_) (fun h => ?_)
  · rw [show (!okWord w) = true from by simp [okWord]; omega] at hK; exact hK
  · rw [show (!okWord w) = lti 65535 w from by simp [okWord, lti, h]; by_cases h2 : w ≤ 65535 <;> simp [h2] <;> omega] at hK; exact hK
theorem sound_unit_CheckMessage_1 : SoundC Tryz.prog tab n_unit_CheckMessage_1 c_unit_CheckMessage_1 := soundC_of ok_unit_CheckMessage_1 hf_unit_CheckMessage_1 hB_unit_CheckMessage_1 (by
  intro vs bs p v bs' h hp
  unfold c_unit_CheckMessage_1 at h
  split at h
  · cases h
    exact ⟨by kernel_rfl, rfl, .inl (run_unit_CheckMessage_1 _ _ ⟨rfl, rfl⟩)⟩
  · cases h)

def c_slices_IndexFunc_Lint : Contract := fun vs bs => match vs, bs with
  | [.one (.dat (.list .int) l), .one (.fn f [])], [] => (match Nat.beq f n_flash_Program_1 with | true => some (some (Sm l), .one (.dat .int (firstBad l)), []) | false => (match Nat.beq f n_ref_allWords_1 with | true => some (some (Sm l), .one (.dat .int (firstBad l)), []) | false => (match Nat.beq f n_unit_CheckMessage_1 with | true => some (some (Sm l), .one (.dat .int (firstBad l)), []) | false => none)))
  | _, _ => none
def Γ_slices_IndexFunc_Lint : Ctx := [(n_flash_Program_1, c_flash_Program_1), (n_ref_allWords_1, c_ref_allWords_1), (n_unit_CheckMessage_1, c_unit_CheckMessage_1)]
theorem ok_slices_IndexFunc_Lint : Ok Tryz.prog tab Γ_slices_IndexFunc_Lint := (((ok_nil.consC hf_unit_CheckMessage_1 hB_unit_CheckMessage_1 sound_unit_CheckMessage_1).consC hf_ref_allWords_1 hB_ref_allWords_1 sound_ref_allWords_1).consC hf_flash_Program_1 hB_flash_Program_1 sound_flash_Program_1)
noncomputable def slices_IndexFunc_Lint_0_L0 : List It := [.inLoop [8, 7, 4, 0, 1] (Code.sub (bodyOf fn_slices_IndexFunc_Lint) [1, 0, 1, 0, 0]), .inBlock 0, .code (Code.sub (bodyOf fn_slices_IndexFunc_Lint) [1, 1])]
def slices_IndexFunc_Lint_0_S0 (x0 : Int) (x1 : Int) (x2 : Int) (x3 : (List Int)) : St := ⟨[(8, .one (dI x0)), (7, .one (dI x1)), (4, .one (dI x2)), (0, .one (dL x3)), (1, .one (.fn n_flash_Program_1 []))], [], 0⟩
theorem slices_IndexFunc_Lint_0_vc (l : List Int) (rec : RK) (K : KK) : segD Γ_slices_IndexFunc_Lint tab fn_slices_IndexFunc_Lint 0 K rec [.code (bodyOf fn_slices_IndexFunc_Lint)] (initSt [.one (dL l), .one (.fn n_flash_Program_1 [])] []) = (
 rec slices_IndexFunc_Lint_0_L0 (slices_IndexFunc_Lint_0_S0 (0 : Int) (((len l) : Nat) : Int) (0 : Int) l)) := by kernel_rfl
theorem slices_IndexFunc_Lint_0_w (m : Nat) (K : KK) (st : St) : goD Γ_slices_IndexFunc_Lint tab fn_slices_IndexFunc_Lint 0 K (m + 1) [.code (bodyOf fn_slices_IndexFunc_Lint)] st = segD Γ_slices_IndexFunc_Lint tab fn_slices_IndexFunc_Lint 0 K (goD Γ_slices_IndexFunc_Lint tab fn_slices_IndexFunc_Lint 0 K m) [.code (bodyOf fn_slices_IndexFunc_Lint)] st := rfl
theorem slices_IndexFunc_Lint_0_vc0 (x0 : Int) (x1 : Int) (x2 : Int) (x3 : (List Int)) (rec : RK) (K : KK) v0 (hv0 : v0 = (okWord (nth x3 (Int.toNat x0) (Ty.dflt Ty.int)))) : segD Γ_slices_IndexFunc_Lint tab fn_slices_IndexFunc_Lint 0 K rec (.code (Code.sub (bodyOf fn_slices_IndexFunc_Lint) [1, 0, 1, 0, 0]) :: slices_IndexFunc_Lint_0_L0) (slices_IndexFunc_Lint_0_S0 x0 x1 x2 x3) = (
 br (lti x0 x1)
 ((((0 : Int) ≤ x0) ∧ (x0 < (((len x3) : Nat) : Int))) ∧
 (br (!v0)
 (K (.one (dI x0)) [])
 (rec slices_IndexFunc_Lint_0_L0 (slices_IndexFunc_Lint_0_S0 (w64 (x0 + (1 : Int))) x1 x2 x3))))
 (K (.one (dI (-(1 : Int)))) [])) := by subst_vars; kernel_rfl
theorem slices_IndexFunc_Lint_0_w0 (m : Nat) (K : KK) (st : St) : goD Γ_slices_IndexFunc_Lint tab fn_slices_IndexFunc_Lint 0 K (m + 1) slices_IndexFunc_Lint_0_L0 st = segD Γ_slices_IndexFunc_Lint tab fn_slices_IndexFunc_Lint 0 K (goD Γ_slices_IndexFunc_Lint tab fn_slices_IndexFunc_Lint 0 K m) (.code (Code.sub (bodyOf fn_slices_IndexFunc_Lint) [1, 0, 1, 0, 0]) :: slices_IndexFunc_Lint_0_L0) st := rfl

noncomputable def slices_IndexFunc_Lint_1_L0 : List It := [.inLoop [8, 7, 4, 0, 1] (Code.sub (bodyOf fn_slices_IndexFunc_Lint) [1, 0, 1, 0, 0]), .inBlock 0, .code (Code.sub (bodyOf fn_slices_IndexFunc_Lint) [1, 1])]
def slices_IndexFunc_Lint_1_S0 (x0 : Int) (x1 : Int) (x2 : Int) (x3 : (List Int)) : St := ⟨[(8, .one (dI x0)), (7, .one (dI x1)), (4, .one (dI x2)), (0, .one (dL x3)), (1, .one (.fn n_ref_allWords_1 []))], [], 0⟩
theorem slices_IndexFunc_Lint_1_vc (l : List Int) (rec : RK) (K : KK) : segD Γ_slices_IndexFunc_Lint tab fn_slices_IndexFunc_Lint 0 K rec [.code (bodyOf fn_slices_IndexFunc_Lint)] (initSt [.one (dL l), .one (.fn n_ref_allWords_1 [])] []) = (
 rec slices_IndexFunc_Lint_1_L0 (slices_IndexFunc_Lint_1_S0 (0 : Int) (((len l) : Nat) : Int) (0 : Int) l)) := by kernel_rfl
theorem slices_IndexFunc_Lint_1_w (m : Nat) (K : KK) (st : St) : goD Γ_slices_IndexFunc_Lint tab fn_slices_IndexFunc_Lint 0 K (m + 1) [.code (bodyOf fn_slices_IndexFunc_Lint)] st = segD Γ_slices_IndexFunc_Lint tab fn_slices_IndexFunc_Lint 0 K (goD Γ_slices_IndexFunc_Lint tab fn_slices_IndexFunc_Lint 0 K m) [.code (bodyOf fn_slices_IndexFunc_Lint)] st := rfl
theorem slices_IndexFunc_Lint_1_vc0 (x0 : Int) (x1 : Int) (x2 : Int) (x3 : (List Int)) (rec : RK) (K : KK) v0 (hv0 : v0 = (okWord (nth x3 (Int.toNat x0) (Ty.dflt Ty.int)))) : segD Γ_slices_IndexFunc_Lint tab fn_slices_IndexFunc_Lint 0 K rec (.code (Code.sub (bodyOf fn_slices_IndexFunc_Lint) [1, 0, 1, 0, 0]) :: slices_IndexFunc_Lint_1_L0) (slices_IndexFunc_Lint_1_S0 x0 x1 x2 x3) = (
 br (lti x0 x1)
 ((((0 : Int) ≤ x0) ∧ (x0 < (((len x3) : Nat) : Int))) ∧
 (br (!v0)
 (K (.one (dI x0)) [])
 (rec slices_IndexFunc_Lint_1_L0 (slices_IndexFunc_Lint_1_S0 (w64 (x0 + (1 : Int))) x1 x2 x3))))
 (K (.one (dI (-(1 : Int)))) [])) := by subst_vars; kernel_rfl
theorem slices_IndexFunc_Lint_1_w0 (m : Nat) (K : KK) (st : St) : goD Γ_slices_IndexFunc_Lint tab fn_slices_IndexFunc_Lint 0 K (m + 1) slices_IndexFunc_Lint_1_L0 st = segD Γ_slices_IndexFunc_Lint tab fn_slices_IndexFunc_Lint 0 K (goD Γ_slices_IndexFunc_Lint tab fn_slices_IndexFunc_Lint 0 K m) (.code (Code.sub (bodyOf fn_slices_IndexFunc_Lint) [1, 0, 1, 0, 0]) :: slices_IndexFunc_Lint_1_L0) st := rfl

noncomputable def slices_IndexFunc_Lint_2_L0 : List It := [.inLoop [8, 7, 4, 0, 1] (Code.sub (bodyOf fn_slices_IndexFunc_Lint) [1, 0, 1, 0, 0]), .inBlock 0, .code (Code.sub (bodyOf fn_slices_IndexFunc_Lint) [1, 1])]
def slices_IndexFunc_Lint_2_S0 (x0 : Int) (x1 : Int) (x2 : Int) (x3 : (List Int)) : St := ⟨[(8, .one (dI x0)), (7, .one (dI x1)), (4, .one (dI x2)), (0, .one (dL x3)), (1, .one (.fn n_unit_CheckMessage_1 []))], [], 0⟩
theorem slices_IndexFunc_Lint_2_vc (l : List Int) (rec : RK) (K : KK) : segD Γ_slices_IndexFunc_Lint tab fn_slices_IndexFunc_Lint 0 K rec [.code (bodyOf fn_slices_IndexFunc_Lint)] (initSt [.one (dL l), .one (.fn n_unit_CheckMessage_1 [])] []) = (
 rec slices_IndexFunc_Lint_2_L0 (slices_IndexFunc_Lint_2_S0 (0 : Int) (((len l) : Nat) : Int) (0 : Int) l)) := by kernel_rfl
theorem slices_IndexFunc_Lint_2_w (m : Nat) (K : KK) (st : St) : goD Γ_slices_IndexFunc_Lint tab fn_slices_IndexFunc_Lint 0 K (m + 1) [.code (bodyOf fn_slices_IndexFunc_Lint)] st = segD Γ_slices_IndexFunc_Lint tab fn_slices_IndexFunc_Lint 0 K (goD Γ_slices_IndexFunc_Lint tab fn_slices_IndexFunc_Lint 0 K m) [.code (bodyOf fn_slices_IndexFunc_Lint)] st := rfl
theorem slices_IndexFunc_Lint_2_vc0 (x0 : Int) (x1 : Int) (x2 : Int) (x3 : (List Int)) (rec : RK) (K : KK) v0 (hv0 : v0 = (okWord (nth x3 (Int.toNat x0) (Ty.dflt Ty.int)))) : segD Γ_slices_IndexFunc_Lint tab fn_slices_IndexFunc_Lint 0 K rec (.code (Code.sub (bodyOf fn_slices_IndexFunc_Lint) [1, 0, 1, 0, 0]) :: slices_IndexFunc_Lint_2_L0) (slices_IndexFunc_Lint_2_S0 x0 x1 x2 x3) = (
 br (lti x0 x1)
 ((((0 : Int) ≤ x0) ∧ (x0 < (((len x3) : Nat) : Int))) ∧
 (br (!v0)
 (K (.one (dI x0)) [])
 (rec slices_IndexFunc_Lint_2_L0 (slices_IndexFunc_Lint_2_S0 (w64 (x0 + (1 : Int))) x1 x2 x3))))
 (K (.one (dI (-(1 : Int)))) [])) := by subst_vars; kernel_rfl
theorem slices_IndexFunc_Lint_2_w0 (m : Nat) (K : KK) (st : St) : goD Γ_slices_IndexFunc_Lint tab fn_slices_IndexFunc_Lint 0 K (m + 1) slices_IndexFunc_Lint_2_L0 st = segD Γ_slices_IndexFunc_Lint tab fn_slices_IndexFunc_Lint 0 K (goD Γ_slices_IndexFunc_Lint tab fn_slices_IndexFunc_Lint 0 K m) (.code (Code.sub (bodyOf fn_slices_IndexFunc_Lint) [1, 0, 1, 0, 0]) :: slices_IndexFunc_Lint_2_L0) st := rfl

theorem loop_slices_IndexFunc_Lint_0 (l : List Int) (hs : Sm l) (K : KK) : ∀ (d k : Nat), k + d = l.length → K (.one (dI (firstBadFrom k (l.drop k)))) [] →
    goD Γ_slices_IndexFunc_Lint tab fn_slices_IndexFunc_Lint 0 K (d + 1) slices_IndexFunc_Lint_0_L0 (slices_IndexFunc_Lint_0_S0 (k : Int) (((len l) : Nat) : Int) 0 l)
  | 0, k, hk, hK => by
    rw [slices_IndexFunc_Lint_0_w0, slices_IndexFunc_Lint_0_vc0 _ _ _ _ _ _ _ rfl]
    refine lt_f (by simp only [len]; omega) ?_
    rw [List.drop_of_length_le (by omega)] at hK
    exact hK
  | d + 1, k, hk, hK => by
    have hs' := hs
    unfold Sm at hs'
    rw [slices_IndexFunc_Lint_0_w0, slices_IndexFunc_Lint_0_vc0 _ _ _ _ _ _ _ rfl]
    rw [drop_step (by omega) (Ty.dflt Ty.int)] at hK
    simp only [firstBadFrom] at hK
    refine lt_t (by simp only [len]; omega) ⟨⟨by omega, by simp only [len]; omega⟩, nt_s (fun h => ?_) (fun h => ?_)⟩
    · rw [toNat_nat] at h
      rw [if_neg (by rw [h]; simp)] at hK
      exact hK
    · rw [toNat_nat] at h
      rw [if_pos h] at hK
      rw [w64_succ (by omega)]
      exact loop_slices_IndexFunc_Lint_0 l hs K d (k + 1) (by omega) hK
set_option maxHeartbeats 4000000 in
theorem run_slices_IndexFunc_Lint_0 (l : List Int) (hp : Sm l) (K : KK) (hK : K (.one (dI (firstBad l))) []) : ∃ m, goD Γ_slices_IndexFunc_Lint tab fn_slices_IndexFunc_Lint 0 K m [.code (bodyOf fn_slices_IndexFunc_Lint)] (initSt [.one (dL l), .one (.fn n_flash_Program_1 [])] []) := by
  refine ⟨l.length + 2, ?_⟩
  rw [slices_IndexFunc_Lint_0_w, slices_IndexFunc_Lint_0_vc _ _ _]
  exact loop_slices_IndexFunc_Lint_0 l hp K l.length 0 (by omega) hK
theorem loop_slices_IndexFunc_Lint_1 (l : List Int) (hs : Sm l) (K : KK) : ∀ (d k : Nat), k + d = l.length → K (.one (dI (firstBadFrom k (l.drop k)))) [] →
    goD Γ_slices_IndexFunc_Lint tab fn_slices_IndexFunc_Lint 0 K (d + 1) slices_IndexFunc_Lint_1_L0 (slices_IndexFunc_Lint_1_S0 (k : Int) (((len l) : Nat) : Int) 0 l)
  | 0, k, hk, hK => by
    rw [slices_IndexFunc_Lint_1_w0, slices_IndexFunc_Lint_1_vc0 _ _ _ _ _ _ _ rfl]
    refine lt_f (by simp only [len]; omega) ?_
    rw [List.drop_of_length_le (by omega)] at hK
    exact hK
  | d + 1, k, hk, hK => by
    have hs' := hs
    unfold Sm at hs'
    rw [slices_IndexFunc_Lint_1_w0, slices_IndexFunc_Lint_1_vc0 _ _ _ _ _ _ _ rfl]
    rw [drop_step (by omega) (Ty.dflt Ty.int)] at hK
    simp only [firstBadFrom] at hK
    refine lt_t (by simp only [len]; omega) ⟨⟨by omega, by simp only [len]; omega⟩, nt_s (fun h => ?_) (fun h => ?_)⟩
    · rw [toNat_nat] at h
      rw [if_neg (by rw [h]; simp)] at hK
      exact hK
    · rw [toNat_nat] at h
      rw [if_pos h] at hK
      rw [w64_succ (by omega)]
      exact loop_slices_IndexFunc_Lint_1 l hs K d (k + 1) (by omega) hK
set_option maxHeartbeats 4000000 in
theorem run_slices_IndexFunc_Lint_1 (l : List Int) (hp : Sm l) (K : KK) (hK : K (.one (dI (firstBad l))) []) : ∃ m, goD Γ_slices_IndexFunc_Lint tab fn_slices_IndexFunc_Lint 0 K m [.code (bodyOf fn_slices_IndexFunc_Lint)] (initSt [.one (dL l), .one (.fn n_ref_allWords_1 [])] []) := by
  refine ⟨l.length + 2, ?_⟩
  rw [slices_IndexFunc_Lint_1_w, slices_IndexFunc_Lint_1_vc _ _ _]
  exact loop_slices_IndexFunc_Lint_1 l hp K l.length 0 (by omega) hK
theorem loop_slices_IndexFunc_Lint_2 (l : List Int) (hs : Sm l) (K : KK) : ∀ (d k : Nat), k + d = l.length → K (.one (dI (firstBadFrom k (l.drop k)))) [] →
    goD Γ_slices_IndexFunc_Lint tab fn_slices_IndexFunc_Lint 0 K (d + 1) slices_IndexFunc_Lint_2_L0 (slices_IndexFunc_Lint_2_S0 (k : Int) (((len l) : Nat) : Int) 0 l)
  | 0, k, hk, hK => by
    rw [slices_IndexFunc_Lint_2_w0, slices_IndexFunc_Lint_2_vc0 _ _ _ _ _ _ _ rfl]
    refine lt_f (by simp only [len]; omega) ?_
    rw [List.drop_of_length_le (by omega)] at hK
    exact hK
  | d + 1, k, hk, hK => by
    have hs' := hs
    unfold Sm at hs'
    rw [slices_IndexFunc_Lint_2_w0, slices_IndexFunc_Lint_2_vc0 _ _ _ _ _ _ _ rfl]
    rw [drop_step (by omega) (Ty.dflt Ty.int)] at hK
    simp only [firstBadFrom] at hK
    refine lt_t (by simp only [len]; omega) ⟨⟨by omega, by simp only [len]; omega⟩, nt_s (fun h => ?_) (fun h => ?_)⟩
    · rw [toNat_nat] at h
      rw [if_neg (by rw [h]; simp)] at hK
      exact hK
    · rw [toNat_nat] at h
      rw [if_pos h] at hK
      rw [w64_succ (by omega)]
      exact loop_slices_IndexFunc_Lint_2 l hs K d (k + 1) (by omega) hK
set_option maxHeartbeats 4000000 in
theorem run_slices_IndexFunc_Lint_2 (l : List Int) (hp : Sm l) (K : KK) (hK : K (.one (dI (firstBad l))) []) : ∃ m, goD Γ_slices_IndexFunc_Lint tab fn_slices_IndexFunc_Lint 0 K m [.code (bodyOf fn_slices_IndexFunc_Lint)] (initSt [.one (dL l), .one (.fn n_unit_CheckMessage_1 [])] []) := by
  refine ⟨l.length + 2, ?_⟩
  rw [slices_IndexFunc_Lint_2_w, slices_IndexFunc_Lint_2_vc _ _ _]
  exact loop_slices_IndexFunc_Lint_2 l hp K l.length 0 (by omega) hK
theorem sound_slices_IndexFunc_Lint : SoundC Tryz.prog tab n_slices_IndexFunc_Lint c_slices_IndexFunc_Lint := soundC_of ok_slices_IndexFunc_Lint hf_slices_IndexFunc_Lint hB_slices_IndexFunc_Lint (by
  intro vs bs p v bs' h hp
  unfold c_slices_IndexFunc_Lint at h
  split at h
  · split at h
    · rename_i hfn
      have hfn := Nat.eq_of_beq_eq_true hfn
      subst hfn
      cases h
      exact ⟨by kernel_rfl, rfl, .inl (run_slices_IndexFunc_Lint_0 _ hp.1 _ ⟨rfl, rfl⟩)⟩
    · split at h
      · rename_i hfn
        have hfn := Nat.eq_of_beq_eq_true hfn
        subst hfn
        cases h
        exact ⟨by kernel_rfl, rfl, .inl (run_slices_IndexFunc_Lint_1 _ hp.1 _ ⟨rfl, rfl⟩)⟩
      · split at h
        · rename_i hfn
          have hfn := Nat.eq_of_beq_eq_true hfn
          subst hfn
          cases h
          exact ⟨by kernel_rfl, rfl, .inl (run_slices_IndexFunc_Lint_2 _ hp.1 _ ⟨rfl, rfl⟩)⟩
        · cases h
  · cases h)

def c_slices_ContainsFunc_Lint : Contract := fun vs bs => match vs, bs with
  | [.one (.dat (.list .int) l), .one (.fn f [])], [] => (match Nat.beq f n_flash_Program_1 with | true => some (some (Sm l), .one (.dat .bool (!okWords l)), []) | false => (match Nat.beq f n_ref_allWords_1 with | true => some (some (Sm l), .one (.dat .bool (!okWords l)), []) | false => (match Nat.beq f n_unit_CheckMessage_1 with | true => some (some (Sm l), .one (.dat .bool (!okWords l)), []) | false => none)))
  | _, _ => none
def Γ_slices_ContainsFunc_Lint : Ctx := [(n_slices_IndexFunc_Lint, c_slices_IndexFunc_Lint), (n_flash_Program_1, c_flash_Program_1), (n_ref_allWords_1, c_ref_allWords_1), (n_unit_CheckMessage_1, c_unit_CheckMessage_1)]
theorem ok_slices_ContainsFunc_Lint : Ok Tryz.prog tab Γ_slices_ContainsFunc_Lint := ((((ok_nil.consC hf_unit_CheckMessage_1 hB_unit_CheckMessage_1 sound_unit_CheckMessage_1).consC hf_ref_allWords_1 hB_ref_allWords_1 sound_ref_allWords_1).consC hf_flash_Program_1 hB_flash_Program_1 sound_flash_Program_1).consC hf_slices_IndexFunc_Lint hB_slices_IndexFunc_Lint sound_slices_IndexFunc_Lint)
theorem slices_ContainsFunc_Lint_0_vc (l : List Int) (rec : RK) (K : KK) v0 (hv0 : v0 = (firstBad l)) : segD Γ_slices_ContainsFunc_Lint tab fn_slices_ContainsFunc_Lint 0 K rec [.code (bodyOf fn_slices_ContainsFunc_Lint)] (initSt [.one (dL l), .one (.fn n_flash_Program_1 [])] []) = (
 ((List.length l) ≤ 140737488355328) ∧
 (K (.one (dB (lei (0 : Int) v0))) [])) := by subst_vars; kernel_rfl
theorem slices_ContainsFunc_Lint_0_w (m : Nat) (K : KK) (st : St) : goD Γ_slices_ContainsFunc_Lint tab fn_slices_ContainsFunc_Lint 0 K (m + 1) [.code (bodyOf fn_slices_ContainsFunc_Lint)] st = segD Γ_slices_ContainsFunc_Lint tab fn_slices_ContainsFunc_Lint 0 K (goD Γ_slices_ContainsFunc_Lint tab fn_slices_ContainsFunc_Lint 0 K m) [.code (bodyOf fn_slices_ContainsFunc_Lint)] st := rfl

theorem slices_ContainsFunc_Lint_1_vc (l : List Int) (rec : RK) (K : KK) v0 (hv0 : v0 = (firstBad l)) : segD Γ_slices_ContainsFunc_Lint tab fn_slices_ContainsFunc_Lint 0 K rec [.code (bodyOf fn_slices_ContainsFunc_Lint)] (initSt [.one (dL l), .one (.fn n_ref_allWords_1 [])] []) = (
 ((List.length l) ≤ 140737488355328) ∧
 (K (.one (dB (lei (0 : Int) v0))) [])) := by subst_vars; kernel_rfl
theorem slices_ContainsFunc_Lint_1_w (m : Nat) (K : KK) (st : St) : goD Γ_slices_ContainsFunc_Lint tab fn_slices_ContainsFunc_Lint 0 K (m + 1) [.code (bodyOf fn_slices_ContainsFunc_Lint)] st = segD Γ_slices_ContainsFunc_Lint tab fn_slices_ContainsFunc_Lint 0 K (goD Γ_slices_ContainsFunc_Lint tab fn_slices_ContainsFunc_Lint 0 K m) [.code (bodyOf fn_slices_ContainsFunc_Lint)] st := rfl

theorem slices_ContainsFunc_Lint_2_vc (l : List Int) (rec : RK) (K : KK) v0 (hv0 : v0 = (firstBad l)) : segD Γ_slices_ContainsFunc_Lint tab fn_slices_ContainsFunc_Lint 0 K rec [.code (bodyOf fn_slices_ContainsFunc_Lint)] (initSt [.one (dL l), .one (.fn n_unit_CheckMessage_1 [])] []) = (
 ((List.length l) ≤ 140737488355328) ∧
 (K (.one (dB (lei (0 : Int) v0))) [])) := by subst_vars; kernel_rfl
theorem slices_ContainsFunc_Lint_2_w (m : Nat) (K : KK) (st : St) : goD Γ_slices_ContainsFunc_Lint tab fn_slices_ContainsFunc_Lint 0 K (m + 1) [.code (bodyOf fn_slices_ContainsFunc_Lint)] st = segD Γ_slices_ContainsFunc_Lint tab fn_slices_ContainsFunc_Lint 0 K (goD Γ_slices_ContainsFunc_Lint tab fn_slices_ContainsFunc_Lint 0 K m) [.code (bodyOf fn_slices_ContainsFunc_Lint)] st := rfl

theorem firstBad_slices_ContainsFunc_Lint : ∀ (l : List Int) (k : Int), 0 ≤ k → lei 0 (firstBadFrom k l) = !okWords l
  | [], k, hk => by simp [firstBadFrom, okWords, lei]
  | w :: l, k, hk => by
    simp only [firstBadFrom, okWords, List.all_cons]
    cases h : okWord w with
    | true => simpa [okWords] using firstBad_slices_ContainsFunc_Lint l (k + 1) (by omega)
    | false => simp [lei, hk]
set_option maxHeartbeats 4000000 in
theorem run_slices_ContainsFunc_Lint_0 (l : List Int) (hp : Sm l) (K : KK) (hK : K (.one (dB (!okWords l))) []) : ∃ m, goD Γ_slices_ContainsFunc_Lint tab fn_slices_ContainsFunc_Lint 0 K m [.code (bodyOf fn_slices_ContainsFunc_Lint)] (initSt [.one (dL l), .one (.fn n_flash_Program_1 [])] []) := by
  refine ⟨1, ?_⟩
  rw [slices_ContainsFunc_Lint_0_w, slices_ContainsFunc_Lint_0_vc _ _ _ _ rfl]
  refine ⟨hp, ?_⟩
  rw [show lei 0 (firstBad l) = !okWords l from firstBad_slices_ContainsFunc_Lint l 0 (by omega)]
  exact hK
set_option maxHeartbeats 4000000 in
theorem run_slices_ContainsFunc_Lint_1 (l : List Int) (hp : Sm l) (K : KK) (hK : K (.one (dB (!okWords l))) []) : ∃ m, goD Γ_slices_ContainsFunc_Lint tab fn_slices_ContainsFunc_Lint 0 K m [.code (bodyOf fn_slices_ContainsFunc_Lint)] (initSt [.one (dL l), .one (.fn n_ref_allWords_1 [])] []) := by
  refine ⟨1, ?_⟩
  rw [slices_ContainsFunc_Lint_1_w, slices_ContainsFunc_Lint_1_vc _ _ _ _ rfl]
  refine ⟨hp, ?_⟩
  rw [show lei 0 (firstBad l) = !okWords l from firstBad_slices_ContainsFunc_Lint l 0 (by omega)]
  exact hK
set_option maxHeartbeats 4000000 in
theorem run_slices_ContainsFunc_Lint_2 (l : List Int) (hp : Sm l) (K : KK) (hK : K (.one (dB (!okWords l))) []) : ∃ m, goD Γ_slices_ContainsFunc_Lint tab fn_slices_ContainsFunc_Lint 0 K m [.code (bodyOf fn_slices_ContainsFunc_Lint)] (initSt [.one (dL l), .one (.fn n_unit_CheckMessage_1 [])] []) := by
  refine ⟨1, ?_⟩
  rw [slices_ContainsFunc_Lint_2_w, slices_ContainsFunc_Lint_2_vc _ _ _ _ rfl]
  refine ⟨hp, ?_⟩
  rw [show lei 0 (firstBad l) = !okWords l from firstBad_slices_ContainsFunc_Lint l 0 (by omega)]
  exact hK
theorem sound_slices_ContainsFunc_Lint : SoundC Tryz.prog tab n_slices_ContainsFunc_Lint c_slices_ContainsFunc_Lint := soundC_of ok_slices_ContainsFunc_Lint hf_slices_ContainsFunc_Lint hB_slices_ContainsFunc_Lint (by
  intro vs bs p v bs' h hp
  unfold c_slices_ContainsFunc_Lint at h
  split at h
  · split at h
    · rename_i hfn
      have hfn := Nat.eq_of_beq_eq_true hfn
      subst hfn
      cases h
      exact ⟨by kernel_rfl, rfl, .inl (run_slices_ContainsFunc_Lint_0 _ hp.1 _ ⟨rfl, rfl⟩)⟩
    · split at h
      · rename_i hfn
        have hfn := Nat.eq_of_beq_eq_true hfn
        subst hfn
        cases h
        exact ⟨by kernel_rfl, rfl, .inl (run_slices_ContainsFunc_Lint_1 _ hp.1 _ ⟨rfl, rfl⟩)⟩
      · split at h
        · rename_i hfn
          have hfn := Nat.eq_of_beq_eq_true hfn
          subst hfn
          cases h
          exact ⟨by kernel_rfl, rfl, .inl (run_slices_ContainsFunc_Lint_2 _ hp.1 _ ⟨rfl, rfl⟩)⟩
        · cases h
  · cases h)

def c_unit_CheckMessage : Contract := fun vs bs => match vs, bs with
  | [.agg [.dat .int mk, .dat .int mu, .dat .int mn, .dat .int ma, .dat .int mi, .dat (.list .int) mw, .dat .bool my]], [] => some (none, .one (.dat .int (checkM ⟨mk, mu, mn, ma, mi, mw, my⟩)), [])
  | _, _ => none
def Γ_unit_CheckMessage : Ctx := [(n_slices_ContainsFunc_Lint, c_slices_ContainsFunc_Lint), (n_unit_CheckMessage_1, c_unit_CheckMessage_1)]
theorem ok_unit_CheckMessage : Ok Tryz.prog tab Γ_unit_CheckMessage := ((ok_nil.consC hf_unit_CheckMessage_1 hB_unit_CheckMessage_1 sound_unit_CheckMessage_1).consC hf_slices_ContainsFunc_Lint hB_slices_ContainsFunc_Lint sound_slices_ContainsFunc_Lint)
theorem unit_CheckMessage_vc (mk : Int) (mu : Int) (mn : Int) (ma : Int) (mi : Int) (mw : List Int) (my : Bool) (rec : RK) (K : KK) v0 (hv0 : v0 = (okWords mw)) : segD Γ_unit_CheckMessage tab fn_unit_CheckMessage 0 K rec [.code (bodyOf fn_unit_CheckMessage)] (initSt [.agg [dI mk, dI mu, dI mn, dI ma, dI mi, dL mw, dB my]] []) = (
 br (lti mk (1 : Int))
 (K (.one (dI (3 : Int))) [])
 (br (lti (7 : Int) mk)
 (K (.one (dI (3 : Int))) [])
 (br (lti mu (0 : Int))
 (K (.one (dI (3 : Int))) [])
 (br (lei (4 : Int) mu)
 (K (.one (dI (3 : Int))) [])
 (br (lti mn (1 : Int))
 (K (.one (dI (3 : Int))) [])
 (br (lti (8 : Int) mn)
 (K (.one (dI (3 : Int))) [])
 (br (lti ma (0 : Int))
 (K (.one (dI (3 : Int))) [])
 (br (lti (40 : Int) ma)
 (K (.one (dI (3 : Int))) [])
 (br (lti mi (0 : Int))
 (K (.one (dI (3 : Int))) [])
 (br (lti (60 : Int) mi)
 (K (.one (dI (3 : Int))) [])
 (br (lti (8 : Int) (((len mw) : Nat) : Int))
 (K (.one (dI (3 : Int))) [])
 (((List.length mw) ≤ 140737488355328) ∧
 (br (!v0)
 (K (.one (dI (3 : Int))) [])
 (K (.one (dI (0 : Int))) [])))))))))))))) := by subst_vars; kernel_rfl
theorem unit_CheckMessage_w (m : Nat) (K : KK) (st : St) : goD Γ_unit_CheckMessage tab fn_unit_CheckMessage 0 K (m + 1) [.code (bodyOf fn_unit_CheckMessage)] st = segD Γ_unit_CheckMessage tab fn_unit_CheckMessage 0 K (goD Γ_unit_CheckMessage tab fn_unit_CheckMessage 0 K m) [.code (bodyOf fn_unit_CheckMessage)] st := rfl

set_option maxHeartbeats 4000000 in
theorem run_unit_CheckMessage (mk mu mn ma mi : Int) (mw : List Int) (my : Bool) (K : KK) (hK : K (.one (dI (checkM ⟨mk, mu, mn, ma, mi, mw, my⟩))) []) : ∃ m, goD Γ_unit_CheckMessage tab fn_unit_CheckMessage 0 K m [.code (bodyOf fn_unit_CheckMessage)] (initSt [.agg [dI mk, dI mu, dI mn, dI ma, dI mi, dL mw, dB my]] []) := by
  refine ⟨1, ?_⟩
  rw [unit_CheckMessage_w, unit_CheckMessage_vc _ _ _ _ _ _ _ _ _ _ rfl]
  unfold checkM at hK
  simp only at hK
  refine lt_s (fun h1 => ?_) (fun h1 => lt_s (fun h2 => ?_) (fun h2 => lt_s (fun h3 => ?_) (fun h3 => br_split (fun h4 => ?_) (fun h4 => lt_s (fun h5 => ?_) (fun h5 => lt_s (fun h6 => ?_) (fun h6 => lt_s (fun h7 => ?_) (fun h7 => lt_s (fun h8 => ?_) (fun h8 => lt_s (fun h9 => ?_) (fun h9 => lt_s (fun h10 => ?_) (fun h10 => lt_s (fun h11 => ?_) (fun h11 => ⟨?_, nt_s (fun h12 => ?_) (fun h12 => ?_)⟩)))))))))))
  all_goals try rw [lei_true] at h4
  all_goals try rw [lei_false] at h4
  · rw [if_pos (by omega)] at hK; exact hK
  · rw [if_pos (by omega)] at hK; exact hK
  · rw [if_pos (by omega)] at hK; exact hK
  · rw [if_pos (by omega)] at hK; exact hK
  · rw [if_pos (by omega)] at hK; exact hK
  · rw [if_pos (by omega)] at hK; exact hK
  · rw [if_pos (by omega)] at hK; exact hK
  · rw [if_pos (by omega)] at hK; exact hK
  · rw [if_pos (by omega)] at hK; exact hK
  · rw [if_pos (by omega)] at hK; exact hK
  · rw [if_pos (by simp only [len] at h11; omega)] at hK; exact hK
  · simp only [len] at h11; omega
  · rw [if_neg (by simp only [len] at h11; omega)] at hK
    have : okWords mw = false := by simpa using h12
    rw [if_neg (by rw [this]; simp)] at hK; exact hK
  · rw [if_neg (by simp only [len] at h11; omega)] at hK
    have : okWords mw = true := by simpa using h12
    rw [if_pos this] at hK; exact hK
theorem sound_unit_CheckMessage : SoundC Tryz.prog tab n_unit_CheckMessage c_unit_CheckMessage := soundC_of ok_unit_CheckMessage hf_unit_CheckMessage hB_unit_CheckMessage (by
  intro vs bs p v bs' h hp
  unfold c_unit_CheckMessage at h
  split at h
  · cases h
    exact ⟨by kernel_rfl, rfl, .inl (run_unit_CheckMessage _ _ _ _ _ _ _ _ ⟨rfl, rfl⟩)⟩
  · cases h)

def c_slices_Clone_Lint : Contract := fun vs bs => match vs, bs with
  | [.one (.dat (.list .int) l)], [] => some (some (len l * 8 ≤ 140737488355328), .one (.own 0), [.arr .int l])
  | _, _ => none
def Γ_slices_Clone_Lint : Ctx := []
theorem ok_slices_Clone_Lint : Ok Tryz.prog tab Γ_slices_Clone_Lint := ok_nil
theorem slices_Clone_Lint_vc (l : List Int) (rec : RK) (K : KK) : segO Γ_slices_Clone_Lint tab fn_slices_Clone_Lint 0 K rec [.code (bodyOf fn_slices_Clone_Lint)] (initSt [.one (dL l)] []) = (
 (∀ bn : Bool, (((bn = true) → ((len l) = 0)) → br bn
 (K (.one (.own 0)) [.arr Ty.int []])
 ((((0 + (len l)) * 8) ≤ 140737488355328) ∧
 (K (.one (.own 0)) [.arr Ty.int (cat [] l)]))))) := by kernel_rfl
theorem slices_Clone_Lint_w (m : Nat) (K : KK) (st : St) : goO Γ_slices_Clone_Lint tab fn_slices_Clone_Lint 0 K (m + 1) [.code (bodyOf fn_slices_Clone_Lint)] st = segO Γ_slices_Clone_Lint tab fn_slices_Clone_Lint 0 K (goO Γ_slices_Clone_Lint tab fn_slices_Clone_Lint 0 K m) [.code (bodyOf fn_slices_Clone_Lint)] st := rfl

set_option maxHeartbeats 4000000 in
theorem run_slices_Clone_Lint (l : List Int) (hp : len l * 8 ≤ 140737488355328) (K : KK) (hK : K (.one (.own 0)) [.arr .int l]) : ∃ m, goO Γ_slices_Clone_Lint tab fn_slices_Clone_Lint 0 K m [.code (bodyOf fn_slices_Clone_Lint)] (initSt [.one (dL l)] []) := by
  refine ⟨1, ?_⟩
  rw [slices_Clone_Lint_w, slices_Clone_Lint_vc _ _ _]
  intro bn hb
  refine br_split (fun h => ?_) (fun h => ⟨by simp only [len] at hp ⊢; omega, hK⟩)
  have : l = [] := List.length_eq_zero_iff.1 (hb h)
  subst this
  exact hK
theorem sound_slices_Clone_Lint : SoundC Tryz.prog tab n_slices_Clone_Lint c_slices_Clone_Lint := soundC_of ok_slices_Clone_Lint hf_slices_Clone_Lint hB_slices_Clone_Lint (by
  intro vs bs p v bs' h hp
  unfold c_slices_Clone_Lint at h
  split at h
  · cases h
    exact ⟨by kernel_rfl, rfl, .inr (.inl (run_slices_Clone_Lint _ hp.1 _ ⟨rfl, rfl⟩))⟩
  · cases h)

def c_flash_Copy : Contract := fun vs bs => match vs, bs with
  | [.agg [.dat (.list .int) ws, .dat .int fu]], [] => some (some (len ws * 8 ≤ 140737488355328), .agg [.own 0, .dat .int fu], [.arr .int ws])
  | _, _ => none
def Γ_flash_Copy : Ctx := [(n_slices_Clone_Lint, c_slices_Clone_Lint)]
theorem ok_flash_Copy : Ok Tryz.prog tab Γ_flash_Copy := (ok_nil.consC hf_slices_Clone_Lint hB_slices_Clone_Lint sound_slices_Clone_Lint)
theorem flash_Copy_vc (ws : List Int) (fu : Int) (rec : RK) (K : KK) : segO Γ_flash_Copy tab fn_flash_Copy 0 K rec [.code (bodyOf fn_flash_Copy)] (initSt [.agg [dL ws, dI fu]] []) = (
 (((len ws) * 8) ≤ 140737488355328) ∧
 (K (.agg [.own 0, dI fu]) [.arr Ty.int ws])) := by kernel_rfl
theorem flash_Copy_w (m : Nat) (K : KK) (st : St) : goO Γ_flash_Copy tab fn_flash_Copy 0 K (m + 1) [.code (bodyOf fn_flash_Copy)] st = segO Γ_flash_Copy tab fn_flash_Copy 0 K (goO Γ_flash_Copy tab fn_flash_Copy 0 K m) [.code (bodyOf fn_flash_Copy)] st := rfl

set_option maxHeartbeats 4000000 in
theorem run_flash_Copy (ws : List Int) (fu : Int) (hp : len ws * 8 ≤ 140737488355328) (K : KK) (hK : K (.agg [.own 0, dI fu]) [.arr .int ws]) : ∃ m, goO Γ_flash_Copy tab fn_flash_Copy 0 K m [.code (bodyOf fn_flash_Copy)] (initSt [.agg [dL ws, dI fu]] []) := by
  refine ⟨1, ?_⟩
  rw [flash_Copy_w, flash_Copy_vc _ _ _ _]
  exact ⟨hp, hK⟩
theorem sound_flash_Copy : SoundC Tryz.prog tab n_flash_Copy c_flash_Copy := soundC_of ok_flash_Copy hf_flash_Copy hB_flash_Copy (by
  intro vs bs p v bs' h hp
  unfold c_flash_Copy at h
  split at h
  · cases h
    exact ⟨by kernel_rfl, rfl, .inr (.inl (run_flash_Copy _ _ hp.1 _ ⟨rfl, rfl⟩))⟩
  · cases h)

def c_unit_Copy : Contract := fun vs bs => match vs, bs with
  | [.agg [.dat (.list .int) ws, .dat .int fu, .dat .bool up, .dat .int un, .dat .int ug]], [] => some (some (len ws * 8 ≤ 140737488355328), .agg [.dat (.list .int) ws, .dat .int fu, .dat .bool up, .dat .int un, .dat .int ug], [])
  | _, _ => none
def Γ_unit_Copy : Ctx := [(n_flash_Copy, c_flash_Copy)]
theorem ok_unit_Copy : Ok Tryz.prog tab Γ_unit_Copy := (ok_nil.consC hf_flash_Copy hB_flash_Copy sound_flash_Copy)
theorem unit_Copy_vc (ws : List Int) (fu : Int) (up : Bool) (un : Int) (ug : Int) (rec : RK) (K : KK) : segD Γ_unit_Copy tab fn_unit_Copy 0 K rec [.code (bodyOf fn_unit_Copy)] (initSt [.agg [dL ws, dI fu, dB up, dI un, dI ug]] []) = (
 (((len ws) * 8) ≤ 140737488355328) ∧
 (K (.agg [dL ws, dI fu, dB up, dI un, dI ug]) [])) := by kernel_rfl
theorem unit_Copy_w (m : Nat) (K : KK) (st : St) : goD Γ_unit_Copy tab fn_unit_Copy 0 K (m + 1) [.code (bodyOf fn_unit_Copy)] st = segD Γ_unit_Copy tab fn_unit_Copy 0 K (goD Γ_unit_Copy tab fn_unit_Copy 0 K m) [.code (bodyOf fn_unit_Copy)] st := rfl

set_option maxHeartbeats 4000000 in
theorem run_unit_Copy (ws : List Int) (fu : Int) (up : Bool) (un ug : Int) (hp : len ws * 8 ≤ 140737488355328) (K : KK) (hK : K (.agg [dL ws, dI fu, dB up, dI un, dI ug]) []) : ∃ m, goD Γ_unit_Copy tab fn_unit_Copy 0 K m [.code (bodyOf fn_unit_Copy)] (initSt [.agg [dL ws, dI fu, dB up, dI un, dI ug]] []) := by
  refine ⟨1, ?_⟩
  rw [unit_Copy_w, unit_Copy_vc _ _ _ _ _ _ _]
  exact ⟨hp, hK⟩
theorem sound_unit_Copy : SoundC Tryz.prog tab n_unit_Copy c_unit_Copy := soundC_of ok_unit_Copy hf_unit_Copy hB_unit_Copy (by
  intro vs bs p v bs' h hp
  unfold c_unit_Copy at h
  split at h
  · cases h
    exact ⟨by kernel_rfl, rfl, .inl (run_unit_Copy _ _ _ _ _ hp.1 _ ⟨rfl, rfl⟩)⟩
  · cases h)

def c_slices_Clone_Record : Contract := fun vs bs => match vs, bs with
  | [.one (.dat (.list .int) l)], [] => some (some (len l * 8 ≤ 140737488355328), .one (.own 0), [.arr .int l])
  | _, _ => none
def Γ_slices_Clone_Record : Ctx := []
theorem ok_slices_Clone_Record : Ok Tryz.prog tab Γ_slices_Clone_Record := ok_nil
theorem slices_Clone_Record_vc (l : List Int) (rec : RK) (K : KK) : segO Γ_slices_Clone_Record tab fn_slices_Clone_Record 0 K rec [.code (bodyOf fn_slices_Clone_Record)] (initSt [.one (dL l)] []) = (
 (∀ bn : Bool, (((bn = true) → ((len l) = 0)) → br bn
 (K (.one (.own 0)) [.arr Ty.int []])
 ((((0 + (len l)) * 8) ≤ 140737488355328) ∧
 (K (.one (.own 0)) [.arr Ty.int (cat [] l)]))))) := by kernel_rfl
theorem slices_Clone_Record_w (m : Nat) (K : KK) (st : St) : goO Γ_slices_Clone_Record tab fn_slices_Clone_Record 0 K (m + 1) [.code (bodyOf fn_slices_Clone_Record)] st = segO Γ_slices_Clone_Record tab fn_slices_Clone_Record 0 K (goO Γ_slices_Clone_Record tab fn_slices_Clone_Record 0 K m) [.code (bodyOf fn_slices_Clone_Record)] st := rfl

set_option maxHeartbeats 4000000 in
theorem run_slices_Clone_Record (l : List Int) (hp : len l * 8 ≤ 140737488355328) (K : KK) (hK : K (.one (.own 0)) [.arr .int l]) : ∃ m, goO Γ_slices_Clone_Record tab fn_slices_Clone_Record 0 K m [.code (bodyOf fn_slices_Clone_Record)] (initSt [.one (dL l)] []) := by
  refine ⟨1, ?_⟩
  rw [slices_Clone_Record_w, slices_Clone_Record_vc _ _ _]
  intro bn hb
  refine br_split (fun h => ?_) (fun h => ⟨by simp only [len] at hp ⊢; omega, hK⟩)
  have : l = [] := List.length_eq_zero_iff.1 (hb h)
  subst this
  exact hK
theorem sound_slices_Clone_Record : SoundC Tryz.prog tab n_slices_Clone_Record c_slices_Clone_Record := soundC_of ok_slices_Clone_Record hf_slices_Clone_Record hB_slices_Clone_Record (by
  intro vs bs p v bs' h hp
  unfold c_slices_Clone_Record at h
  split at h
  · cases h
    exact ⟨by kernel_rfl, rfl, .inr (.inl (run_slices_Clone_Record _ hp.1 _ ⟨rfl, rfl⟩))⟩
  · cases h)

def c_log_scan : Contract := fun vs bs => match vs, bs with
  | [.agg [.dat (.list .int) ws, .dat .int _], .one (.dat .int sector)], [] => some (some (0 ≤ sector ∧ sector ≤ 1 ∧ 64 ≤ len ws ∧ len ws ≤ 192 ∧ okWords ws = true), .tup [.one (.dat (.list (.list .int)) (scanS ws sector.toNat).1), .one (.dat .int (nextI sector.toNat (scanS ws sector.toNat).2))], [])
  | _, _ => none
def Γ_log_scan : Ctx := [(n_slices_Clone_Record, c_slices_Clone_Record)]
theorem ok_log_scan : Ok Tryz.prog tab Γ_log_scan := (ok_nil.consC hf_slices_Clone_Record hB_slices_Clone_Record sound_slices_Clone_Record)
noncomputable def log_scan_L0 : List It := [.inLoop [7, 6, 5, 4, 1] (Code.sub (bodyOf fn_log_scan) [1, 1, 1, 0, 0, 0]), .inBlock 0, .code (Code.sub (bodyOf fn_log_scan) [1, 1, 1, 1])]
def log_scan_S0 (x0 : Int) (x1 : (List Int)) (x2 : Int) (x3 : Int) (x4 : (List (List Int))) : St := ⟨[(7, .one (dI x0)), (6, .one (dL x1)), (5, .one (dI x2)), (4, .one (.own 0)), (1, .one (dI x3))], [(0, .arr (Ty.list Ty.int) x4)], 1⟩
noncomputable def log_scan_L1 : List It := [.inLoop [74, 73, 72, 7, 5, 4, 1] (Code.sub (bodyOf fn_log_scan) [1, 1, 1, 1, 0, 1, 0, 0]), .inBlock 2, .code (Code.sub (bodyOf fn_log_scan) [1, 1, 1, 1, 1])]
def log_scan_S1 (x0 : Int) (x1 : Int) (x2 : (List Int)) (x3 : Int) (x4 : Int) (x5 : Int) (x6 : (List (List Int))) : St := ⟨[(74, .one (dI x0)), (73, .one (dI x1)), (72, .one (dL x2)), (7, .one (dI x3)), (5, .one (dI x4)), (4, .one (.own 0)), (1, .one (dI x5))], [(0, .arr (Ty.list Ty.int) x6)], 1⟩
theorem log_scan_vc (ws : List Int) (fu : Int) (sector : Int) (rec : RK) (K : KK) : segD Γ_log_scan tab fn_log_scan 0 K rec [.code (bodyOf fn_log_scan)] (initSt [.agg [dL ws, dI fu], .one (dI sector)] []) = (
 (((0 : Int) ≤ (w64 (sector * (32 : Int)))) ∧ (((w64 (sector * (32 : Int))) ≤ (w64 ((w64 (sector + (1 : Int))) * (32 : Int)))) ∧ ((w64 ((w64 (sector + (1 : Int))) * (32 : Int))) ≤ (((len ws) : Nat) : Int)))) ∧
 (rec log_scan_L0 (log_scan_S0 (1 : Int) (slc ws (Int.toNat (w64 (sector * (32 : Int)))) (Int.toNat (w64 ((w64 (sector + (1 : Int))) * (32 : Int))))) (0 : Int) sector []))) := by kernel_rfl
theorem log_scan_w (m : Nat) (K : KK) (st : St) : goD Γ_log_scan tab fn_log_scan 0 K (m + 1) [.code (bodyOf fn_log_scan)] st = segD Γ_log_scan tab fn_log_scan 0 K (goD Γ_log_scan tab fn_log_scan 0 K m) [.code (bodyOf fn_log_scan)] st := rfl
theorem log_scan_vc0 (x0 : Int) (x1 : (List Int)) (x2 : Int) (x3 : Int) (x4 : (List (List Int))) (rec : RK) (K : KK) v0 (hv0 : v0 = (rec log_scan_L1 (log_scan_S1 (0 : Int) (((len (slc x1 (Int.toNat (min x0 (((len x1) : Nat) : Int))) (Int.toNat (((len x1) : Nat) : Int)))) : Nat) : Int) (slc x1 (Int.toNat (min x0 (((len x1) : Nat) : Int))) (Int.toNat (((len x1) : Nat) : Int))) x0 x2 x3 x4))) : segD Γ_log_scan tab fn_log_scan 0 K rec (.code (Code.sub (bodyOf fn_log_scan) [1, 1, 1, 0, 0, 0]) :: log_scan_L0) (log_scan_S0 x0 x1 x2 x3 x4) = (
 br (lti x0 (((len x1) : Nat) : Int))
 ((((0 : Int) ≤ x0) ∧ (x0 < (((len x1) : Nat) : Int))) ∧
 (br (!(eqi (nth x1 (Int.toNat x0) (Ty.dflt Ty.int)) (65535 : Int)))
 ((((0 : Int) ≤ x0) ∧ (x0 < (((len x1) : Nat) : Int))) ∧
 (br (lti (xori (nth x1 (Int.toNat x0) (Ty.dflt Ty.int)) (42240 : Int)) (1 : Int))
 (K (.tup [.one (dR x4), .one (dI (-(1 : Int)))]) [])
 (br (lti (4 : Int) (xori (nth x1 (Int.toNat x0) (Ty.dflt Ty.int)) (42240 : Int)))
 (K (.tup [.one (dR x4), .one (dI (-(1 : Int)))]) [])
 (br (lti (((len x1) : Nat) : Int) (w64 ((w64 (x0 + (xori (nth x1 (Int.toNat x0) (Ty.dflt Ty.int)) (42240 : Int)))) + (1 : Int))))
 (K (.tup [.one (dR x4), .one (dI (-(1 : Int)))]) [])
 ((((0 : Int) ≤ (w64 (x0 + (1 : Int)))) ∧ (((w64 (x0 + (1 : Int))) ≤ (w64 ((w64 (x0 + (1 : Int))) + (xori (nth x1 (Int.toNat x0) (Ty.dflt Ty.int)) (42240 : Int))))) ∧ ((w64 ((w64 (x0 + (1 : Int))) + (xori (nth x1 (Int.toNat x0) (Ty.dflt Ty.int)) (42240 : Int)))) ≤ (((len x1) : Nat) : Int)))) ∧
 ((((len (slc x1 (Int.toNat (w64 (x0 + (1 : Int)))) (Int.toNat (w64 ((w64 (x0 + (1 : Int))) + (xori (nth x1 (Int.toNat x0) (Ty.dflt Ty.int)) (42240 : Int))))))) * 8) ≤ 140737488355328) ∧
 (((((len x4) + (len ((slc x1 (Int.toNat (w64 (x0 + (1 : Int)))) (Int.toNat (w64 ((w64 (x0 + (1 : Int))) + (xori (nth x1 (Int.toNat x0) (Ty.dflt Ty.int)) (42240 : Int)))))) :: []))) * 24) ≤ 140737488355328) ∧
 (rec log_scan_L0 (log_scan_S0 (w64 (x0 + (w64 ((xori (nth x1 (Int.toNat x0) (Ty.dflt Ty.int)) (42240 : Int)) + (1 : Int))))) x1 x2 x3 (cat x4 ((slc x1 (Int.toNat (w64 (x0 + (1 : Int)))) (Int.toNat (w64 ((w64 (x0 + (1 : Int))) + (xori (nth x1 (Int.toNat x0) (Ty.dflt Ty.int)) (42240 : Int)))))) :: [])))))))))))
 ((((0 : Int) ≤ (min x0 (((len x1) : Nat) : Int))) ∧ (((min x0 (((len x1) : Nat) : Int)) ≤ (((len x1) : Nat) : Int)) ∧ ((((len x1) : Nat) : Int) ≤ (((len x1) : Nat) : Int)))) ∧
 v0)))
 ((((0 : Int) ≤ (min x0 (((len x1) : Nat) : Int))) ∧ (((min x0 (((len x1) : Nat) : Int)) ≤ (((len x1) : Nat) : Int)) ∧ ((((len x1) : Nat) : Int) ≤ (((len x1) : Nat) : Int)))) ∧
 v0)) := by subst_vars; kernel_rfl
theorem log_scan_w0 (m : Nat) (K : KK) (st : St) : goD Γ_log_scan tab fn_log_scan 0 K (m + 1) log_scan_L0 st = segD Γ_log_scan tab fn_log_scan 0 K (goD Γ_log_scan tab fn_log_scan 0 K m) (.code (Code.sub (bodyOf fn_log_scan) [1, 1, 1, 0, 0, 0]) :: log_scan_L0) st := rfl
theorem log_scan_vc1 (x0 : Int) (x1 : Int) (x2 : (List Int)) (x3 : Int) (x4 : Int) (x5 : Int) (x6 : (List (List Int))) (rec : RK) (K : KK) : segD Γ_log_scan tab fn_log_scan 0 K rec (.code (Code.sub (bodyOf fn_log_scan) [1, 1, 1, 1, 0, 1, 0, 0]) :: log_scan_L1) (log_scan_S1 x0 x1 x2 x3 x4 x5 x6) = (
 br (lti x0 x1)
 ((((0 : Int) ≤ x0) ∧ (x0 < (((len x2) : Nat) : Int))) ∧
 (br (!(eqi (nth x2 (Int.toNat x0) (Ty.dflt Ty.int)) (65535 : Int)))
 (K (.tup [.one (dR x6), .one (dI (-(1 : Int)))]) [])
 (rec log_scan_L1 (log_scan_S1 (w64 (x0 + (1 : Int))) x1 x2 x3 x4 x5 x6))))
 (K (.tup [.one (dR x6), .one (dI (w64 ((w64 (x5 * (32 : Int))) + x3)))]) [])) := by kernel_rfl
theorem log_scan_w1 (m : Nat) (K : KK) (st : St) : goD Γ_log_scan tab fn_log_scan 0 K (m + 1) log_scan_L1 st = segD Γ_log_scan tab fn_log_scan 0 K (goD Γ_log_scan tab fn_log_scan 0 K m) (.code (Code.sub (bodyOf fn_log_scan) [1, 1, 1, 1, 0, 1, 0, 0]) :: log_scan_L1) st := rfl

theorem clean_log_scan (x3 x4 x5 : Int) (x6 : List (List Int)) (K : KK) (t : List Int) (ht : t.length ≤ 32)
    (hK : K (.tup [.one (dR x6), .one (dI (if allClean t then w64 (w64 (x5 * 32) + x3) else -1))]) []) : ∀ (d k : Nat), t.length ≤ k + d → k ≤ t.length → allClean (t.take k) = true →
    goD Γ_log_scan tab fn_log_scan 0 K (d + 1) log_scan_L1 (log_scan_S1 (k : Int) (((len t) : Nat) : Int) t x3 x4 x5 x6)
  | 0, k, hk, hk2, he => by
    rw [log_scan_w1, log_scan_vc1 _ _ _ _ _ _ _ _ _]
    rw [List.take_of_length_le (by omega)] at he
    rw [if_pos he] at hK
    exact lt_f (by simp only [len]; omega) hK
  | d + 1, k, hk, hk2, he => by
    rw [log_scan_w1, log_scan_vc1 _ _ _ _ _ _ _ _ _, toNat_nat]
    by_cases c : k = t.length
    · rw [List.take_of_length_le (by omega)] at he
      rw [if_pos he] at hK
      exact lt_f (by simp only [len]; omega) hK
    refine lt_t (by simp only [len]; omega) ⟨⟨by omega, by simp only [len]; omega⟩, ne_s (fun hne => ?_) (fun heq => ?_)⟩
    · rw [if_neg (by rw [show allClean t = false from all_false (k := k) (by omega) (Ty.dflt Ty.int) (by simpa using hne)]; simp)] at hK
      exact hK
    · rw [w64_succ (by omega)]
      exact clean_log_scan x3 x4 x5 x6 K t ht hK d (k + 1) (by omega) (by omega) (all_take_step (by omega) (Ty.dflt Ty.int) he (by simpa using heq))
theorem exit_log_scan (s : List Int) (sec : Nat) (hsec : sec ≤ 1) (hl : s.length = 32) (K : KK) (k : Nat) (hk : k ≤ 32) (acc : List (List Int)) (M : Nat)
    (hK : K (.tup [.one (dR acc), .one (dI (if allClean (s.drop k) then 32 * (sec : Int) + k else -1))]) []) :
    goD Γ_log_scan tab fn_log_scan 0 K (M + 33) log_scan_L1 (log_scan_S1 (0 : Int) (((len (slc s (Int.toNat (min (k : Int) (((len s) : Nat) : Int))) (Int.toNat (((len s) : Nat) : Int)))) : Nat) : Int) (slc s (Int.toNat (min (k : Int) (((len s) : Nat) : Int))) (Int.toNat (((len s) : Nat) : Int))) (k : Int) 0 (sec : Int) acc) := by
  rw [show Int.toNat (min (k : Int) (((len s) : Nat) : Int)) = k by simp only [len]; omega, show Int.toNat (((len s) : Nat) : Int) = s.length from rfl, slc_drop]
  refine clean_log_scan _ _ _ _ K (s.drop k) (by simp; omega) ?_ (M + 32) 0 (by simp; omega) (by omega) rfl
  rw [w64_id (n := (sec : Int) * 32) (by omega) (by omega), w64_id (by omega) (by omega), show (sec : Int) * 32 + (k : Int) = 32 * (sec : Int) + k by omega]
  exact hK
theorem loop_log_scan (s : List Int) (sec : Nat) (hsec : sec ≤ 1) (hl : s.length = 32) (hok : okWords s = true) (K : KK) : ∀ (m k : Nat) (acc : List (List Int)), k ≤ 32 → 32 ≤ m + k → acc.length ≤ k →
    K (.tup [.one (dR (acc ++ (scanL m (s.drop k)).1)), .one (dI (match (scanL m (s.drop k)).2 with | some n => 32 * (sec : Int) + k + n | none => -1))]) [] →
    goD Γ_log_scan tab fn_log_scan 0 K (m + 34) log_scan_L0 (log_scan_S0 (k : Int) s 0 (sec : Int) acc)
  | 0, k, acc, hk, hm, ha, hK => by
    have : k = 32 := by omega
    subst this
    rw [show 0 + 34 = 33 + 1 by omega, log_scan_w0, log_scan_vc0 _ _ _ _ _ _ _ _ rfl]
    simp only [scanL, List.append_nil] at hK
    refine lt_f (by simp only [len]; omega) ⟨⟨by simp only [len]; omega, by simp only [len]; omega, by omega⟩, exit_log_scan s sec hsec hl K 32 (by omega) acc 0 ?_⟩
    rw [List.drop_of_length_le (by omega)]
    simpa [allClean] using hK
  | m + 1, k, acc, hk, hm, ha, hK => by
    rw [show m + 1 + 34 = (m + 34) + 1 by omega, log_scan_w0, log_scan_vc0 _ _ _ _ _ _ _ _ rfl, toNat_nat]
    by_cases c : k = 32
    · subst c
      rw [List.drop_of_length_le (by omega)] at hK
      simp only [scanL, List.append_nil] at hK
      refine lt_f (by simp only [len]; omega) ⟨⟨by simp only [len]; omega, by simp only [len]; omega, by omega⟩, exit_log_scan s sec hsec hl K 32 (by omega) acc (m + 1) ?_⟩
      rw [List.drop_of_length_le (by omega)]
      simpa [allClean] using hK
    rw [drop_step (by omega) (Ty.dflt Ty.int)] at hK
    obtain ⟨x, hx⟩ : ∃ x, nth s k (Ty.dflt Ty.int) = x := ⟨_, rfl⟩
    have hxo : okWord x = true := hx ▸ okWords_at hok k (by omega)
    rw [hx] at hK ⊢
    simp only [scanL] at hK
    refine lt_t (by simp only [len]; omega) ⟨⟨by omega, by simp only [len]; omega⟩, ne_s (fun hne => ?_) (fun heq => ?_)⟩
    case refine_2 =>
      rw [if_pos heq] at hK
      refine ⟨⟨by simp only [len]; omega, by simp only [len]; omega, by omega⟩, exit_log_scan s sec hsec hl K k hk acc (m + 1) ?_⟩
      rw [drop_step (by omega) (Ty.dflt Ty.int), hx]
      have e : allClean (x :: s.drop (k + 1)) = allClean (s.drop (k + 1)) := by simp [allClean, heq]
      rw [e]
      cases hc : allClean (s.drop (k + 1))
      · simpa [hc] using hK
      · simpa [hc] using hK
    rw [if_neg hne] at hK
    obtain ⟨g1, g2, g3, g4⟩ := xori_head hxo
    have none' : headN x = 0 → K (.tup [.one (dR acc), .one (dI (-1))]) [] := fun h => by
      rw [if_pos h] at hK
      simpa using hK
    refine ⟨⟨by omega, by simp only [len]; omega⟩, lt_s (fun h1 => none' (g3 (.inl h1))) (fun h1 => lt_s (fun h2 => none' (g3 (.inr h2))) (fun h2 => ?_))⟩
    obtain ⟨e1, e2, e3⟩ := g4 h1 h2
    rw [if_neg e2] at hK
    rw [e1]
    obtain ⟨n, hn⟩ : ∃ n, headN x = n := ⟨_, rfl⟩
    rw [hn] at hK e2 e3 ⊢
    rw [w64_id (n := (k : Int) + (n : Int)) (by omega) (by omega), w64_id (n := (k : Int) + (n : Int) + 1) (by omega) (by omega), w64_id (n := (k : Int) + 1) (by omega) (by omega), w64_id (n := (k : Int) + 1 + (n : Int)) (by omega) (by omega), w64_id (n := (n : Int) + 1) (by omega) (by omega), w64_id (n := (k : Int) + ((n : Int) + 1)) (by omega) (by omega)]
    have ld : (s.drop (k + 1)).length = 31 - k := by simp; omega
    refine lt_s (fun h3 => ?_) (fun h3 => ?_)
    · rw [if_neg (by simp only [len] at h3; omega)] at hK
      simpa using hK
    · simp only [len] at h3
      rw [if_pos (by omega)] at hK
      rw [show Int.toNat ((k : Int) + 1) = k + 1 by omega, show Int.toNat ((k : Int) + 1 + (n : Int)) = k + 1 + n by omega, show (k : Int) + ((n : Int) + 1) = ((k + 1 + n : Nat) : Int) by omega]
      have es : slc s (k + 1) (k + 1 + n) = (s.drop (k + 1)).take n := by simp [slc, List.take_drop]
      rw [es]
      refine ⟨⟨by omega, by omega, by simp only [len]; omega⟩, by simp only [len, List.length_take]; omega, by simp only [len, List.length_cons, List.length_nil]; omega, ?_⟩
      refine loop_log_scan s sec hsec hl hok K m (k + 1 + n) _ (by omega) (by omega) (by simp only [cat, List.length_append, List.length_cons, List.length_nil]; omega) ?_
      rw [List.drop_drop] at hK
      have hK' := hK
      simp only [cat, List.append_assoc, List.cons_append, List.nil_append] at hK' ⊢
      cases hsc : (scanL m (s.drop (k + 1 + n))).2 with
      | none => simpa [hsc] using hK'
      | some p =>
        simp only [hsc, Option.map] at hK'
        rw [show 32 * (sec : Int) + (k : Int) + ((p + n + 1 : Nat) : Int) = 32 * (sec : Int) + ((k + 1 + n : Nat) : Int) + (p : Int) by omega] at hK'
        exact hK'
set_option maxHeartbeats 4000000 in
theorem run_log_scan (ws : List Int) (fu sector : Int) (hp : 0 ≤ sector ∧ sector ≤ 1 ∧ 64 ≤ len ws ∧ len ws ≤ 192 ∧ okWords ws = true) (K : KK) (hK : K (.tup [.one (dR (scanS ws sector.toNat).1), .one (dI (nextI sector.toNat (scanS ws sector.toNat).2))]) []) : ∃ m, goD Γ_log_scan tab fn_log_scan 0 K m [.code (bodyOf fn_log_scan)] (initSt [.agg [dL ws, dI fu], .one (dI sector)] []) := by
  obtain ⟨h0, h1, h2, h3, hok⟩ := hp
  obtain ⟨sec, rfl⟩ := Int.eq_ofNat_of_zero_le h0
  refine ⟨32 + 34 + 1, ?_⟩
  rw [log_scan_w, log_scan_vc _ _ _ _ _]
  rw [w64_id (n := (sec : Int) * 32) (by omega) (by omega), w64_id (n := (sec : Int) + 1) (by omega) (by omega), w64_id (by omega) (by omega)]
  simp only [len] at h2 h3 ⊢
  refine ⟨⟨by omega, by omega, by omega⟩, ?_⟩
  rw [show Int.toNat ((sec : Int) * 32) = 32 * sec by omega, show Int.toNat (((sec : Int) + 1) * 32) = 32 * sec + 32 by omega]
  refine loop_log_scan (slc ws (32 * sec) (32 * sec + 32)) sec (by omega) (slc_len _ _ _ (by omega)) (slc_ok hok _ _) K 32 1 [] (by omega) (by omega) (by simp) ?_
  rw [toNat_nat] at hK
  unfold scanS sectorW at hK
  rw [List.nil_append]
  cases hsc : (scanL 32 ((slc ws (32 * sec) (32 * sec + 32)).drop 1)).2 with
  | none =>
    simp only [hsc, nextI] at hK
    exact hK
  | some p =>
    simp only [hsc, nextI] at hK
    exact hK
theorem sound_log_scan : SoundC Tryz.prog tab n_log_scan c_log_scan := soundC_of ok_log_scan hf_log_scan hB_log_scan (by
  intro vs bs p v bs' h hp
  unfold c_log_scan at h
  split at h
  · cases h
    exact ⟨by kernel_rfl, rfl, .inl (run_log_scan _ _ _ hp.1 _ ⟨rfl, rfl⟩)⟩
  · cases h)

def c_log_Records : Contract := fun vs bs => match vs, bs with
  | [.agg [.dat (.list .int) ws, .dat .int fu]], [] => some (none, .tup [.one (.dat (.list (.list .int)) (recordsF ⟨ws, fu⟩).1), .one (.dat .int (recordsF ⟨ws, fu⟩).2)], [])
  | _, _ => none
def Γ_log_Records : Ctx := [(n_log_Check, c_log_Check), (n_log_live, c_log_live), (n_log_scan, c_log_scan)]
theorem ok_log_Records : Ok Tryz.prog tab Γ_log_Records := (((ok_nil.consC hf_log_scan hB_log_scan sound_log_scan).consC hf_log_live hB_log_live sound_log_live).consC hf_log_Check hB_log_Check sound_log_Check)
theorem log_Records_vc (ws : List Int) (fu : Int) (rec : RK) (K : KK) v0 (hv0 : v0 = (checkLog (⟨ws, fu⟩ : Flash))) v1 (hv1 : v1 = (okWords ws)) v2 (hv2 : v2 = (liveS ws)) v3 (hv3 : v3 = (scanS ws (Int.toNat ((v2 : Nat) : Int)))) : segD Γ_log_Records tab fn_log_Records 0 K rec [.code (bodyOf fn_log_Records)] (initSt [.agg [dL ws, dI fu]] []) = (
 br (!(eqi v0 (0 : Int)))
 (K (.tup [.one (dR []), .one (dI v0)]) [])
 (((64 ≤ (len ws)) ∧ (v1 = true)) ∧
 ((((0 : Int) ≤ ((v2 : Nat) : Int)) ∧ ((((v2 : Nat) : Int) ≤ (1 : Int)) ∧ ((64 ≤ (len ws)) ∧ (((len ws) ≤ 192) ∧ (v1 = true))))) ∧
 (K (.tup [.one (dR v3.fst), .one (dI (0 : Int))]) [])))) := by subst_vars; kernel_rfl
theorem log_Records_w (m : Nat) (K : KK) (st : St) : goD Γ_log_Records tab fn_log_Records 0 K (m + 1) [.code (bodyOf fn_log_Records)] st = segD Γ_log_Records tab fn_log_Records 0 K (goD Γ_log_Records tab fn_log_Records 0 K m) [.code (bodyOf fn_log_Records)] st := rfl

set_option maxHeartbeats 4000000 in
theorem run_log_Records (ws : List Int) (fu : Int) (K : KK) (hK : K (.tup [.one (dR (recordsF ⟨ws, fu⟩).1), .one (dI (recordsF ⟨ws, fu⟩).2)]) []) : ∃ m, goD Γ_log_Records tab fn_log_Records 0 K m [.code (bodyOf fn_log_Records)] (initSt [.agg [dL ws, dI fu]] []) := by
  refine ⟨1, ?_⟩
  rw [log_Records_w, log_Records_vc _ _ _ _ _ rfl _ rfl _ rfl _ rfl]
  unfold recordsF at hK
  refine ne_s (fun h => ?_) (fun h => ?_)
  · rw [if_neg h] at hK; exact hK
  rw [if_pos h] at hK
  obtain ⟨k1, k2, k3, k4⟩ := checkLog_ok h
  obtain ⟨c1, c2, c3, c4⟩ := checkFlash_ok k1
  obtain ⟨c5, c6⟩ := okLen_le c1
  have := liveS_le ws
  exact ⟨⟨k2, c4⟩, ⟨by omega, by omega, k2, c6, c4⟩, hK⟩
theorem sound_log_Records : SoundC Tryz.prog tab n_log_Records c_log_Records := soundC_of ok_log_Records hf_log_Records hB_log_Records (by
  intro vs bs p v bs' h hp
  unfold c_log_Records at h
  split at h
  · cases h
    exact ⟨by kernel_rfl, rfl, .inl (run_log_Records _ _ _ ⟨rfl, rfl⟩)⟩
  · cases h)

def c_unit_state : Contract := fun vs bs => match vs, bs with
  | [.one (.dat (.list (.list .int)) l)], [] => some (some (len l ≤ 1000 ∧ nonE l = true), .agg [.dat .int (stateR l).slot, .dat .int (stateR l).by_, .dat .int (stateR l).ready], [])
  | _, _ => none
def Γ_unit_state : Ctx := []
theorem ok_unit_state : Ok Tryz.prog tab Γ_unit_state := ok_nil
noncomputable def unit_state_L0 : List It := [.inLoop [8, 7, 6, 3, 2] (Code.sub (bodyOf fn_unit_state) [1, 1, 0, 1, 0, 0]), .inBlock 0, .code (Code.sub (bodyOf fn_unit_state) [1, 1, 1])]
def unit_state_S0 (x0 : Int) (x1 : Int) (x2 : (List (List Int))) (x3 : Int) (x4 : Int) (x5 : Int) (x6 : Int) (x7 : Int) (x8 : Int) : St := ⟨[(8, .one (dI x0)), (7, .one (dI x1)), (6, .one (dR x2)), (3, .one (.ptr 0 0)), (2, .one (.ptr 1 0))], [(0, .box [dI x3, dI x4, dI x5]), (1, .box [dI x6, dI x7, dI x8])], 2⟩
theorem unit_state_vc (l : List (List Int)) (rec : RK) (K : KK) : segD Γ_unit_state tab fn_unit_state 0 K rec [.code (bodyOf fn_unit_state)] (initSt [.one (dR l)] []) = (
 rec unit_state_L0 (unit_state_S0 (0 : Int) (((len l) : Nat) : Int) l (0 : Int) (0 : Int) (0 : Int) (0 : Int) (0 : Int) (0 : Int))) := by kernel_rfl
theorem unit_state_w (m : Nat) (K : KK) (st : St) : goD Γ_unit_state tab fn_unit_state 0 K (m + 1) [.code (bodyOf fn_unit_state)] st = segD Γ_unit_state tab fn_unit_state 0 K (goD Γ_unit_state tab fn_unit_state 0 K m) [.code (bodyOf fn_unit_state)] st := rfl
theorem unit_state_vc0 (x0 : Int) (x1 : Int) (x2 : (List (List Int))) (x3 : Int) (x4 : Int) (x5 : Int) (x6 : Int) (x7 : Int) (x8 : Int) (rec : RK) (K : KK) v2 (hv2 : v2 = (rec unit_state_L0 (unit_state_S0 (w64 (x0 + (1 : Int))) x1 x2 x3 x4 x5 x6 x7 x8))) v1 (hv1 : v1 = (br (eqi (nth (nth x2 (Int.toNat x0) (Ty.dflt (Ty.list Ty.int))) (Int.toNat (0 : Int)) (Ty.dflt Ty.int)) (3 : Int))
 (br (eqi (((len (nth x2 (Int.toNat x0) (Ty.dflt (Ty.list Ty.int)))) : Nat) : Int) (2 : Int))
 (rec unit_state_L0 (unit_state_S0 (w64 (x0 + (1 : Int))) x1 x2 x3 x4 (0 : Int) x6 x7 x8))
 v2)
 v2)) v0 (hv0 : v0 = (br (eqi (nth (nth x2 (Int.toNat x0) (Ty.dflt (Ty.list Ty.int))) (Int.toNat (0 : Int)) (Ty.dflt Ty.int)) (2 : Int))
 (br (eqi (((len (nth x2 (Int.toNat x0) (Ty.dflt (Ty.list Ty.int)))) : Nat) : Int) (2 : Int))
 ((((0 : Int) ≤ (1 : Int)) ∧ ((1 : Int) < (((len (nth x2 (Int.toNat x0) (Ty.dflt (Ty.list Ty.int)))) : Nat) : Int))) ∧
 (rec unit_state_L0 (unit_state_S0 (w64 (x0 + (1 : Int))) x1 x2 x3 x4 (nth (nth x2 (Int.toNat x0) (Ty.dflt (Ty.list Ty.int))) (Int.toNat (1 : Int)) (Ty.dflt Ty.int)) x6 x7 x8)))
 ((((0 : Int) ≤ (0 : Int)) ∧ ((0 : Int) < (((len (nth x2 (Int.toNat x0) (Ty.dflt (Ty.list Ty.int)))) : Nat) : Int))) ∧
 v1))
 ((((0 : Int) ≤ (0 : Int)) ∧ ((0 : Int) < (((len (nth x2 (Int.toNat x0) (Ty.dflt (Ty.list Ty.int)))) : Nat) : Int))) ∧
 v1))) : segD Γ_unit_state tab fn_unit_state 0 K rec (.code (Code.sub (bodyOf fn_unit_state) [1, 1, 0, 1, 0, 0]) :: unit_state_L0) (unit_state_S0 x0 x1 x2 x3 x4 x5 x6 x7 x8) = (
 br (lti x0 x1)
 ((((0 : Int) ≤ x0) ∧ (x0 < (((len x2) : Nat) : Int))) ∧
 ((((0 : Int) ≤ (0 : Int)) ∧ ((0 : Int) < (((len (nth x2 (Int.toNat x0) (Ty.dflt (Ty.list Ty.int)))) : Nat) : Int))) ∧
 (br (eqi (nth (nth x2 (Int.toNat x0) (Ty.dflt (Ty.list Ty.int))) (Int.toNat (0 : Int)) (Ty.dflt Ty.int)) (1 : Int))
 (br (eqi (((len (nth x2 (Int.toNat x0) (Ty.dflt (Ty.list Ty.int)))) : Nat) : Int) (3 : Int))
 ((((0 : Int) ≤ (1 : Int)) ∧ ((1 : Int) < (((len (nth x2 (Int.toNat x0) (Ty.dflt (Ty.list Ty.int)))) : Nat) : Int))) ∧
 (br (lei (nth (nth x2 (Int.toNat x0) (Ty.dflt (Ty.list Ty.int))) (Int.toNat (1 : Int)) (Ty.dflt Ty.int)) (1 : Int))
 ((((0 : Int) ≤ (1 : Int)) ∧ ((1 : Int) < (((len (nth x2 (Int.toNat x0) (Ty.dflt (Ty.list Ty.int)))) : Nat) : Int))) ∧
 ((((0 : Int) ≤ (2 : Int)) ∧ ((2 : Int) < (((len (nth x2 (Int.toNat x0) (Ty.dflt (Ty.list Ty.int)))) : Nat) : Int))) ∧
 (rec unit_state_L0 (unit_state_S0 (w64 (x0 + (1 : Int))) x1 x2 (nth (nth x2 (Int.toNat x0) (Ty.dflt (Ty.list Ty.int))) (Int.toNat (1 : Int)) (Ty.dflt Ty.int)) (nth (nth x2 (Int.toNat x0) (Ty.dflt (Ty.list Ty.int))) (Int.toNat (2 : Int)) (Ty.dflt Ty.int)) (0 : Int) x6 x7 x8))))
 ((((0 : Int) ≤ (0 : Int)) ∧ ((0 : Int) < (((len (nth x2 (Int.toNat x0) (Ty.dflt (Ty.list Ty.int)))) : Nat) : Int))) ∧
 v0)))
 ((((0 : Int) ≤ (0 : Int)) ∧ ((0 : Int) < (((len (nth x2 (Int.toNat x0) (Ty.dflt (Ty.list Ty.int)))) : Nat) : Int))) ∧
 v0))
 ((((0 : Int) ≤ (0 : Int)) ∧ ((0 : Int) < (((len (nth x2 (Int.toNat x0) (Ty.dflt (Ty.list Ty.int)))) : Nat) : Int))) ∧
 v0))))
 (K (.agg [dI x3, dI x4, dI x5]) [])) := by subst_vars; kernel_rfl
theorem unit_state_w0 (m : Nat) (K : KK) (st : St) : goD Γ_unit_state tab fn_unit_state 0 K (m + 1) unit_state_L0 st = segD Γ_unit_state tab fn_unit_state 0 K (goD Γ_unit_state tab fn_unit_state 0 K m) (.code (Code.sub (bodyOf fn_unit_state) [1, 1, 0, 1, 0, 0]) :: unit_state_L0) st := rfl

theorem loop_unit_state (l : List (List Int)) (hl : l.length ≤ 1000) (hn : nonE l = true) (K : KK) (x6 x7 x8 : Int) : ∀ (d k : Nat) (a b c : Int), k + d = l.length → K (.agg [dI ((l.drop k).foldl stepR ⟨a, b, c⟩).slot, dI ((l.drop k).foldl stepR ⟨a, b, c⟩).by_, dI ((l.drop k).foldl stepR ⟨a, b, c⟩).ready]) [] →
    goD Γ_unit_state tab fn_unit_state 0 K (d + 1) unit_state_L0 (unit_state_S0 (k : Int) (((len l) : Nat) : Int) l a b c x6 x7 x8)
  | 0, k, a, b, c, hk, hK => by
    rw [unit_state_w0, unit_state_vc0 _ _ _ _ _ _ _ _ _ _ _ _ rfl _ rfl _ rfl]
    rw [List.drop_of_length_le (by omega)] at hK
    exact lt_f (by simp only [len]; omega) hK
  | d + 1, k, a, b, c, hk, hK => by
    rw [unit_state_w0, unit_state_vc0 _ _ _ _ _ _ _ _ _ _ _ _ rfl _ rfl _ rfl, toNat_nat]
    have hm : nth l k (Ty.dflt (Ty.list Ty.int)) ∈ l := by
      have : k < l.length := by omega
      simp [nth, List.getD_eq_getElem?_getD, this]
    have h0 : 0 < (nth l k (Ty.dflt (Ty.list Ty.int))).length := by simpa using List.all_eq_true.1 hn _ hm
    rw [drop_step (by omega) (Ty.dflt (Ty.list Ty.int))] at hK
    obtain ⟨r, hr⟩ : ∃ r, nth l k (Ty.dflt (Ty.list Ty.int)) = r := ⟨_, rfl⟩
    rw [hr] at hK h0 ⊢
    rw [List.foldl_cons] at hK
    have ek : w64 ((k : Int) + 1) = ((k + 1 : Nat) : Int) := w64_succ (by omega)
    rw [ek]
    have nx : ∀ a' b' c' : Int, stepR ⟨a, b, c⟩ r = ⟨a', b', c'⟩ → goD Γ_unit_state tab fn_unit_state 0 K (d + 1) unit_state_L0 (unit_state_S0 ((k + 1 : Nat) : Int) (((len l) : Nat) : Int) l a' b' c' x6 x7 x8) := fun a' b' c' e => by
      rw [e] at hK
      exact loop_unit_state l hl hn K x6 x7 x8 d (k + 1) a' b' c' (by omega) hK
    obtain ⟨u0, e0⟩ : ∃ u0, r.getD 0 0 = u0 := ⟨_, rfl⟩
    obtain ⟨u1, e1⟩ : ∃ u1, r.getD 1 0 = u1 := ⟨_, rfl⟩
    obtain ⟨u2, e2⟩ : ∃ u2, r.getD 2 0 = u2 := ⟨_, rfl⟩
    have es : stepR ⟨a, b, c⟩ r = if u0 = 1 ∧ r.length = 3 ∧ u1 ≤ 1 then ⟨u1, u2, 0⟩ else if u0 = 2 ∧ r.length = 2 then ⟨a, b, u1⟩ else if u0 = 3 ∧ r.length = 2 then ⟨a, b, 0⟩ else ⟨a, b, c⟩ := by
      unfold stepR; rw [e0, e1, e2]
    rw [show nth r (Int.toNat 0) (Ty.dflt Ty.int) = u0 from e0, show nth r (Int.toNat 1) (Ty.dflt Ty.int) = u1 from e1, show nth r (Int.toNat 2) (Ty.dflt Ty.int) = u2 from e2]
    have hlen : len r = r.length := rfl
    rw [hlen]
    rw [es] at nx
    clear hK es
    refine lt_t (by simp only [len]; omega) ⟨⟨by omega, by simp only [len]; omega⟩, ⟨by omega, by omega⟩, ?_⟩
    by_cases c1 : u0 = 1
    · refine eq_t c1 (eq_s (fun h2 => ⟨⟨by omega, by omega⟩, br_split (fun h3 => ?_) (fun h3 => ?_)⟩) (fun h2 => ?_))
      · rw [lei_true] at h3
        exact ⟨⟨by omega, by omega⟩, ⟨by omega, by omega⟩, nx _ _ _ (if_pos ⟨c1, by omega, h3⟩)⟩
      · rw [lei_false] at h3
        exact ⟨⟨by omega, by omega⟩, eq_f (by omega) ⟨⟨by omega, by omega⟩, eq_f (by omega) (nx _ _ _ (by rw [if_neg (by omega), if_neg (by omega), if_neg (by omega)]))⟩⟩
      · exact ⟨⟨by omega, by omega⟩, eq_f (by omega) ⟨⟨by omega, by omega⟩, eq_f (by omega) (nx _ _ _ (by rw [if_neg (by omega), if_neg (by omega), if_neg (by omega)]))⟩⟩
    · refine eq_f c1 ⟨⟨by omega, by omega⟩, ?_⟩
      by_cases c2 : u0 = 2
      · refine eq_t c2 (eq_s (fun h2 => ⟨⟨by omega, by omega⟩, nx _ _ _ (by rw [if_neg (by omega), if_pos (by omega)])⟩) (fun h2 => ⟨⟨by omega, by omega⟩, eq_f (by omega) (nx _ _ _ (by rw [if_neg (by omega), if_neg (by omega), if_neg (by omega)]))⟩))
      · refine eq_f c2 ⟨⟨by omega, by omega⟩, eq_s (fun h3 => eq_s (fun h4 => nx _ _ _ (by rw [if_neg (by omega), if_neg (by omega), if_pos (by omega)])) (fun h4 => nx _ _ _ (by rw [if_neg (by omega), if_neg (by omega), if_neg (by omega)]))) (fun h3 => nx _ _ _ (by rw [if_neg (by omega), if_neg (by omega), if_neg (by omega)]))⟩
set_option maxHeartbeats 4000000 in
theorem run_unit_state (l : List (List Int)) (hp : len l ≤ 1000 ∧ nonE l = true) (K : KK) (hK : K (.agg [dI (stateR l).slot, dI (stateR l).by_, dI (stateR l).ready]) []) : ∃ m, goD Γ_unit_state tab fn_unit_state 0 K m [.code (bodyOf fn_unit_state)] (initSt [.one (dR l)] []) := by
  refine ⟨l.length + 2, ?_⟩
  rw [unit_state_w, unit_state_vc _ _ _]
  exact loop_unit_state l hp.1 hp.2 K 0 0 0 l.length 0 0 0 0 (by omega) hK
theorem sound_unit_state : SoundC Tryz.prog tab n_unit_state c_unit_state := soundC_of ok_unit_state hf_unit_state hB_unit_state (by
  intro vs bs p v bs' h hp
  unfold c_unit_state at h
  split at h
  · cases h
    exact ⟨by kernel_rfl, rfl, .inl (run_unit_state _ hp.1 _ ⟨rfl, rfl⟩)⟩
  · cases h)

def c_unit_of : Contract := fun vs bs => match vs, bs with
  | [.agg [.dat (.list .int) ws, .dat .int fu, .dat .bool _, .dat .int _, .dat .int _]], [] => some (none, .agg [.dat .int (ofU ⟨ws, fu⟩).slot, .dat .int (ofU ⟨ws, fu⟩).by_, .dat .int (ofU ⟨ws, fu⟩).ready], [])
  | _, _ => none
def Γ_unit_of : Ctx := [(n_log_Records, c_log_Records), (n_unit_state, c_unit_state)]
theorem ok_unit_of : Ok Tryz.prog tab Γ_unit_of := ((ok_nil.consC hf_unit_state hB_unit_state sound_unit_state).consC hf_log_Records hB_log_Records sound_log_Records)
theorem unit_of_vc (ws : List Int) (fu : Int) (up : Bool) (un : Int) (ug : Int) (rec : RK) (K : KK) v0 (hv0 : v0 = (recordsF ⟨ws, fu⟩)) v1 (hv1 : v1 = (nonE v0.fst)) v2 (hv2 : v2 = (stateR v0.fst)) : segD Γ_unit_of tab fn_unit_of 0 K rec [.code (bodyOf fn_unit_of)] (initSt [.agg [dL ws, dI fu, dB up, dI un, dI ug]] []) = (
 (((len v0.fst) ≤ 1000) ∧ (v1 = true)) ∧
 (K (.agg [dI v2.slot, dI v2.by_, dI v2.ready]) [])) := by subst_vars; kernel_rfl
theorem unit_of_w (m : Nat) (K : KK) (st : St) : goD Γ_unit_of tab fn_unit_of 0 K (m + 1) [.code (bodyOf fn_unit_of)] st = segD Γ_unit_of tab fn_unit_of 0 K (goD Γ_unit_of tab fn_unit_of 0 K m) [.code (bodyOf fn_unit_of)] st := rfl

set_option maxHeartbeats 4000000 in
theorem run_unit_of (ws : List Int) (fu : Int) (up : Bool) (un ug : Int) (K : KK) (hK : K (.agg [dI (ofU ⟨ws, fu⟩).slot, dI (ofU ⟨ws, fu⟩).by_, dI (ofU ⟨ws, fu⟩).ready]) []) : ∃ m, goD Γ_unit_of tab fn_unit_of 0 K m [.code (bodyOf fn_unit_of)] (initSt [.agg [dL ws, dI fu, dB up, dI un, dI ug]] []) := by
  refine ⟨1, ?_⟩
  rw [unit_of_w, unit_of_vc _ _ _ _ _ _ _ _ rfl _ rfl _ rfl]
  have h := recordsF_ok2 ⟨ws, fu⟩
  exact ⟨⟨by simp only [len]; omega, nonE_of h.2⟩, hK⟩
theorem sound_unit_of : SoundC Tryz.prog tab n_unit_of c_unit_of := soundC_of ok_unit_of hf_unit_of hB_unit_of (by
  intro vs bs p v bs' h hp
  unfold c_unit_of at h
  split at h
  · cases h
    exact ⟨by kernel_rfl, rfl, .inl (run_unit_of _ _ _ _ _ _ ⟨rfl, rfl⟩)⟩
  · cases h)

def c_slot_check : Contract := fun vs bs => match vs, bs with
  | [.agg [.dat (.list .int) ws, .dat .int fu], .one (.dat .int slot)], [] => some (none, .one (.dat .int (checkSlot ⟨ws, fu⟩ slot)), [])
  | _, _ => none
def Γ_slot_check : Ctx := [(n_flash_Check, c_flash_Check)]
theorem ok_slot_check : Ok Tryz.prog tab Γ_slot_check := (ok_nil.consC hf_flash_Check hB_flash_Check sound_flash_Check)
theorem slot_check_vc (ws : List Int) (fu : Int) (slot : Int) (rec : RK) (K : KK) v0 (hv0 : v0 = (checkFlash (⟨ws, fu⟩ : Flash))) : segD Γ_slot_check tab fn_slot_check 0 K rec [.code (bodyOf fn_slot_check)] (initSt [.agg [dL ws, dI fu], .one (dI slot)] []) = (
 br (!(eqi v0 (0 : Int)))
 (K (.one (dI v0)) [])
 (br (!(eqi (((len ws) : Nat) : Int) (192 : Int)))
 (K (.one (dI (4 : Int))) [])
 (br (!(eqi slot (0 : Int)))
 (br (!(eqi slot (1 : Int)))
 (K (.one (dI (5 : Int))) [])
 (K (.one (dI (0 : Int))) []))
 (K (.one (dI (0 : Int))) [])))) := by subst_vars; kernel_rfl
theorem slot_check_w (m : Nat) (K : KK) (st : St) : goD Γ_slot_check tab fn_slot_check 0 K (m + 1) [.code (bodyOf fn_slot_check)] st = segD Γ_slot_check tab fn_slot_check 0 K (goD Γ_slot_check tab fn_slot_check 0 K m) [.code (bodyOf fn_slot_check)] st := rfl

set_option maxHeartbeats 4000000 in
theorem run_slot_check (ws : List Int) (fu slot : Int) (K : KK) (hK : K (.one (dI (checkSlot ⟨ws, fu⟩ slot))) []) : ∃ m, goD Γ_slot_check tab fn_slot_check 0 K m [.code (bodyOf fn_slot_check)] (initSt [.agg [dL ws, dI fu], .one (dI slot)] []) := by
  refine ⟨1, ?_⟩
  rw [slot_check_w, slot_check_vc _ _ _ _ _ _ rfl]
  unfold checkSlot at hK
  refine ne_s (fun h => ?_) (fun h => ?_)
  · rw [if_neg h] at hK; exact hK
  rw [if_pos h] at hK
  refine ne_s (fun h2 => ?_) (fun h2 => ?_)
  · rw [if_neg (by simp only [len] at h2 ⊢; omega)] at hK; exact hK
  rw [if_pos (by simp only [len] at h2 ⊢; omega)] at hK
  refine ne_s (fun h3 => ne_s (fun h4 => ?_) (fun h4 => ?_)) (fun h3 => ?_)
  · rw [if_neg (by omega)] at hK; exact hK
  · rw [if_pos (by omega)] at hK; exact hK
  · rw [if_pos (by omega)] at hK; exact hK
theorem sound_slot_check : SoundC Tryz.prog tab n_slot_check c_slot_check := soundC_of ok_slot_check hf_slot_check hB_slot_check (by
  intro vs bs p v bs' h hp
  unfold c_slot_check at h
  split at h
  · cases h
    exact ⟨by kernel_rfl, rfl, .inl (run_slot_check _ _ _ _ ⟨rfl, rfl⟩)⟩
  · cases h)

def c_flash_burn : Contract := fun vs bs => match vs, bs with
  | [.one (.ptr 0 0)], [.box [.own 1, .dat .int fu], .arr .int ws] => some (some (fu ≤ 100000), .one (.dat .bool (!eqi fu 0)), [.box [.own 1, .dat .int (burnFuel fu)], .arr .int ws])
  | _, _ => none
def Γ_flash_burn : Ctx := []
theorem ok_flash_burn : Ok Tryz.prog tab Γ_flash_burn := ok_nil
theorem flash_burn_vc (ws : List Int) (fu : Int) (rec : RK) (K : KK) : segD Γ_flash_burn tab fn_flash_burn 2 K rec [.code (bodyOf fn_flash_burn)] (initSt [.one (.ptr 0 0)] [.box [.own 1, dI fu], .arr Ty.int ws]) = (
 br (eqi fu (0 : Int))
 (K (.one (dB false)) [.box [.own 1, dI fu], .arr Ty.int ws])
 (br (lti (0 : Int) fu)
 (K (.one (dB true)) [.box [.own 1, dI (w64 (fu - (1 : Int)))], .arr Ty.int ws])
 (K (.one (dB true)) [.box [.own 1, dI fu], .arr Ty.int ws]))) := by kernel_rfl
theorem flash_burn_w (m : Nat) (K : KK) (st : St) : goD Γ_flash_burn tab fn_flash_burn 2 K (m + 1) [.code (bodyOf fn_flash_burn)] st = segD Γ_flash_burn tab fn_flash_burn 2 K (goD Γ_flash_burn tab fn_flash_burn 2 K m) [.code (bodyOf fn_flash_burn)] st := rfl

set_option maxHeartbeats 4000000 in
theorem run_flash_burn (ws : List Int) (fu : Int) (hp : fu ≤ 100000) (K : KK) (hK : K (.one (dB (!eqi fu 0))) [.box [.own 1, dI (burnFuel fu)], .arr .int ws]) : ∃ m, goD Γ_flash_burn tab fn_flash_burn 2 K m [.code (bodyOf fn_flash_burn)] (initSt [.one (.ptr 0 0)] [.box [.own 1, dI fu], .arr .int ws]) := by
  refine ⟨1, ?_⟩
  rw [flash_burn_w, flash_burn_vc _ _ _ _]
  refine eq_s (fun h => ?_) (fun h => lt_s (fun h2 => ?_) (fun h2 => ?_))
  · rw [show (!eqi fu 0) = false from by simp [eqi, h], show burnFuel fu = fu from by simp [burnFuel, h]] at hK; exact hK
  · rw [show (!eqi fu 0) = true from by simp [eqi, h], show burnFuel fu = fu - 1 from by simp [burnFuel, h2]] at hK
    rw [w64_id (by omega) (by omega)]; exact hK
  · rw [show (!eqi fu 0) = true from by simp [eqi, h], show burnFuel fu = fu from by simp only [burnFuel]; rw [if_neg (by omega)]] at hK; exact hK
theorem sound_flash_burn : SoundC Tryz.prog tab n_flash_burn c_flash_burn := soundC_of ok_flash_burn hf_flash_burn hB_flash_burn (by
  intro vs bs p v bs' h hp
  unfold c_flash_burn at h
  split at h
  · cases h
    exact ⟨by kernel_rfl, rfl, .inl (run_flash_burn _ _ hp.1 _ ⟨rfl, rfl⟩)⟩
  · cases h)

def c_flash_Wipe : Contract := fun vs bs => match vs, bs with
  | [.one (.ptr 0 0), .one (.dat .int sector)], [.box [.own 1, .dat .int fu], .arr .int ws] => some (some (-1 ≤ fu ∧ fu ≤ 100000 ∧ 0 ≤ sector ∧ (sector + 1) * 32 ≤ (len ws : Nat) ∧ len ws ≤ 192), .one (.dat .bool (doCh ⟨ws, fu⟩ (wipeCh sector)).2), [.box [.own 1, .dat .int (doCh ⟨ws, fu⟩ (wipeCh sector)).1.fuel], .arr .int (doCh ⟨ws, fu⟩ (wipeCh sector)).1.words])
  | _, _ => none
def Γ_flash_Wipe : Ctx := [(n_flash_burn, c_flash_burn)]
theorem ok_flash_Wipe : Ok Tryz.prog tab Γ_flash_Wipe := (ok_nil.consC hf_flash_burn hB_flash_burn sound_flash_burn)
noncomputable def flash_Wipe_L0 : List It := [.inLoop [6, 4, 0, 1] (Code.sub (bodyOf fn_flash_Wipe) [1, 0, 1, 0, 0]), .inBlock 0, .code (Code.sub (bodyOf fn_flash_Wipe) [1, 1])]
def flash_Wipe_S0 (x0 : Int) (x1 : Bool) (x2 : Int) (x3 : Int) (x4 : (List Int)) : St := ⟨[(6, .one (dI x0)), (4, .one (dB x1)), (0, .one (.ptr 0 0)), (1, .one (dI x2))], [(0, .box [.own 1, dI x3]), (1, .arr Ty.int x4)], 2⟩
theorem flash_Wipe_vc (ws : List Int) (fu : Int) (sector : Int) (rec : RK) (K : KK) : segD Γ_flash_Wipe tab fn_flash_Wipe 2 K rec [.code (bodyOf fn_flash_Wipe)] (initSt [.one (.ptr 0 0), .one (dI sector)] [.box [.own 1, dI fu], .arr Ty.int ws]) = (
 rec flash_Wipe_L0 (flash_Wipe_S0 (0 : Int) false sector fu ws)) := by kernel_rfl
theorem flash_Wipe_w (m : Nat) (K : KK) (st : St) : goD Γ_flash_Wipe tab fn_flash_Wipe 2 K (m + 1) [.code (bodyOf fn_flash_Wipe)] st = segD Γ_flash_Wipe tab fn_flash_Wipe 2 K (goD Γ_flash_Wipe tab fn_flash_Wipe 2 K m) [.code (bodyOf fn_flash_Wipe)] st := rfl
theorem flash_Wipe_vc0 (x0 : Int) (x1 : Bool) (x2 : Int) (x3 : Int) (x4 : (List Int)) (rec : RK) (K : KK) v0 (hv0 : v0 = (burnFuel x3)) : segD Γ_flash_Wipe tab fn_flash_Wipe 2 K rec (.code (Code.sub (bodyOf fn_flash_Wipe) [1, 0, 1, 0, 0]) :: flash_Wipe_L0) (flash_Wipe_S0 x0 x1 x2 x3 x4) = (
 br (lti x0 (32 : Int))
 ((x3 ≤ (100000 : Int)) ∧
 (br (!(!(eqi x3 (0 : Int))))
 (K (.one (dB false)) [.box [.own 1, dI v0], .arr Ty.int x4])
 ((((0 : Int) ≤ (w64 ((w64 (x2 * (32 : Int))) + x0))) ∧ ((w64 ((w64 (x2 * (32 : Int))) + x0)) < (((len x4) : Nat) : Int))) ∧
 (((Int.toNat (w64 ((w64 (x2 * (32 : Int))) + x0))) < (len x4)) ∧
 (rec flash_Wipe_L0 (flash_Wipe_S0 (w64 (x0 + (1 : Int))) x1 x2 v0 (setAt x4 (Int.toNat (w64 ((w64 (x2 * (32 : Int))) + x0))) (65535 : Int))))))))
 (K (.one (dB true)) [.box [.own 1, dI x3], .arr Ty.int x4])) := by subst_vars; kernel_rfl
theorem flash_Wipe_w0 (m : Nat) (K : KK) (st : St) : goD Γ_flash_Wipe tab fn_flash_Wipe 2 K (m + 1) flash_Wipe_L0 st = segD Γ_flash_Wipe tab fn_flash_Wipe 2 K (goD Γ_flash_Wipe tab fn_flash_Wipe 2 K m) (.code (Code.sub (bodyOf fn_flash_Wipe) [1, 0, 1, 0, 0]) :: flash_Wipe_L0) st := rfl

theorem loop_flash_Wipe (sector : Int) (hs : 0 ≤ sector) (K : KK) : ∀ (n : Nat) (ws : List Int) (fu : Int), n ≤ 32 → -1 ≤ fu → fu ≤ 100000 → (sector + 1) * 32 ≤ (ws.length : Nat) → ws.length ≤ 192 →
    K (.one (dB (doCh ⟨ws, fu⟩ (wipeFrom (32 * sector + (32 - n)) n)).2)) [.box [.own 1, dI (doCh ⟨ws, fu⟩ (wipeFrom (32 * sector + (32 - n)) n)).1.fuel], .arr .int (doCh ⟨ws, fu⟩ (wipeFrom (32 * sector + (32 - n)) n)).1.words] →
    goD Γ_flash_Wipe tab fn_flash_Wipe 2 K (n + 1) flash_Wipe_L0 (flash_Wipe_S0 (32 - n) false sector fu ws)
  | 0, ws, fu, hn, h1, h2, h3, h4, hK => by
    rw [flash_Wipe_w0, flash_Wipe_vc0 _ _ _ _ _ _ _ _ rfl]
    refine lt_f (by omega) ?_
    simp only [wipeFrom, doCh_nil] at hK
    exact hK
  | n + 1, ws, fu, hn, h1, h2, h3, h4, hK => by
    rw [flash_Wipe_w0, flash_Wipe_vc0 _ _ _ _ _ _ _ _ rfl]
    have e1 : w64 ((w64 (sector * 32)) + (32 - ((n + 1 : Nat) : Int))) = 32 * sector + (32 - ((n + 1 : Nat) : Int)) := by
      rw [w64_id (n := sector * 32) (by omega) (by omega), w64_id (by omega) (by omega)]; omega
    rw [e1]
    simp only [wipeFrom, doCh_cons] at hK
    refine lt_t (by omega) ⟨h2, ?_⟩
    by_cases h0 : fu = 0
    · subst h0
      refine br_t (by simp [eqi]) ?_
      simp only [if_true] at hK
      exact hK
    · rw [if_neg h0] at hK
      refine br_f (by simp [eqi, h0]) ⟨⟨by omega, by simp only [len]; omega⟩, by simp only [len]; omega, ?_⟩
      rw [w64_id (by omega) (by omega), show (32 - ((n + 1 : Nat) : Int)) + 1 = 32 - (n : Int) by omega]
      refine loop_flash_Wipe sector hs K n _ _ (by omega) ?_ ?_ (by simp [setAt]; omega) (by simpa [setAt] using h4) ?_
      · unfold burnFuel; split <;> omega
      · unfold burnFuel; split <;> omega
      · rw [show (32 * sector + (32 - ((n + 1 : Nat) : Int))) + 1 = 32 * sector + (32 - (n : Int)) by omega] at hK
        exact hK
set_option maxHeartbeats 4000000 in
theorem run_flash_Wipe (ws : List Int) (fu sector : Int) (hp : -1 ≤ fu ∧ fu ≤ 100000 ∧ 0 ≤ sector ∧ (sector + 1) * 32 ≤ (len ws : Nat) ∧ len ws ≤ 192) (K : KK) (hK : K (.one (dB (doCh ⟨ws, fu⟩ (wipeCh sector)).2)) [.box [.own 1, dI (doCh ⟨ws, fu⟩ (wipeCh sector)).1.fuel], .arr .int (doCh ⟨ws, fu⟩ (wipeCh sector)).1.words]) : ∃ m, goD Γ_flash_Wipe tab fn_flash_Wipe 2 K m [.code (bodyOf fn_flash_Wipe)] (initSt [.one (.ptr 0 0), .one (dI sector)] [.box [.own 1, dI fu], .arr .int ws]) := by
  obtain ⟨h1, h2, h3, h4, h5⟩ := hp
  refine ⟨34, ?_⟩
  rw [flash_Wipe_w, flash_Wipe_vc _ _ _ _ _]
  exact loop_flash_Wipe sector h3 K 32 ws fu (by omega) h1 h2 (by simpa [len] using h4) h5 (by simpa [wipeCh] using hK)
theorem sound_flash_Wipe : SoundC Tryz.prog tab n_flash_Wipe c_flash_Wipe := soundC_of ok_flash_Wipe hf_flash_Wipe hB_flash_Wipe (by
  intro vs bs p v bs' h hp
  unfold c_flash_Wipe at h
  split at h
  · cases h
    exact ⟨by kernel_rfl, rfl, .inl (run_flash_Wipe _ _ _ hp.1 _ ⟨rfl, rfl⟩)⟩
  · cases h)

def c_slot_Clear : Contract := fun vs bs => match vs, bs with
  | [.agg [.dat (.list .int) ws, .dat .int fu], .one (.dat .int slot)], [] => some (none, .tup [.agg [.dat (.list .int) (clearS ⟨ws, fu⟩ slot).1.words, .dat .int (clearS ⟨ws, fu⟩ slot).1.fuel], .one (.dat .int (clearS ⟨ws, fu⟩ slot).2)], [])
  | _, _ => none
def Γ_slot_Clear : Ctx := [(n_slot_check, c_slot_check), (n_flash_Copy, c_flash_Copy), (n_flash_Wipe, c_flash_Wipe)]
theorem ok_slot_Clear : Ok Tryz.prog tab Γ_slot_Clear := (((ok_nil.consC hf_flash_Wipe hB_flash_Wipe sound_flash_Wipe).consC hf_flash_Copy hB_flash_Copy sound_flash_Copy).consC hf_slot_check hB_slot_check sound_slot_check)
theorem slot_Clear_vc (ws : List Int) (fu : Int) (slot : Int) (rec : RK) (K : KK) v0 (hv0 : v0 = (checkSlot (⟨ws, fu⟩ : Flash) slot)) v1 (hv1 : v1 = (wipeCh (w64 ((2 : Int) + (w64 ((2 : Int) * slot)))))) v2 (hv2 : v2 = (doCh (⟨ws, fu⟩ : Flash) v1)) v3 (hv3 : v3 = (wipeCh (w64 ((3 : Int) + (w64 ((2 : Int) * slot)))))) v4 (hv4 : v4 = (doCh (⟨v2.fst.words, v2.fst.fuel⟩ : Flash) v3)) : segD Γ_slot_Clear tab fn_slot_Clear 0 K rec [.code (bodyOf fn_slot_Clear)] (initSt [.agg [dL ws, dI fu], .one (dI slot)] []) = (
 br (!(eqi v0 (0 : Int)))
 (K (.tup [.agg [dL [], dI (0 : Int)], .one (dI v0)]) [])
 ((((len ws) * 8) ≤ 140737488355328) ∧
 ((((-(1 : Int)) ≤ fu) ∧ ((fu ≤ (100000 : Int)) ∧ (((0 : Int) ≤ (w64 ((2 : Int) + (w64 ((2 : Int) * slot))))) ∧ (((((w64 ((2 : Int) + (w64 ((2 : Int) * slot)))) + (1 : Int)) * (32 : Int)) ≤ (((len ws) : Nat) : Int)) ∧ ((len ws) ≤ 192))))) ∧
 (br (!v2.snd)
 (K (.tup [.agg [dL v2.fst.words, dI v2.fst.fuel], .one (dI (7 : Int))]) [])
 ((((-(1 : Int)) ≤ v2.fst.fuel) ∧ ((v2.fst.fuel ≤ (100000 : Int)) ∧ (((0 : Int) ≤ (w64 ((3 : Int) + (w64 ((2 : Int) * slot))))) ∧ (((((w64 ((3 : Int) + (w64 ((2 : Int) * slot)))) + (1 : Int)) * (32 : Int)) ≤ (((len v2.fst.words) : Nat) : Int)) ∧ ((len v2.fst.words) ≤ 192))))) ∧
 (br (!v4.snd)
 (K (.tup [.agg [dL v4.fst.words, dI v4.fst.fuel], .one (dI (7 : Int))]) [])
 (K (.tup [.agg [dL v4.fst.words, dI v4.fst.fuel], .one (dI (0 : Int))]) []))))))) := by subst_vars; kernel_rfl
theorem slot_Clear_w (m : Nat) (K : KK) (st : St) : goD Γ_slot_Clear tab fn_slot_Clear 0 K (m + 1) [.code (bodyOf fn_slot_Clear)] st = segD Γ_slot_Clear tab fn_slot_Clear 0 K (goD Γ_slot_Clear tab fn_slot_Clear 0 K m) [.code (bodyOf fn_slot_Clear)] st := rfl

set_option maxHeartbeats 4000000 in
theorem run_slot_Clear (ws : List Int) (fu slot : Int) (K : KK) (hK : K (.tup [.agg [dL (clearS ⟨ws, fu⟩ slot).1.words, dI (clearS ⟨ws, fu⟩ slot).1.fuel], .one (dI (clearS ⟨ws, fu⟩ slot).2)]) []) : ∃ m, goD Γ_slot_Clear tab fn_slot_Clear 0 K m [.code (bodyOf fn_slot_Clear)] (initSt [.agg [dL ws, dI fu], .one (dI slot)] []) := by
  refine ⟨1, ?_⟩
  rw [slot_Clear_w, slot_Clear_vc _ _ _ _ _ _ rfl _ rfl _ rfl _ rfl _ rfl]
  unfold clearS at hK
  refine ne_s (fun h => ?_) (fun h => ?_)
  · rw [if_neg h] at hK; exact hK
  rw [if_pos h] at hK
  obtain ⟨h1, h2, h3⟩ := checkSlot_ok h
  obtain ⟨c1, c2, c3, c4⟩ := checkFlash_ok h1
  simp only at c2 c3 h2
  rw [w64_id (n := 2 * slot) (by omega) (by omega), w64_id (n := 2 + 2 * slot) (by omega) (by omega), w64_id (n := 3 + 2 * slot) (by omega) (by omega)]
  unfold clearCh at hK
  rw [doCh_append] at hK
  have hf := doCh_fuel ⟨ws, fu⟩ (wipeCh (2 + 2 * slot)) c2 c3
  have hl := doCh_len ⟨ws, fu⟩ (wipeCh (2 + 2 * slot))
  simp only [len] at hl ⊢
  refine ⟨by omega, ⟨c2, c3, by omega, by omega, by omega⟩, nt_s (fun h5 => ?_) (fun h5 => ⟨⟨hf.1, hf.2, by omega, by omega, by omega⟩, nt_s (fun h6 => ?_) (fun h6 => ?_)⟩)⟩
  · rw [if_neg (by simp [h5])] at hK
    simp only [power, powerE, h5] at hK; exact hK
  · rw [if_pos h5] at hK
    simp only [power, powerE, h6] at hK; exact hK
  · rw [if_pos h5] at hK
    simp only [power, powerE, h6] at hK; exact hK
theorem sound_slot_Clear : SoundC Tryz.prog tab n_slot_Clear c_slot_Clear := soundC_of ok_slot_Clear hf_slot_Clear hB_slot_Clear (by
  intro vs bs p v bs' h hp
  unfold c_slot_Clear at h
  split at h
  · cases h
    exact ⟨by kernel_rfl, rfl, .inl (run_slot_Clear _ _ _ _ ⟨rfl, rfl⟩)⟩
  · cases h)

def c_slot_begin : Contract := fun vs bs => match vs, bs with
  | [.one (.dat .int slot)], [] => some (some (0 ≤ slot ∧ slot ≤ 1), .one (.dat .int (64 + 64 * slot)), [])
  | _, _ => none
def Γ_slot_begin : Ctx := []
theorem ok_slot_begin : Ok Tryz.prog tab Γ_slot_begin := ok_nil
theorem slot_begin_vc (slot : Int) (rec : RK) (K : KK) : segD Γ_slot_begin tab fn_slot_begin 0 K rec [.code (bodyOf fn_slot_begin)] (initSt [.one (dI slot)] []) = (
 K (.one (dI (w64 ((w64 ((2 : Int) + (w64 ((2 : Int) * slot)))) * (32 : Int))))) []) := by kernel_rfl
theorem slot_begin_w (m : Nat) (K : KK) (st : St) : goD Γ_slot_begin tab fn_slot_begin 0 K (m + 1) [.code (bodyOf fn_slot_begin)] st = segD Γ_slot_begin tab fn_slot_begin 0 K (goD Γ_slot_begin tab fn_slot_begin 0 K m) [.code (bodyOf fn_slot_begin)] st := rfl

set_option maxHeartbeats 4000000 in
theorem run_slot_begin (slot : Int) (hp : 0 ≤ slot ∧ slot ≤ 1) (K : KK) (hK : K (.one (dI (64 + 64 * slot))) []) : ∃ m, goD Γ_slot_begin tab fn_slot_begin 0 K m [.code (bodyOf fn_slot_begin)] (initSt [.one (dI slot)] []) := by
  refine ⟨1, ?_⟩
  rw [slot_begin_w, slot_begin_vc _ _ _]
  rw [w64_id (n := 2 * slot) (by omega) (by omega), w64_id (n := 2 + 2 * slot) (by omega) (by omega), w64_id (by omega) (by omega), show (2 + 2 * slot) * 32 = 64 + 64 * slot by omega]
  exact hK
theorem sound_slot_begin : SoundC Tryz.prog tab n_slot_begin c_slot_begin := soundC_of ok_slot_begin hf_slot_begin hB_slot_begin (by
  intro vs bs p v bs' h hp
  unfold c_slot_begin at h
  split at h
  · cases h
    exact ⟨by kernel_rfl, rfl, .inl (run_slot_begin _ hp.1 _ ⟨rfl, rfl⟩)⟩
  · cases h)

abbrev n_flash_Burn_b : Nat := n_flash_Burn
noncomputable abbrev fn_flash_Burn_b : Func := fn_flash_Burn
theorem hf_flash_Burn_b : Tryz.prog.funcs[n_flash_Burn_b]? = some fn_flash_Burn_b := hf_flash_Burn
theorem hB_flash_Burn_b : fnB fn_flash_Burn_b = true := hB_flash_Burn
def c_flash_Burn_b : Contract := fun vs bs => match vs, bs with
  | [.one (.ptr 0 0), .one (.dat .int at_), .one (.own 1)], [.box [.own 2, .dat .int fu], .arr .int l, .arr .int ws] => some (some (-1 ≤ fu ∧ fu ≤ 100000 ∧ 0 ≤ at_ ∧ at_ + (len l : Nat) ≤ (len ws : Nat) ∧ len ws ≤ 192), .one (.dat .bool (doCh ⟨ws, fu⟩ (burnCh at_ l)).2), [.box [.own 2, .dat .int (doCh ⟨ws, fu⟩ (burnCh at_ l)).1.fuel], .arr .int l, .arr .int (doCh ⟨ws, fu⟩ (burnCh at_ l)).1.words])
  | _, _ => none
def Γ_flash_Burn_b : Ctx := [(n_flash_burn, c_flash_burn)]
theorem ok_flash_Burn_b : Ok Tryz.prog tab Γ_flash_Burn_b := (ok_nil.consC hf_flash_burn hB_flash_burn sound_flash_burn)
noncomputable def flash_Burn_b_L0 : List It := [.inLoop [11, 10, 9, 6, 0, 1] (Code.sub (bodyOf fn_flash_Burn_b) [1, 0, 1, 0, 0]), .inBlock 0, .code (Code.sub (bodyOf fn_flash_Burn_b) [1, 1])]
def flash_Burn_b_S0 (x0 : Int) (x1 : Int) (x2 : Bool) (x3 : Int) (x4 : Int) (x5 : (List Int)) (x6 : (List Int)) : St := ⟨[(11, .one (dI x0)), (10, .one (dI x1)), (9, .one (.own 1)), (6, .one (dB x2)), (0, .one (.ptr 0 0)), (1, .one (dI x3))], [(0, .box [.own 2, dI x4]), (1, .arr Ty.int x5), (2, .arr Ty.int x6)], 3⟩
theorem flash_Burn_b_vc (ws : List Int) (fu : Int) (at_ : Int) (l : List Int) (rec : RK) (K : KK) : segD Γ_flash_Burn_b tab fn_flash_Burn_b 3 K rec [.code (bodyOf fn_flash_Burn_b)] (initSt [.one (.ptr 0 0), .one (dI at_), .one (.own 1)] [.box [.own 2, dI fu], .arr Ty.int l, .arr Ty.int ws]) = (
 rec flash_Burn_b_L0 (flash_Burn_b_S0 (0 : Int) (((len l) : Nat) : Int) false at_ fu l ws)) := by kernel_rfl
theorem flash_Burn_b_w (m : Nat) (K : KK) (st : St) : goD Γ_flash_Burn_b tab fn_flash_Burn_b 3 K (m + 1) [.code (bodyOf fn_flash_Burn_b)] st = segD Γ_flash_Burn_b tab fn_flash_Burn_b 3 K (goD Γ_flash_Burn_b tab fn_flash_Burn_b 3 K m) [.code (bodyOf fn_flash_Burn_b)] st := rfl
theorem flash_Burn_b_vc0 (x0 : Int) (x1 : Int) (x2 : Bool) (x3 : Int) (x4 : Int) (x5 : (List Int)) (x6 : (List Int)) (rec : RK) (K : KK) v0 (hv0 : v0 = (burnFuel x4)) : segD Γ_flash_Burn_b tab fn_flash_Burn_b 3 K rec (.code (Code.sub (bodyOf fn_flash_Burn_b) [1, 0, 1, 0, 0]) :: flash_Burn_b_L0) (flash_Burn_b_S0 x0 x1 x2 x3 x4 x5 x6) = (
 br (lti x0 x1)
 ((((0 : Int) ≤ x0) ∧ (x0 < (((len x5) : Nat) : Int))) ∧
 (((Int.toNat x0) < (len x5)) ∧
 ((x4 ≤ (100000 : Int)) ∧
 (br (!(!(eqi x4 (0 : Int))))
 (K (.one (dB false)) [.box [.own 2, dI v0], .arr Ty.int x5, .arr Ty.int x6])
 ((((0 : Int) ≤ (w64 (x3 + x0))) ∧ ((w64 (x3 + x0)) < (((len x6) : Nat) : Int))) ∧
 (((Int.toNat (w64 (x3 + x0))) < (len x6)) ∧
 ((((0 : Int) ≤ (w64 (x3 + x0))) ∧ ((w64 (x3 + x0)) < (((len x6) : Nat) : Int))) ∧
 (((Int.toNat (w64 (x3 + x0))) < (len x6)) ∧
 (rec flash_Burn_b_L0 (flash_Burn_b_S0 (w64 (x0 + (1 : Int))) x1 x2 x3 v0 x5 (setAt x6 (Int.toNat (w64 (x3 + x0))) (andi (nth x6 (Int.toNat (w64 (x3 + x0))) (Ty.dflt Ty.int)) (nth x5 (Int.toNat x0) (Ty.dflt Ty.int))))))))))))))
 (K (.one (dB true)) [.box [.own 2, dI x4], .arr Ty.int x5, .arr Ty.int x6])) := by subst_vars; kernel_rfl
theorem flash_Burn_b_w0 (m : Nat) (K : KK) (st : St) : goD Γ_flash_Burn_b tab fn_flash_Burn_b 3 K (m + 1) flash_Burn_b_L0 st = segD Γ_flash_Burn_b tab fn_flash_Burn_b 3 K (goD Γ_flash_Burn_b tab fn_flash_Burn_b 3 K m) (.code (Code.sub (bodyOf fn_flash_Burn_b) [1, 0, 1, 0, 0]) :: flash_Burn_b_L0) st := rfl

theorem loop_flash_Burn_b (at_ : Int) (hs : 0 ≤ at_) (l : List Int) (K : KK) : ∀ (n : Nat) (k : Nat) (ws : List Int) (fu : Int), k + n = l.length → -1 ≤ fu → fu ≤ 100000 → at_ + (l.length : Nat) ≤ (ws.length : Nat) → ws.length ≤ 192 →
    K (.one (dB (doCh ⟨ws, fu⟩ (burnCh (at_ + k) (l.drop k))).2)) [.box [.own 2, dI (doCh ⟨ws, fu⟩ (burnCh (at_ + k) (l.drop k))).1.fuel], .arr .int l, .arr .int (doCh ⟨ws, fu⟩ (burnCh (at_ + k) (l.drop k))).1.words] →
    goD Γ_flash_Burn_b tab fn_flash_Burn_b 3 K (n + 1) flash_Burn_b_L0 (flash_Burn_b_S0 (k : Int) (((len l) : Nat) : Int) false at_ fu l ws)
  | 0, k, ws, fu, hk, h1, h2, h3, h4, hK => by
    rw [flash_Burn_b_w0, flash_Burn_b_vc0 _ _ _ _ _ _ _ _ _ _ rfl]
    refine lt_f (by simp only [len]; omega) ?_
    rw [List.drop_of_length_le (by omega)] at hK
    simp only [burnCh, doCh_nil] at hK
    exact hK
  | n + 1, k, ws, fu, hk, h1, h2, h3, h4, hK => by
    rw [flash_Burn_b_w0, flash_Burn_b_vc0 _ _ _ _ _ _ _ _ _ _ rfl]
    rw [w64_id (n := at_ + k) (by omega) (by omega)]
    rw [drop_step (by omega) (Ty.dflt Ty.int)] at hK
    simp only [burnCh, doCh_cons] at hK
    refine lt_t (by simp only [len]; omega) ⟨⟨by omega, by simp only [len]; omega⟩, by simp only [len]; omega, h2, ?_⟩
    by_cases h0 : fu = 0
    · subst h0
      refine br_t (by simp [eqi]) ?_
      simp only [if_true] at hK
      exact hK
    · rw [if_neg h0] at hK
      refine br_f (by simp [eqi, h0]) ⟨⟨by omega, by simp only [len]; omega⟩, by simp only [len]; omega, ⟨by omega, by simp only [len]; omega⟩, by simp only [len]; omega, ?_⟩
      rw [w64_succ (by omega)]
      refine loop_flash_Burn_b at_ hs l K n (k + 1) _ _ (by omega) ?_ ?_ (by simpa [setAt] using h3) (by simpa [setAt] using h4) ?_
      · unfold burnFuel; split <;> omega
      · unfold burnFuel; split <;> omega
      · rw [show at_ + ((k + 1 : Nat) : Int) = at_ + k + 1 by omega]
        exact hK
set_option maxHeartbeats 4000000 in
theorem run_flash_Burn_b (ws : List Int) (fu at_ : Int) (l : List Int) (hp : -1 ≤ fu ∧ fu ≤ 100000 ∧ 0 ≤ at_ ∧ at_ + (len l : Nat) ≤ (len ws : Nat) ∧ len ws ≤ 192) (K : KK) (hK : K (.one (dB (doCh ⟨ws, fu⟩ (burnCh at_ l)).2)) [.box [.own 2, dI (doCh ⟨ws, fu⟩ (burnCh at_ l)).1.fuel], .arr .int l, .arr .int (doCh ⟨ws, fu⟩ (burnCh at_ l)).1.words]) : ∃ m, goD Γ_flash_Burn_b tab fn_flash_Burn_b 3 K m [.code (bodyOf fn_flash_Burn_b)] (initSt [.one (.ptr 0 0), .one (dI at_), .one (.own 1)] [.box [.own 2, dI fu], .arr .int l, .arr .int ws]) := by
  obtain ⟨h1, h2, h3, h4, h5⟩ := hp
  refine ⟨l.length + 2, ?_⟩
  rw [flash_Burn_b_w, flash_Burn_b_vc _ _ _ _ _ _]
  exact loop_flash_Burn_b at_ h3 l K l.length 0 ws fu (by omega) h1 h2 h4 h5 (by simpa using hK)
theorem sound_flash_Burn_b : SoundC Tryz.prog tab n_flash_Burn_b c_flash_Burn_b := soundC_of ok_flash_Burn_b hf_flash_Burn_b hB_flash_Burn_b (by
  intro vs bs p v bs' h hp
  unfold c_flash_Burn_b at h
  split at h
  · cases h
    exact ⟨by kernel_rfl, rfl, .inl (run_flash_Burn_b _ _ _ _ hp.1 _ ⟨rfl, rfl⟩)⟩
  · cases h)

def c_flash_Burn : Contract := fun vs bs => match vs, bs with
  | [.one (.ptr 0 0), .one (.dat .int at_), .one (.dat (.list .int) l)], [.box [.own 1, .dat .int fu], .arr .int ws] => some (some (-1 ≤ fu ∧ fu ≤ 100000 ∧ 0 ≤ at_ ∧ at_ + (len l : Nat) ≤ (len ws : Nat) ∧ len ws ≤ 192), .one (.dat .bool (doCh ⟨ws, fu⟩ (burnCh at_ l)).2), [.box [.own 1, .dat .int (doCh ⟨ws, fu⟩ (burnCh at_ l)).1.fuel], .arr .int (doCh ⟨ws, fu⟩ (burnCh at_ l)).1.words])
  | _, _ => none
def Γ_flash_Burn : Ctx := [(n_flash_burn, c_flash_burn)]
theorem ok_flash_Burn : Ok Tryz.prog tab Γ_flash_Burn := (ok_nil.consC hf_flash_burn hB_flash_burn sound_flash_burn)
noncomputable def flash_Burn_L0 : List It := [.inLoop [11, 10, 9, 6, 0, 1] (Code.sub (bodyOf fn_flash_Burn) [1, 0, 1, 0, 0]), .inBlock 0, .code (Code.sub (bodyOf fn_flash_Burn) [1, 1])]
def flash_Burn_S0 (x0 : Int) (x1 : Int) (x2 : (List Int)) (x3 : Bool) (x4 : Int) (x5 : Int) (x6 : (List Int)) : St := ⟨[(11, .one (dI x0)), (10, .one (dI x1)), (9, .one (dL x2)), (6, .one (dB x3)), (0, .one (.ptr 0 0)), (1, .one (dI x4))], [(0, .box [.own 1, dI x5]), (1, .arr Ty.int x6)], 2⟩
theorem flash_Burn_vc (ws : List Int) (fu : Int) (at_ : Int) (l : List Int) (rec : RK) (K : KK) : segD Γ_flash_Burn tab fn_flash_Burn 2 K rec [.code (bodyOf fn_flash_Burn)] (initSt [.one (.ptr 0 0), .one (dI at_), .one (dL l)] [.box [.own 1, dI fu], .arr Ty.int ws]) = (
 rec flash_Burn_L0 (flash_Burn_S0 (0 : Int) (((len l) : Nat) : Int) l false at_ fu ws)) := by kernel_rfl
theorem flash_Burn_w (m : Nat) (K : KK) (st : St) : goD Γ_flash_Burn tab fn_flash_Burn 2 K (m + 1) [.code (bodyOf fn_flash_Burn)] st = segD Γ_flash_Burn tab fn_flash_Burn 2 K (goD Γ_flash_Burn tab fn_flash_Burn 2 K m) [.code (bodyOf fn_flash_Burn)] st := rfl
theorem flash_Burn_vc0 (x0 : Int) (x1 : Int) (x2 : (List Int)) (x3 : Bool) (x4 : Int) (x5 : Int) (x6 : (List Int)) (rec : RK) (K : KK) v0 (hv0 : v0 = (burnFuel x5)) : segD Γ_flash_Burn tab fn_flash_Burn 2 K rec (.code (Code.sub (bodyOf fn_flash_Burn) [1, 0, 1, 0, 0]) :: flash_Burn_L0) (flash_Burn_S0 x0 x1 x2 x3 x4 x5 x6) = (
 br (lti x0 x1)
 ((((0 : Int) ≤ x0) ∧ (x0 < (((len x2) : Nat) : Int))) ∧
 ((x5 ≤ (100000 : Int)) ∧
 (br (!(!(eqi x5 (0 : Int))))
 (K (.one (dB false)) [.box [.own 1, dI v0], .arr Ty.int x6])
 ((((0 : Int) ≤ (w64 (x4 + x0))) ∧ ((w64 (x4 + x0)) < (((len x6) : Nat) : Int))) ∧
 (((Int.toNat (w64 (x4 + x0))) < (len x6)) ∧
 ((((0 : Int) ≤ (w64 (x4 + x0))) ∧ ((w64 (x4 + x0)) < (((len x6) : Nat) : Int))) ∧
 (((Int.toNat (w64 (x4 + x0))) < (len x6)) ∧
 (rec flash_Burn_L0 (flash_Burn_S0 (w64 (x0 + (1 : Int))) x1 x2 x3 x4 v0 (setAt x6 (Int.toNat (w64 (x4 + x0))) (andi (nth x6 (Int.toNat (w64 (x4 + x0))) (Ty.dflt Ty.int)) (nth x2 (Int.toNat x0) (Ty.dflt Ty.int)))))))))))))
 (K (.one (dB true)) [.box [.own 1, dI x5], .arr Ty.int x6])) := by subst_vars; kernel_rfl
theorem flash_Burn_w0 (m : Nat) (K : KK) (st : St) : goD Γ_flash_Burn tab fn_flash_Burn 2 K (m + 1) flash_Burn_L0 st = segD Γ_flash_Burn tab fn_flash_Burn 2 K (goD Γ_flash_Burn tab fn_flash_Burn 2 K m) (.code (Code.sub (bodyOf fn_flash_Burn) [1, 0, 1, 0, 0]) :: flash_Burn_L0) st := rfl

theorem loop_flash_Burn (at_ : Int) (hs : 0 ≤ at_) (l : List Int) (K : KK) : ∀ (n : Nat) (k : Nat) (ws : List Int) (fu : Int), k + n = l.length → -1 ≤ fu → fu ≤ 100000 → at_ + (l.length : Nat) ≤ (ws.length : Nat) → ws.length ≤ 192 →
    K (.one (dB (doCh ⟨ws, fu⟩ (burnCh (at_ + k) (l.drop k))).2)) [.box [.own 1, dI (doCh ⟨ws, fu⟩ (burnCh (at_ + k) (l.drop k))).1.fuel], .arr .int (doCh ⟨ws, fu⟩ (burnCh (at_ + k) (l.drop k))).1.words] →
    goD Γ_flash_Burn tab fn_flash_Burn 2 K (n + 1) flash_Burn_L0 (flash_Burn_S0 (k : Int) (((len l) : Nat) : Int) l false at_ fu ws)
  | 0, k, ws, fu, hk, h1, h2, h3, h4, hK => by
    rw [flash_Burn_w0, flash_Burn_vc0 _ _ _ _ _ _ _ _ _ _ rfl]
    refine lt_f (by simp only [len]; omega) ?_
    rw [List.drop_of_length_le (by omega)] at hK
    simp only [burnCh, doCh_nil] at hK
    exact hK
  | n + 1, k, ws, fu, hk, h1, h2, h3, h4, hK => by
    rw [flash_Burn_w0, flash_Burn_vc0 _ _ _ _ _ _ _ _ _ _ rfl]
    rw [w64_id (n := at_ + k) (by omega) (by omega)]
    rw [drop_step (by omega) (Ty.dflt Ty.int)] at hK
    simp only [burnCh, doCh_cons] at hK
    refine lt_t (by simp only [len]; omega) ⟨⟨by omega, by simp only [len]; omega⟩, h2, ?_⟩
    by_cases h0 : fu = 0
    · subst h0
      refine br_t (by simp [eqi]) ?_
      simp only [if_true] at hK
      exact hK
    · rw [if_neg h0] at hK
      refine br_f (by simp [eqi, h0]) ⟨⟨by omega, by simp only [len]; omega⟩, by simp only [len]; omega, ⟨by omega, by simp only [len]; omega⟩, by simp only [len]; omega, ?_⟩
      rw [w64_succ (by omega)]
      refine loop_flash_Burn at_ hs l K n (k + 1) _ _ (by omega) ?_ ?_ (by simpa [setAt] using h3) (by simpa [setAt] using h4) ?_
      · unfold burnFuel; split <;> omega
      · unfold burnFuel; split <;> omega
      · rw [show at_ + ((k + 1 : Nat) : Int) = at_ + k + 1 by omega]
        exact hK
set_option maxHeartbeats 4000000 in
theorem run_flash_Burn (ws : List Int) (fu at_ : Int) (l : List Int) (hp : -1 ≤ fu ∧ fu ≤ 100000 ∧ 0 ≤ at_ ∧ at_ + (len l : Nat) ≤ (len ws : Nat) ∧ len ws ≤ 192) (K : KK) (hK : K (.one (dB (doCh ⟨ws, fu⟩ (burnCh at_ l)).2)) [.box [.own 1, dI (doCh ⟨ws, fu⟩ (burnCh at_ l)).1.fuel], .arr .int (doCh ⟨ws, fu⟩ (burnCh at_ l)).1.words]) : ∃ m, goD Γ_flash_Burn tab fn_flash_Burn 2 K m [.code (bodyOf fn_flash_Burn)] (initSt [.one (.ptr 0 0), .one (dI at_), .one (dL l)] [.box [.own 1, dI fu], .arr .int ws]) := by
  obtain ⟨h1, h2, h3, h4, h5⟩ := hp
  refine ⟨l.length + 2, ?_⟩
  rw [flash_Burn_w, flash_Burn_vc _ _ _ _ _ _]
  exact loop_flash_Burn at_ h3 l K l.length 0 ws fu (by omega) h1 h2 h4 h5 (by simpa using hK)
theorem sound_flash_Burn : SoundC Tryz.prog tab n_flash_Burn c_flash_Burn := soundC_of ok_flash_Burn hf_flash_Burn hB_flash_Burn (by
  intro vs bs p v bs' h hp
  unfold c_flash_Burn at h
  split at h
  · cases h
    exact ⟨by kernel_rfl, rfl, .inl (run_flash_Burn _ _ _ _ hp.1 _ ⟨rfl, rfl⟩)⟩
  · cases h)

def c_flash_Program : Contract := fun vs bs => match vs, bs with
  | [.agg [.dat (.list .int) ws, .dat .int fu], .one (.dat .int at_), .one (.dat (.list .int) l)], [] => some (some (Sm l), .tup [.agg [.dat (.list .int) (programF ⟨ws, fu⟩ at_ l).1.words, .dat .int (programF ⟨ws, fu⟩ at_ l).1.fuel], .one (.dat .int (programF ⟨ws, fu⟩ at_ l).2)], [])
  | _, _ => none
def Γ_flash_Program : Ctx := [(n_flash_Check, c_flash_Check), (n_slices_ContainsFunc_Lint, c_slices_ContainsFunc_Lint), (n_flash_Copy, c_flash_Copy), (n_flash_Burn, (orC c_flash_Burn c_flash_Burn_b))]
theorem ok_flash_Program : Ok Tryz.prog tab Γ_flash_Program := ((((ok_nil.consC hf_flash_Burn hB_flash_Burn (soundC_or sound_flash_Burn sound_flash_Burn_b)).consC hf_flash_Copy hB_flash_Copy sound_flash_Copy).consC hf_slices_ContainsFunc_Lint hB_slices_ContainsFunc_Lint sound_slices_ContainsFunc_Lint).consC hf_flash_Check hB_flash_Check sound_flash_Check)
theorem flash_Program_vc (ws : List Int) (fu : Int) (at_ : Int) (l : List Int) (rec : RK) (K : KK) v0 (hv0 : v0 = (checkFlash ⟨ws, fu⟩)) v1 (hv1 : v1 = (okWords l)) v2 (hv2 : v2 = (burnCh at_ l)) v3 (hv3 : v3 = (doCh ⟨ws, fu⟩ v2)) v4 (hv4 : v4 = (K (.tup [.agg [dL [], dI (0 : Int)], .one (dI (5 : Int))]) [])) : segD Γ_flash_Program tab fn_flash_Program 0 K rec [.code (bodyOf fn_flash_Program)] (initSt [.agg [dL ws, dI fu], .one (dI at_), .one (dL l)] []) = (
 br (!(eqi v0 (0 : Int)))
 (K (.tup [.agg [dL [], dI (0 : Int)], .one (dI v0)]) [])
 (br (lti at_ (0 : Int))
 v4
 (br (lti (((len ws) : Nat) : Int) at_)
 v4
 (br (lti (w64 ((((len ws) : Nat) : Int) - at_)) (((len l) : Nat) : Int))
 v4
 (((List.length l) ≤ 140737488355328) ∧
 (br (!v1)
 (K (.tup [.agg [dL [], dI (0 : Int)], .one (dI (3 : Int))]) [])
 ((((len ws) * 8) ≤ 140737488355328) ∧
 ((((-(1 : Int)) ≤ fu) ∧ ((fu ≤ (100000 : Int)) ∧ (((0 : Int) ≤ at_) ∧ (((at_ + (((len l) : Nat) : Int)) ≤ (((len ws) : Nat) : Int)) ∧ ((len ws) ≤ 192))))) ∧
 (br (!v3.snd)
 (K (.tup [.agg [dL v3.fst.words, dI v3.fst.fuel], .one (dI (7 : Int))]) [])
 (K (.tup [.agg [dL v3.fst.words, dI v3.fst.fuel], .one (dI (0 : Int))]) [])))))))))) := by subst_vars; kernel_rfl
theorem flash_Program_w (m : Nat) (K : KK) (st : St) : goD Γ_flash_Program tab fn_flash_Program 0 K (m + 1) [.code (bodyOf fn_flash_Program)] st = segD Γ_flash_Program tab fn_flash_Program 0 K (goD Γ_flash_Program tab fn_flash_Program 0 K m) [.code (bodyOf fn_flash_Program)] st := rfl

set_option maxHeartbeats 4000000 in
theorem run_flash_Program (ws : List Int) (fu at_ : Int) (l : List Int) (hp : Sm l) (K : KK) (hK : K (.tup [.agg [dL (programF ⟨ws, fu⟩ at_ l).1.words, dI (programF ⟨ws, fu⟩ at_ l).1.fuel], .one (dI (programF ⟨ws, fu⟩ at_ l).2)]) []) : ∃ m, goD Γ_flash_Program tab fn_flash_Program 0 K m [.code (bodyOf fn_flash_Program)] (initSt [.agg [dL ws, dI fu], .one (dI at_), .one (dL l)] []) := by
  refine ⟨1, ?_⟩
  rw [flash_Program_w, flash_Program_vc _ _ _ _ _ _ _ rfl _ rfl _ rfl _ rfl _ rfl]
  unfold programF at hK
  refine ne_s (fun h => ?_) (fun h => ?_)
  · rw [if_neg h] at hK; exact hK
  rw [if_pos h] at hK
  obtain ⟨c1, c2, c3, c4⟩ := checkFlash_ok h
  obtain ⟨c5, c6⟩ := okLen_le c1
  simp only at c2 c3 c5 c6
  have five : ¬ (0 ≤ at_ ∧ at_ ≤ (ws.length : Int) ∧ (l.length : Int) ≤ ws.length - at_) → K (.tup [.agg [dL [], dI 0], .one (dI 5)]) [] := fun hn => by
    rw [if_neg hn] at hK; exact hK
  simp only [len]
  refine lt_s (fun h1 => five (by omega)) (fun h1 => lt_s (fun h2 => five (by omega)) (fun h2 => ?_))
  rw [w64_id (by omega) (by omega)]
  refine lt_s (fun h3 => five (by omega)) (fun h3 => ⟨hp, nt_s (fun h4 => ?_) (fun h4 => ?_)⟩)
  · rw [if_pos ⟨h1, h2, h3⟩, if_neg (by rw [h4]; simp)] at hK; exact hK
  · rw [if_pos ⟨h1, h2, h3⟩, if_pos h4] at hK
    refine ⟨by omega, ⟨c2, c3, h1, by omega, by omega⟩, nt_s (fun h5 => ?_) (fun h5 => ?_)⟩
    · simp only [power, powerE, h5] at hK; exact hK
    · simp only [power, powerE, h5] at hK; exact hK
theorem sound_flash_Program : SoundC Tryz.prog tab n_flash_Program c_flash_Program := soundC_of ok_flash_Program hf_flash_Program hB_flash_Program (by
  intro vs bs p v bs' h hp
  unfold c_flash_Program at h
  split at h
  · cases h
    exact ⟨by kernel_rfl, rfl, .inl (run_flash_Program _ _ _ _ hp.1 _ ⟨rfl, rfl⟩)⟩
  · cases h)

def c_slot_Fill : Contract := fun vs bs => match vs, bs with
  | [.agg [.dat (.list .int) ws, .dat .int fu], .one (.dat .int slot), .one (.dat .int at_), .one (.dat (.list .int) l)], [] => some (some (Sm l), .tup [.agg [.dat (.list .int) (fillS ⟨ws, fu⟩ slot at_ l).1.words, .dat .int (fillS ⟨ws, fu⟩ slot at_ l).1.fuel], .one (.dat .int (fillS ⟨ws, fu⟩ slot at_ l).2)], [])
  | _, _ => none
def Γ_slot_Fill : Ctx := [(n_slot_check, c_slot_check), (n_slot_begin, c_slot_begin), (n_flash_Program, c_flash_Program)]
theorem ok_slot_Fill : Ok Tryz.prog tab Γ_slot_Fill := (((ok_nil.consC hf_flash_Program hB_flash_Program sound_flash_Program).consC hf_slot_begin hB_slot_begin sound_slot_begin).consC hf_slot_check hB_slot_check sound_slot_check)
theorem slot_Fill_vc (ws : List Int) (fu : Int) (slot : Int) (at_ : Int) (l : List Int) (rec : RK) (K : KK) v0 (hv0 : v0 = (checkSlot (⟨ws, fu⟩ : Flash) slot)) v1 (hv1 : v1 = (programF (⟨ws, fu⟩ : Flash) (w64 ((w64 (((64 : Int) + ((64 : Int) * slot)) + (4 : Int))) + at_)) l)) v2 (hv2 : v2 = (K (.tup [.agg [dL [], dI (0 : Int)], .one (dI (2 : Int))]) [])) : segD Γ_slot_Fill tab fn_slot_Fill 0 K rec [.code (bodyOf fn_slot_Fill)] (initSt [.agg [dL ws, dI fu], .one (dI slot), .one (dI at_), .one (dL l)] []) = (
 br (!(eqi v0 (0 : Int)))
 (K (.tup [.agg [dL [], dI (0 : Int)], .one (dI v0)]) [])
 (br (lti at_ (0 : Int))
 v2
 (br (lti (40 : Int) at_)
 v2
 (br (lti (w64 ((40 : Int) - at_)) (((len l) : Nat) : Int))
 v2
 ((((0 : Int) ≤ slot) ∧ (slot ≤ (1 : Int))) ∧
 (((List.length l) ≤ 140737488355328) ∧
 (K (.tup [.agg [dL v1.fst.words, dI v1.fst.fuel], .one (dI v1.snd)]) []))))))) := by subst_vars; kernel_rfl
theorem slot_Fill_w (m : Nat) (K : KK) (st : St) : goD Γ_slot_Fill tab fn_slot_Fill 0 K (m + 1) [.code (bodyOf fn_slot_Fill)] st = segD Γ_slot_Fill tab fn_slot_Fill 0 K (goD Γ_slot_Fill tab fn_slot_Fill 0 K m) [.code (bodyOf fn_slot_Fill)] st := rfl

set_option maxHeartbeats 4000000 in
theorem run_slot_Fill (ws : List Int) (fu slot at_ : Int) (l : List Int) (hp : Sm l) (K : KK) (hK : K (.tup [.agg [dL (fillS ⟨ws, fu⟩ slot at_ l).1.words, dI (fillS ⟨ws, fu⟩ slot at_ l).1.fuel], .one (dI (fillS ⟨ws, fu⟩ slot at_ l).2)]) []) : ∃ m, goD Γ_slot_Fill tab fn_slot_Fill 0 K m [.code (bodyOf fn_slot_Fill)] (initSt [.agg [dL ws, dI fu], .one (dI slot), .one (dI at_), .one (dL l)] []) := by
  refine ⟨1, ?_⟩
  rw [slot_Fill_w, slot_Fill_vc _ _ _ _ _ _ _ _ rfl _ rfl _ rfl]
  unfold fillS at hK
  refine ne_s (fun h => ?_) (fun h => ?_)
  · rw [if_neg h] at hK; exact hK
  rw [if_pos h] at hK
  obtain ⟨h1, h2, h3⟩ := checkSlot_ok h
  simp only [len]
  refine lt_s (fun h4 => ?_) (fun h4 => lt_s (fun h5 => ?_) (fun h5 => ?_))
  · rw [if_neg (by omega)] at hK; exact hK
  · rw [if_neg (by omega)] at hK; exact hK
  rw [w64_id (n := 40 - at_) (by omega) (by omega)]
  refine lt_s (fun h6 => ?_) (fun h6 => ?_)
  · rw [if_neg (by omega)] at hK; exact hK
  rw [w64_id (n := 64 + 64 * slot + 4) (by omega) (by omega), w64_id (by omega) (by omega), show 64 + 64 * slot + 4 + at_ = 68 + 64 * slot + at_ by omega]
  rw [if_pos (by omega)] at hK
  exact ⟨by omega, hp, hK⟩
theorem sound_slot_Fill : SoundC Tryz.prog tab n_slot_Fill c_slot_Fill := soundC_of ok_slot_Fill hf_slot_Fill hB_slot_Fill (by
  intro vs bs p v bs' h hp
  unfold c_slot_Fill at h
  split at h
  · cases h
    exact ⟨by kernel_rfl, rfl, .inl (run_slot_Fill _ _ _ _ _ hp.1 _ ⟨rfl, rfl⟩)⟩
  · cases h)

def c_unit_down : Contract := fun vs bs => match vs, bs with
  | [.one (.ptr 0 0)], [.box [.dat (.list .int) ws, .dat .int fu, .dat .bool up, .dat .int un, .dat .int ug]] => some (none, .tup [], [.box [.dat (.list .int) (downU ⟨⟨ws, fu⟩, up, un, ug⟩).f.words, .dat .int (downU ⟨⟨ws, fu⟩, up, un, ug⟩).f.fuel, .dat .bool (downU ⟨⟨ws, fu⟩, up, un, ug⟩).up, .dat .int (downU ⟨⟨ws, fu⟩, up, un, ug⟩).n, .dat .int (downU ⟨⟨ws, fu⟩, up, un, ug⟩).got]])
  | _, _ => none
def Γ_unit_down : Ctx := []
theorem ok_unit_down : Ok Tryz.prog tab Γ_unit_down := ok_nil
theorem unit_down_vc (ws : List Int) (fu : Int) (up : Bool) (un : Int) (ug : Int) (rec : RK) (K : KK) : segD Γ_unit_down tab fn_unit_down 1 K rec [.code (bodyOf fn_unit_down)] (initSt [.one (.ptr 0 0)] [.box [dL ws, dI fu, dB up, dI un, dI ug]]) = (
 K (.tup []) [.box [dL ws, dI fu, dB false, dI (0 : Int), dI (0 : Int)]]) := by kernel_rfl
theorem unit_down_w (m : Nat) (K : KK) (st : St) : goD Γ_unit_down tab fn_unit_down 1 K (m + 1) [.code (bodyOf fn_unit_down)] st = segD Γ_unit_down tab fn_unit_down 1 K (goD Γ_unit_down tab fn_unit_down 1 K m) [.code (bodyOf fn_unit_down)] st := rfl

set_option maxHeartbeats 4000000 in
theorem run_unit_down (ws : List Int) (fu : Int) (up : Bool) (un ug : Int) (K : KK) (hK : K (.tup []) [.box [dL (downU ⟨⟨ws, fu⟩, up, un, ug⟩).f.words, dI (downU ⟨⟨ws, fu⟩, up, un, ug⟩).f.fuel, dB (downU ⟨⟨ws, fu⟩, up, un, ug⟩).up, dI (downU ⟨⟨ws, fu⟩, up, un, ug⟩).n, dI (downU ⟨⟨ws, fu⟩, up, un, ug⟩).got]]) : ∃ m, goD Γ_unit_down tab fn_unit_down 1 K m [.code (bodyOf fn_unit_down)] (initSt [.one (.ptr 0 0)] [.box [dL ws, dI fu, dB up, dI un, dI ug]]) := by
  refine ⟨1, ?_⟩
  rw [unit_down_w, unit_down_vc _ _ _ _ _ _ _]
  exact hK
theorem sound_unit_down : SoundC Tryz.prog tab n_unit_down c_unit_down := soundC_of ok_unit_down hf_unit_down hB_unit_down (by
  intro vs bs p v bs' h hp
  unfold c_unit_down at h
  split at h
  · cases h
    exact ⟨by kernel_rfl, rfl, .inl (run_unit_down _ _ _ _ _ _ ⟨rfl, rfl⟩)⟩
  · cases h)

def c_unit_change : Contract := fun vs bs => match vs, bs with
  | [.one (.ptr 0 0), .agg [.dat (.list .int) gs, .dat .int gf], .one (.dat .int e)], [.box [.dat (.list .int) ws, .dat .int fu, .dat .bool up, .dat .int un, .dat .int ug]] => some (none, .one (.dat .bool (changeU ⟨⟨ws, fu⟩, up, un, ug⟩ ⟨gs, gf⟩ e).2), [.box [.dat (.list .int) (changeU ⟨⟨ws, fu⟩, up, un, ug⟩ ⟨gs, gf⟩ e).1.f.words, .dat .int (changeU ⟨⟨ws, fu⟩, up, un, ug⟩ ⟨gs, gf⟩ e).1.f.fuel, .dat .bool (changeU ⟨⟨ws, fu⟩, up, un, ug⟩ ⟨gs, gf⟩ e).1.up, .dat .int (changeU ⟨⟨ws, fu⟩, up, un, ug⟩ ⟨gs, gf⟩ e).1.n, .dat .int (changeU ⟨⟨ws, fu⟩, up, un, ug⟩ ⟨gs, gf⟩ e).1.got]])
  | _, _ => none
def Γ_unit_change : Ctx := [(n_unit_down, c_unit_down)]
theorem ok_unit_change : Ok Tryz.prog tab Γ_unit_change := (ok_nil.consC hf_unit_down hB_unit_down sound_unit_down)
theorem unit_change_vc (ws : List Int) (fu : Int) (up : Bool) (un : Int) (ug : Int) (gs : List Int) (gf : Int) (e : Int) (rec : RK) (K : KK) : segD Γ_unit_change tab fn_unit_change 1 K rec [.code (bodyOf fn_unit_change)] (initSt [.one (.ptr 0 0), .agg [dL gs, dI gf], .one (dI e)] [.box [dL ws, dI fu, dB up, dI un, dI ug]]) = (
 br (eqi e (0 : Int))
 (K (.one (dB true)) [.box [dL gs, dI gf, dB up, dI un, dI ug]])
 (br (eqi e (7 : Int))
 (K (.one (dB false)) [.box [dL gs, dI gf, dB false, dI (0 : Int), dI (0 : Int)]])
 (K (.one (dB false)) [.box [dL ws, dI fu, dB up, dI un, dI ug]]))) := by kernel_rfl
theorem unit_change_w (m : Nat) (K : KK) (st : St) : goD Γ_unit_change tab fn_unit_change 1 K (m + 1) [.code (bodyOf fn_unit_change)] st = segD Γ_unit_change tab fn_unit_change 1 K (goD Γ_unit_change tab fn_unit_change 1 K m) [.code (bodyOf fn_unit_change)] st := rfl

set_option maxHeartbeats 4000000 in
theorem run_unit_change (ws : List Int) (fu : Int) (up : Bool) (un ug : Int) (gs : List Int) (gf e : Int) (K : KK) (hK : K (.one (dB (changeU ⟨⟨ws, fu⟩, up, un, ug⟩ ⟨gs, gf⟩ e).2)) [.box [dL (changeU ⟨⟨ws, fu⟩, up, un, ug⟩ ⟨gs, gf⟩ e).1.f.words, dI (changeU ⟨⟨ws, fu⟩, up, un, ug⟩ ⟨gs, gf⟩ e).1.f.fuel, dB (changeU ⟨⟨ws, fu⟩, up, un, ug⟩ ⟨gs, gf⟩ e).1.up, dI (changeU ⟨⟨ws, fu⟩, up, un, ug⟩ ⟨gs, gf⟩ e).1.n, dI (changeU ⟨⟨ws, fu⟩, up, un, ug⟩ ⟨gs, gf⟩ e).1.got]]) : ∃ m, goD Γ_unit_change tab fn_unit_change 1 K m [.code (bodyOf fn_unit_change)] (initSt [.one (.ptr 0 0), .agg [dL gs, dI gf], .one (dI e)] [.box [dL ws, dI fu, dB up, dI un, dI ug]]) := by
  refine ⟨1, ?_⟩
  rw [unit_change_w, unit_change_vc _ _ _ _ _ _ _ _ _ _]
  unfold changeU at hK
  refine eq_s (fun h => ?_) (fun h => eq_s (fun h2 => ?_) (fun h2 => ?_))
  · rw [if_pos h] at hK; exact hK
  · rw [if_neg h, if_pos h2] at hK; exact hK
  · rw [if_neg h, if_neg h2] at hK; exact hK
theorem sound_unit_change : SoundC Tryz.prog tab n_unit_change c_unit_change := soundC_of ok_unit_change hf_unit_change hB_unit_change (by
  intro vs bs p v bs' h hp
  unfold c_unit_change at h
  split at h
  · cases h
    exact ⟨by kernel_rfl, rfl, .inl (run_unit_change _ _ _ _ _ _ _ _ _ ⟨rfl, rfl⟩)⟩
  · cases h)

def c_unit_piece : Contract := fun vs bs => match vs, bs with
  | [.one (.ptr 0 0), .agg [.dat .int so, .dat .int sb, .dat .int sr], .agg [.dat .int mk, .dat .int mu, .dat .int mn, .dat .int ma, .dat .int mi, .dat (.list .int) mw, .dat .bool my]], [.box [.dat (.list .int) ws, .dat .int fu, .dat .bool up, .dat .int un, .dat .int ug]] => some (some (0 ≤ so ∧ so ≤ 1 ∧ 0 ≤ ma ∧ ma ≤ 40 ∧ len mw ≤ 8), .tup [], [.box [.dat (.list .int) (pieceU ⟨⟨ws, fu⟩, up, un, ug⟩ ⟨so, sb, sr⟩ ⟨mk, mu, mn, ma, mi, mw, my⟩).f.words, .dat .int (pieceU ⟨⟨ws, fu⟩, up, un, ug⟩ ⟨so, sb, sr⟩ ⟨mk, mu, mn, ma, mi, mw, my⟩).f.fuel, .dat .bool (pieceU ⟨⟨ws, fu⟩, up, un, ug⟩ ⟨so, sb, sr⟩ ⟨mk, mu, mn, ma, mi, mw, my⟩).up, .dat .int (pieceU ⟨⟨ws, fu⟩, up, un, ug⟩ ⟨so, sb, sr⟩ ⟨mk, mu, mn, ma, mi, mw, my⟩).n, .dat .int (pieceU ⟨⟨ws, fu⟩, up, un, ug⟩ ⟨so, sb, sr⟩ ⟨mk, mu, mn, ma, mi, mw, my⟩).got]])
  | _, _ => none
def Γ_unit_piece : Ctx := [(n_slot_Clear, c_slot_Clear), (n_slot_Fill, c_slot_Fill), (n_unit_change, c_unit_change)]
theorem ok_unit_piece : Ok Tryz.prog tab Γ_unit_piece := (((ok_nil.consC hf_unit_change hB_unit_change sound_unit_change).consC hf_slot_Fill hB_slot_Fill sound_slot_Fill).consC hf_slot_Clear hB_slot_Clear sound_slot_Clear)
theorem unit_piece_vc (ws : List Int) (fu : Int) (up : Bool) (un : Int) (ug : Int) (so : Int) (sb : Int) (sr : Int) (mk : Int) (mu : Int) (mn : Int) (ma : Int) (mi : Int) (mw : List Int) (my : Bool) (rec : RK) (K : KK) v0 (hv0 : v0 = (clearS ⟨ws, fu⟩ (w64 ((1 : Int) - so)))) v1 (hv1 : v1 = (changeU ⟨⟨ws, fu⟩, up, un, ug⟩ ⟨v0.fst.words, v0.fst.fuel⟩ v0.snd)) v2 (hv2 : v2 = (fillS ⟨v1.fst.f.words, v1.fst.f.fuel⟩ (w64 ((1 : Int) - so)) ma mw)) v3 (hv3 : v3 = (changeU ⟨⟨v1.fst.f.words, v1.fst.f.fuel⟩, v1.fst.up, mn, (0 : Int)⟩ ⟨v2.fst.words, v2.fst.fuel⟩ v2.snd)) v4 (hv4 : v4 = (fillS ⟨ws, fu⟩ (w64 ((1 : Int) - so)) ma mw)) v5 (hv5 : v5 = (changeU ⟨⟨ws, fu⟩, up, un, ug⟩ ⟨v4.fst.words, v4.fst.fuel⟩ v4.snd)) v7 (hv7 : v7 = (br (!(eqi un mn))
 (K (.tup []) [.box [dL ws, dI fu, dB up, dI un, dI ug]])
 (br (!(eqi ug ma))
 (K (.tup []) [.box [dL ws, dI fu, dB up, dI un, dI ug]])
 (br (lti (40 : Int) (w64 (ma + (((len mw) : Nat) : Int))))
 (K (.tup []) [.box [dL ws, dI fu, dB up, dI un, dI ug]])
 (((List.length mw) ≤ 140737488355328) ∧
 (br v5.snd
 (K (.tup []) [.box [dL v5.fst.f.words, dI v5.fst.f.fuel, dB v5.fst.up, dI v5.fst.n, dI (w64 (v5.fst.got + (((len mw) : Nat) : Int)))]])
 (K (.tup []) [.box [dL v5.fst.f.words, dI v5.fst.f.fuel, dB v5.fst.up, dI v5.fst.n, dI v5.fst.got]]))))))) v8 (hv8 : v8 = (K (.tup []) [.box [dL v1.fst.f.words, dI v1.fst.f.fuel, dB v1.fst.up, dI mn, dI (0 : Int)]])) v6 (hv6 : v6 = (br (!v1.snd)
 (K (.tup []) [.box [dL v1.fst.f.words, dI v1.fst.f.fuel, dB v1.fst.up, dI v1.fst.n, dI v1.fst.got]])
 (br (!(eqi mn mn))
 v8
 (br (!(eqi (0 : Int) ma))
 v8
 (br (lti (40 : Int) (w64 (ma + (((len mw) : Nat) : Int))))
 v8
 (((List.length mw) ≤ 140737488355328) ∧
 (br v3.snd
 (K (.tup []) [.box [dL v3.fst.f.words, dI v3.fst.f.fuel, dB v3.fst.up, dI v3.fst.n, dI (w64 (v3.fst.got + (((len mw) : Nat) : Int)))]])
 (K (.tup []) [.box [dL v3.fst.f.words, dI v3.fst.f.fuel, dB v3.fst.up, dI v3.fst.n, dI v3.fst.got]])))))))) : segD Γ_unit_piece tab fn_unit_piece 1 K rec [.code (bodyOf fn_unit_piece)] (initSt [.one (.ptr 0 0), .agg [dI so, dI sb, dI sr], .agg [dI mk, dI mu, dI mn, dI ma, dI mi, dL mw, dB my]] [.box [dL ws, dI fu, dB up, dI un, dI ug]]) = (
 br (lti (0 : Int) sr)
 (K (.tup []) [.box [dL ws, dI fu, dB up, dI un, dI ug]])
 (br (lei mn sb)
 (K (.tup []) [.box [dL ws, dI fu, dB up, dI un, dI ug]])
 (br (lti (8 : Int) mn)
 (K (.tup []) [.box [dL ws, dI fu, dB up, dI un, dI ug]])
 (br (eqi ma (0 : Int))
 (br (!(eqi un mn))
 v6
 (br (eqi ug (0 : Int))
 v6
 v7))
 v7)))) := by subst_vars; kernel_rfl
theorem unit_piece_w (m : Nat) (K : KK) (st : St) : goD Γ_unit_piece tab fn_unit_piece 1 K (m + 1) [.code (bodyOf fn_unit_piece)] st = segD Γ_unit_piece tab fn_unit_piece 1 K (goD Γ_unit_piece tab fn_unit_piece 1 K m) [.code (bodyOf fn_unit_piece)] st := rfl

theorem unit_fill (K : KK) (ws : List Int) (fu : Int) (up : Bool) (un ug so sb sr mk mu mn ma mi : Int) (mw : List Int) (my : Bool) (hs : 0 ≤ so ∧ so ≤ 1) (ha : 0 ≤ ma ∧ ma ≤ 40) (hw : len mw ≤ 8)
    (hK : K (.tup []) [.box [dL (fillU ⟨⟨ws, fu⟩, up, un, ug⟩ ⟨so, sb, sr⟩ ⟨mk, mu, mn, ma, mi, mw, my⟩).f.words, dI (fillU ⟨⟨ws, fu⟩, up, un, ug⟩ ⟨so, sb, sr⟩ ⟨mk, mu, mn, ma, mi, mw, my⟩).f.fuel, dB (fillU ⟨⟨ws, fu⟩, up, un, ug⟩ ⟨so, sb, sr⟩ ⟨mk, mu, mn, ma, mi, mw, my⟩).up, dI (fillU ⟨⟨ws, fu⟩, up, un, ug⟩ ⟨so, sb, sr⟩ ⟨mk, mu, mn, ma, mi, mw, my⟩).n, dI (fillU ⟨⟨ws, fu⟩, up, un, ug⟩ ⟨so, sb, sr⟩ ⟨mk, mu, mn, ma, mi, mw, my⟩).got]]) :
    br (!(eqi un mn))
      (K (.tup []) [.box [dL ws, dI fu, dB up, dI un, dI ug]])
      (br (!(eqi ug ma))
        (K (.tup []) [.box [dL ws, dI fu, dB up, dI un, dI ug]])
        (br (lti 40 (w64 (ma + ((len mw : Nat) : Int))))
          (K (.tup []) [.box [dL ws, dI fu, dB up, dI un, dI ug]])
          ((List.length mw ≤ 140737488355328) ∧
            br (changeU ⟨⟨ws, fu⟩, up, un, ug⟩ (fillS ⟨ws, fu⟩ (w64 (1 - so)) ma mw).1 (fillS ⟨ws, fu⟩ (w64 (1 - so)) ma mw).2).2
              (K (.tup []) [.box [dL (changeU ⟨⟨ws, fu⟩, up, un, ug⟩ (fillS ⟨ws, fu⟩ (w64 (1 - so)) ma mw).1 (fillS ⟨ws, fu⟩ (w64 (1 - so)) ma mw).2).1.f.words, dI (changeU ⟨⟨ws, fu⟩, up, un, ug⟩ (fillS ⟨ws, fu⟩ (w64 (1 - so)) ma mw).1 (fillS ⟨ws, fu⟩ (w64 (1 - so)) ma mw).2).1.f.fuel, dB (changeU ⟨⟨ws, fu⟩, up, un, ug⟩ (fillS ⟨ws, fu⟩ (w64 (1 - so)) ma mw).1 (fillS ⟨ws, fu⟩ (w64 (1 - so)) ma mw).2).1.up, dI (changeU ⟨⟨ws, fu⟩, up, un, ug⟩ (fillS ⟨ws, fu⟩ (w64 (1 - so)) ma mw).1 (fillS ⟨ws, fu⟩ (w64 (1 - so)) ma mw).2).1.n, dI (w64 ((changeU ⟨⟨ws, fu⟩, up, un, ug⟩ (fillS ⟨ws, fu⟩ (w64 (1 - so)) ma mw).1 (fillS ⟨ws, fu⟩ (w64 (1 - so)) ma mw).2).1.got + ((len mw : Nat) : Int)))]])
              (K (.tup []) [.box [dL (changeU ⟨⟨ws, fu⟩, up, un, ug⟩ (fillS ⟨ws, fu⟩ (w64 (1 - so)) ma mw).1 (fillS ⟨ws, fu⟩ (w64 (1 - so)) ma mw).2).1.f.words, dI (changeU ⟨⟨ws, fu⟩, up, un, ug⟩ (fillS ⟨ws, fu⟩ (w64 (1 - so)) ma mw).1 (fillS ⟨ws, fu⟩ (w64 (1 - so)) ma mw).2).1.f.fuel, dB (changeU ⟨⟨ws, fu⟩, up, un, ug⟩ (fillS ⟨ws, fu⟩ (w64 (1 - so)) ma mw).1 (fillS ⟨ws, fu⟩ (w64 (1 - so)) ma mw).2).1.up, dI (changeU ⟨⟨ws, fu⟩, up, un, ug⟩ (fillS ⟨ws, fu⟩ (w64 (1 - so)) ma mw).1 (fillS ⟨ws, fu⟩ (w64 (1 - so)) ma mw).2).1.n, dI (changeU ⟨⟨ws, fu⟩, up, un, ug⟩ (fillS ⟨ws, fu⟩ (w64 (1 - so)) ma mw).1 (fillS ⟨ws, fu⟩ (w64 (1 - so)) ma mw).2).1.got]])))) := by
  have hl : mw.length ≤ 8 := hw
  rw [w64_id (n := 1 - so) (by omega) (by omega), w64_id (n := ma + ((len mw : Nat) : Int)) (by simp only [len]; omega) (by simp only [len]; omega)]
  unfold fillU at hK
  simp only at hK
  refine ne_s (fun h => ?_) (fun h => ne_s (fun h2 => ?_) (fun h2 => lt_s (fun h3 => ?_) (fun h3 => ⟨by omega, br_split (fun h4 => ?_) (fun h4 => ?_)⟩)))
  · rw [if_pos (.inl h)] at hK; exact hK
  · rw [if_pos (.inr (.inl h2))] at hK; exact hK
  · rw [if_pos (.inr (.inr (by simp only [len] at h3; omega)))] at hK; exact hK
  · rw [if_neg (by simp only [len] at h3; omega)] at hK
    have e : fillC ⟨⟨ws, fu⟩, up, un, ug⟩ ⟨so, sb, sr⟩ ⟨mk, mu, mn, ma, mi, mw, my⟩ = changeU ⟨⟨ws, fu⟩, up, un, ug⟩ (fillS ⟨ws, fu⟩ (1 - so) ma mw).1 (fillS ⟨ws, fu⟩ (1 - so) ma mw).2 := rfl
    rw [e, if_pos h4] at hK
    have hg : (changeU ⟨⟨ws, fu⟩, up, un, ug⟩ (fillS ⟨ws, fu⟩ (1 - so) ma mw).1 (fillS ⟨ws, fu⟩ (1 - so) ma mw).2).1.got = ug := by rw [(changeU_true h4).2]
    rw [w64_id (by simp only [len]; omega) (by simp only [len]; omega)]
    exact hK
  · rw [if_neg (by simp only [len] at h3; omega)] at hK
    have e : fillC ⟨⟨ws, fu⟩, up, un, ug⟩ ⟨so, sb, sr⟩ ⟨mk, mu, mn, ma, mi, mw, my⟩ = changeU ⟨⟨ws, fu⟩, up, un, ug⟩ (fillS ⟨ws, fu⟩ (1 - so) ma mw).1 (fillS ⟨ws, fu⟩ (1 - so) ma mw).2 := rfl
    rw [e, if_neg (by rw [h4]; simp)] at hK
    exact hK
set_option maxHeartbeats 4000000 in
theorem run_unit_piece (ws : List Int) (fu : Int) (up : Bool) (un ug : Int)(so sb sr : Int)(mk mu mn ma mi : Int) (mw : List Int) (my : Bool) (hp : 0 ≤ so ∧ so ≤ 1 ∧ 0 ≤ ma ∧ ma ≤ 40 ∧ len mw ≤ 8) (K : KK) (hK : K (.tup []) [.box [dL (pieceU ⟨⟨ws, fu⟩, up, un, ug⟩ ⟨so, sb, sr⟩ ⟨mk, mu, mn, ma, mi, mw, my⟩).f.words, dI (pieceU ⟨⟨ws, fu⟩, up, un, ug⟩ ⟨so, sb, sr⟩ ⟨mk, mu, mn, ma, mi, mw, my⟩).f.fuel, dB (pieceU ⟨⟨ws, fu⟩, up, un, ug⟩ ⟨so, sb, sr⟩ ⟨mk, mu, mn, ma, mi, mw, my⟩).up, dI (pieceU ⟨⟨ws, fu⟩, up, un, ug⟩ ⟨so, sb, sr⟩ ⟨mk, mu, mn, ma, mi, mw, my⟩).n, dI (pieceU ⟨⟨ws, fu⟩, up, un, ug⟩ ⟨so, sb, sr⟩ ⟨mk, mu, mn, ma, mi, mw, my⟩).got]]) : ∃ m, goD Γ_unit_piece tab fn_unit_piece 1 K m [.code (bodyOf fn_unit_piece)] (initSt [.one (.ptr 0 0), .agg [dI so, dI sb, dI sr], .agg [dI mk, dI mu, dI mn, dI ma, dI mi, dL mw, dB my]] [.box [dL ws, dI fu, dB up, dI un, dI ug]]) := by
  refine ⟨1, ?_⟩
  rw [unit_piece_w, unit_piece_vc _ _ _ _ _ _ _ _ _ _ _ _ _ _ _ _ _ _ rfl _ rfl _ rfl _ rfl _ rfl _ rfl _ rfl _ rfl _ rfl]
  obtain ⟨p1, p2, p3, p4, p5⟩ := hp
  have fill := unit_fill K ws fu up un ug so sb sr mk mu mn ma mi mw my ⟨p1, p2⟩ ⟨p3, p4⟩ p5
  unfold pieceU at hK
  simp only at hK
  refine lt_s (fun h => ?_) (fun h => br_split (fun h2 => ?_) (fun h2 => lt_s (fun h3 => ?_) (fun h3 => ?_)))
  · rw [if_pos (.inl h)] at hK; exact hK
  · rw [lei_true] at h2; rw [if_pos (.inr (.inl h2))] at hK; exact hK
  · rw [if_pos (.inr (.inr h3))] at hK; exact hK
  rw [lei_false] at h2
  rw [if_neg (by omega)] at hK
  have e : clearC ⟨⟨ws, fu⟩, up, un, ug⟩ ⟨so, sb, sr⟩ = changeU ⟨⟨ws, fu⟩, up, un, ug⟩ (clearS ⟨ws, fu⟩ (w64 (1 - so))).1 (clearS ⟨ws, fu⟩ (w64 (1 - so))).2 := by rw [w64_id (by omega) (by omega)]; rfl
  rw [e] at hK
  refine eq_s (fun h4 => ?_) (fun h4 => ?_)
  · have clear_ : ∀ P : Prop, (un ≠ mn ∨ ug = 0) → (∀ v1, v1 = changeU ⟨⟨ws, fu⟩, up, un, ug⟩ (clearS ⟨ws, fu⟩ (w64 (1 - so))).1 (clearS ⟨ws, fu⟩ (w64 (1 - so))).2 → (v1.2 = false → K (.tup []) [.box [dL v1.1.f.words, dI v1.1.f.fuel, dB v1.1.up, dI v1.1.n, dI v1.1.got]]) →
        (v1.2 = true → K (.tup []) [.box [dL (fillU ⟨v1.1.f, v1.1.up, mn, 0⟩ ⟨so, sb, sr⟩ ⟨mk, mu, mn, ma, mi, mw, my⟩).f.words, dI (fillU ⟨v1.1.f, v1.1.up, mn, 0⟩ ⟨so, sb, sr⟩ ⟨mk, mu, mn, ma, mi, mw, my⟩).f.fuel, dB (fillU ⟨v1.1.f, v1.1.up, mn, 0⟩ ⟨so, sb, sr⟩ ⟨mk, mu, mn, ma, mi, mw, my⟩).up, dI (fillU ⟨v1.1.f, v1.1.up, mn, 0⟩ ⟨so, sb, sr⟩ ⟨mk, mu, mn, ma, mi, mw, my⟩).n, dI (fillU ⟨v1.1.f, v1.1.up, mn, 0⟩ ⟨so, sb, sr⟩ ⟨mk, mu, mn, ma, mi, mw, my⟩).got]]) → P) → P := fun P hu hP => by
      rw [if_pos ⟨h4, hu⟩] at hK
      refine hP _ rfl (fun hv => ?_) (fun hv => ?_)
      · rw [if_neg (by rw [hv]; simp)] at hK; exact hK
      · rw [if_pos hv] at hK; exact hK
    refine ne_s (fun h5 => ?_) (fun h5 => eq_s (fun h6 => ?_) (fun h6 => ?_))
    · refine clear_ _ (.inl h5) fun v1 hv k1 k2 => ?_
      rw [← hv]
      refine nt_s (fun g => k1 g) (fun g => ?_)
      exact unit_fill K v1.1.f.words v1.1.f.fuel v1.1.up mn 0 so sb sr mk mu mn ma mi mw my ⟨p1, p2⟩ ⟨p3, p4⟩ p5 (k2 g)
    · refine clear_ _ (.inr h6) fun v1 hv k1 k2 => ?_
      rw [← hv]
      refine nt_s (fun g => k1 g) (fun g => ?_)
      exact unit_fill K v1.1.f.words v1.1.f.fuel v1.1.up mn 0 so sb sr mk mu mn ma mi mw my ⟨p1, p2⟩ ⟨p3, p4⟩ p5 (k2 g)
    · rw [if_neg (by omega)] at hK
      exact fill hK
  · rw [if_neg (by omega)] at hK
    exact fill hK
theorem sound_unit_piece : SoundC Tryz.prog tab n_unit_piece c_unit_piece := soundC_of ok_unit_piece hf_unit_piece hB_unit_piece (by
  intro vs bs p v bs' h hp
  unfold c_unit_piece at h
  split at h
  · cases h
    exact ⟨by kernel_rfl, rfl, .inl (run_unit_piece _ _ _ _ _ _ _ _ _ _ _ _ _ _ _ hp.1 _ ⟨rfl, rfl⟩)⟩
  · cases h)

def c_unit_prepare_1 : Contract := fun vs bs => match vs, bs with
  | [.one (.dat .bool y), .one (.ptr 0 0)], [.box [.dat .int mk, .dat .int mu, .dat .int mn, .dat .int ma, .dat .int mi, .dat (.list .int) mw, .dat .bool my]] => some (none, .one (.dat (.list .message) (voteM ⟨mk, mu, mn, ma, mi, mw, my⟩ y)), [.box [.dat .int mk, .dat .int mu, .dat .int mn, .dat .int ma, .dat .int mi, .dat (.list .int) mw, .dat .bool my]])
  | _, _ => none
def Γ_unit_prepare_1 : Ctx := []
theorem ok_unit_prepare_1 : Ok Tryz.prog tab Γ_unit_prepare_1 := ok_nil
theorem unit_prepare_1_vc (y : Bool) (mk : Int) (mu : Int) (mn : Int) (ma : Int) (mi : Int) (mw : List Int) (my : Bool) (rec : RK) (K : KK) : segD Γ_unit_prepare_1 tab fn_unit_prepare_1 1 K rec [.code (bodyOf fn_unit_prepare_1)] (initSt [.one (dB y), .one (.ptr 0 0)] [.box [dI mk, dI mu, dI mn, dI ma, dI mi, dL mw, dB my]]) = (
 K (.one (dM ((⟨(3 : Int), mu, mn, (0 : Int), (0 : Int), [], y⟩ : Vm.Message) :: []))) [.box [dI mk, dI mu, dI mn, dI ma, dI mi, dL mw, dB my]]) := by kernel_rfl
theorem unit_prepare_1_w (m : Nat) (K : KK) (st : St) : goD Γ_unit_prepare_1 tab fn_unit_prepare_1 1 K (m + 1) [.code (bodyOf fn_unit_prepare_1)] st = segD Γ_unit_prepare_1 tab fn_unit_prepare_1 1 K (goD Γ_unit_prepare_1 tab fn_unit_prepare_1 1 K m) [.code (bodyOf fn_unit_prepare_1)] st := rfl

set_option maxHeartbeats 4000000 in
theorem run_unit_prepare_1 (y : Bool) (mk mu mn ma mi : Int) (mw : List Int) (my : Bool) (K : KK) (hK : K (.one (dM (voteM ⟨mk, mu, mn, ma, mi, mw, my⟩ y))) [.box [dI mk, dI mu, dI mn, dI ma, dI mi, dL mw, dB my]]) : ∃ m, goD Γ_unit_prepare_1 tab fn_unit_prepare_1 1 K m [.code (bodyOf fn_unit_prepare_1)] (initSt [.one (dB y), .one (.ptr 0 0)] [.box [dI mk, dI mu, dI mn, dI ma, dI mi, dL mw, dB my]]) := by
  refine ⟨1, ?_⟩
  rw [unit_prepare_1_w, unit_prepare_1_vc _ _ _ _ _ _ _ _ _ _]
  exact hK
theorem sound_unit_prepare_1 : SoundC Tryz.prog tab n_unit_prepare_1 c_unit_prepare_1 := soundC_of ok_unit_prepare_1 hf_unit_prepare_1 hB_unit_prepare_1 (by
  intro vs bs p v bs' h hp
  unfold c_unit_prepare_1 at h
  split at h
  · cases h
    exact ⟨by kernel_rfl, rfl, .inl (run_unit_prepare_1 _ _ _ _ _ _ _ _ _ ⟨rfl, rfl⟩)⟩
  · cases h)

def c_flash_Read : Contract := fun vs bs => match vs, bs with
  | [.agg [.dat (.list .int) ws, .dat .int fu], .one (.dat .int at_), .one (.dat .int n)], [] => some (some (I64 at_ ∧ I64 n), .tup [.one (.dat (.list .int) (readF ⟨ws, fu⟩ at_ n).1), .one (.dat .int (readF ⟨ws, fu⟩ at_ n).2)], [])
  | _, _ => none
def Γ_flash_Read : Ctx := [(n_flash_Check, c_flash_Check), (n_slices_Clone_Lint, c_slices_Clone_Lint)]
theorem ok_flash_Read : Ok Tryz.prog tab Γ_flash_Read := ((ok_nil.consC hf_slices_Clone_Lint hB_slices_Clone_Lint sound_slices_Clone_Lint).consC hf_flash_Check hB_flash_Check sound_flash_Check)
theorem flash_Read_vc (ws : List Int) (fu : Int) (at_ : Int) (n : Int) (rec : RK) (K : KK) v0 (hv0 : v0 = (checkFlash ⟨ws, fu⟩)) : segD Γ_flash_Read tab fn_flash_Read 0 K rec [.code (bodyOf fn_flash_Read)] (initSt [.agg [dL ws, dI fu], .one (dI at_), .one (dI n)] []) = (
 br (!(eqi v0 (0 : Int)))
 (K (.tup [.one (dL []), .one (dI v0)]) [])
 (br (lti at_ (0 : Int))
 (K (.tup [.one (dL []), .one (dI (5 : Int))]) [])
 (br (lti n (0 : Int))
 (K (.tup [.one (dL []), .one (dI (5 : Int))]) [])
 (br (lti (((len ws) : Nat) : Int) at_)
 (K (.tup [.one (dL []), .one (dI (5 : Int))]) [])
 (br (lti (w64 ((((len ws) : Nat) : Int) - at_)) n)
 (K (.tup [.one (dL []), .one (dI (5 : Int))]) [])
 ((((0 : Int) ≤ at_) ∧ ((at_ ≤ (w64 (at_ + n))) ∧ ((w64 (at_ + n)) ≤ (((len ws) : Nat) : Int)))) ∧
 ((((len (slc ws (Int.toNat at_) (Int.toNat (w64 (at_ + n))))) * 8) ≤ 140737488355328) ∧
 (K (.tup [.one (dL (slc ws (Int.toNat at_) (Int.toNat (w64 (at_ + n))))), .one (dI (0 : Int))]) [])))))))) := by subst_vars; kernel_rfl
theorem flash_Read_w (m : Nat) (K : KK) (st : St) : goD Γ_flash_Read tab fn_flash_Read 0 K (m + 1) [.code (bodyOf fn_flash_Read)] st = segD Γ_flash_Read tab fn_flash_Read 0 K (goD Γ_flash_Read tab fn_flash_Read 0 K m) [.code (bodyOf fn_flash_Read)] st := rfl

set_option maxHeartbeats 4000000 in
theorem run_flash_Read (ws : List Int) (fu at_ n : Int) (hp : I64 at_ ∧ I64 n) (K : KK) (hK : K (.tup [.one (dL (readF ⟨ws, fu⟩ at_ n).1), .one (dI (readF ⟨ws, fu⟩ at_ n).2)]) []) : ∃ m, goD Γ_flash_Read tab fn_flash_Read 0 K m [.code (bodyOf fn_flash_Read)] (initSt [.agg [dL ws, dI fu], .one (dI at_), .one (dI n)] []) := by
  obtain ⟨⟨ha, hb⟩, hc, hd⟩ := hp
  refine ⟨1, ?_⟩
  rw [flash_Read_w, flash_Read_vc _ _ _ _ _ _ _ rfl]
  unfold readF at hK
  refine ne_s (fun h => ?_) (fun h => ?_)
  · rw [if_neg h] at hK; exact hK
  rw [if_pos h] at hK
  obtain ⟨c1, c2, c3, c4⟩ := checkFlash_ok h
  obtain ⟨c5, c6⟩ := okLen_le c1
  simp only at c2 c3 c5 c6
  have five : ¬ (0 ≤ at_ ∧ 0 ≤ n ∧ at_ + n ≤ (ws.length : Int)) → K (.tup [.one (dL []), .one (dI 5)]) [] := fun hn => by
    rw [if_neg hn] at hK; exact hK
  simp only [len]
  refine lt_s (fun h1 => five (by omega)) (fun h1 => lt_s (fun h2 => five (by omega)) (fun h2 => lt_s (fun h3 => five (by omega)) (fun h3 => ?_)))
  rw [w64_id (by omega) (by omega)]
  refine lt_s (fun h4 => five (by omega)) (fun h4 => ?_)
  rw [if_pos (by simp only; omega)] at hK
  rw [w64_id (by omega) (by omega)]
  refine ⟨⟨h1, by omega, by omega⟩, ?_, hK⟩
  have : (slc ws at_.toNat (at_ + n).toNat).length ≤ 192 := by simp [slc]; omega
  omega
theorem sound_flash_Read : SoundC Tryz.prog tab n_flash_Read c_flash_Read := soundC_of ok_flash_Read hf_flash_Read hB_flash_Read (by
  intro vs bs p v bs' h hp
  unfold c_flash_Read at h
  split at h
  · cases h
    exact ⟨by kernel_rfl, rfl, .inl (run_flash_Read _ _ _ _ hp.1 _ ⟨rfl, rfl⟩)⟩
  · cases h)

def c_slot_Body : Contract := fun vs bs => match vs, bs with
  | [.agg [.dat (.list .int) ws, .dat .int fu], .one (.dat .int slot), .one (.dat .int n)], [] => some (none, .tup [.one (.dat (.list .int) (bodyS ⟨ws, fu⟩ slot n).1), .one (.dat .int (bodyS ⟨ws, fu⟩ slot n).2)], [])
  | _, _ => none
def Γ_slot_Body : Ctx := [(n_slot_check, c_slot_check), (n_slot_begin, c_slot_begin), (n_flash_Read, c_flash_Read)]
theorem ok_slot_Body : Ok Tryz.prog tab Γ_slot_Body := (((ok_nil.consC hf_flash_Read hB_flash_Read sound_flash_Read).consC hf_slot_begin hB_slot_begin sound_slot_begin).consC hf_slot_check hB_slot_check sound_slot_check)
theorem slot_Body_vc (ws : List Int) (fu : Int) (slot : Int) (n : Int) (rec : RK) (K : KK) v0 (hv0 : v0 = (checkSlot (⟨ws, fu⟩ : Flash) slot)) v1 (hv1 : v1 = (readF (⟨ws, fu⟩ : Flash) (w64 (((64 : Int) + ((64 : Int) * slot)) + (4 : Int))) n)) : segD Γ_slot_Body tab fn_slot_Body 0 K rec [.code (bodyOf fn_slot_Body)] (initSt [.agg [dL ws, dI fu], .one (dI slot), .one (dI n)] []) = (
 br (!(eqi v0 (0 : Int)))
 (K (.tup [.one (dL []), .one (dI v0)]) [])
 (br (lti n (0 : Int))
 (K (.tup [.one (dL []), .one (dI (2 : Int))]) [])
 (br (lti (40 : Int) n)
 (K (.tup [.one (dL []), .one (dI (2 : Int))]) [])
 ((((0 : Int) ≤ slot) ∧ (slot ≤ (1 : Int))) ∧
 (((((-(9223372036854775808 : Int)) ≤ (w64 (((64 : Int) + ((64 : Int) * slot)) + (4 : Int)))) ∧ ((w64 (((64 : Int) + ((64 : Int) * slot)) + (4 : Int))) ≤ (9223372036854775807 : Int))) ∧ (((-(9223372036854775808 : Int)) ≤ n) ∧ (n ≤ (9223372036854775807 : Int)))) ∧
 (K (.tup [.one (dL v1.fst), .one (dI v1.snd)]) [])))))) := by subst_vars; kernel_rfl
theorem slot_Body_w (m : Nat) (K : KK) (st : St) : goD Γ_slot_Body tab fn_slot_Body 0 K (m + 1) [.code (bodyOf fn_slot_Body)] st = segD Γ_slot_Body tab fn_slot_Body 0 K (goD Γ_slot_Body tab fn_slot_Body 0 K m) [.code (bodyOf fn_slot_Body)] st := rfl

set_option maxHeartbeats 4000000 in
theorem run_slot_Body (ws : List Int) (fu slot n : Int) (K : KK) (hK : K (.tup [.one (dL (bodyS ⟨ws, fu⟩ slot n).1), .one (dI (bodyS ⟨ws, fu⟩ slot n).2)]) []) : ∃ m, goD Γ_slot_Body tab fn_slot_Body 0 K m [.code (bodyOf fn_slot_Body)] (initSt [.agg [dL ws, dI fu], .one (dI slot), .one (dI n)] []) := by
  refine ⟨1, ?_⟩
  rw [slot_Body_w, slot_Body_vc _ _ _ _ _ _ _ rfl _ rfl]
  unfold bodyS at hK
  refine ne_s (fun h => ?_) (fun h => ?_)
  · rw [if_neg h] at hK; exact hK
  rw [if_pos h] at hK
  obtain ⟨h1, h2, h3⟩ := checkSlot_ok h
  simp only at h2
  refine lt_s (fun h4 => ?_) (fun h4 => lt_s (fun h5 => ?_) (fun h5 => ?_))
  · rw [if_neg (by omega)] at hK; exact hK
  · rw [if_neg (by omega)] at hK; exact hK
  rw [if_pos (by omega)] at hK
  rw [w64_id (n := 64 + 64 * slot + 4) (by omega) (by omega), show 64 + 64 * slot + 4 = 68 + 64 * slot by omega]
  refine ⟨by omega, by omega, ?_⟩
  unfold readF
  rw [if_pos h1, if_pos (by simp only; omega)]
  exact hK
theorem sound_slot_Body : SoundC Tryz.prog tab n_slot_Body c_slot_Body := soundC_of ok_slot_Body hf_slot_Body hB_slot_Body (by
  intro vs bs p v bs' h hp
  unfold c_slot_Body at h
  split at h
  · cases h
    exact ⟨by kernel_rfl, rfl, .inl (run_slot_Body _ _ _ _ _ ⟨rfl, rfl⟩)⟩
  · cases h)

def c_meta_CheckImage : Contract := fun vs bs => match vs, bs with
  | [.one (.dat (.list .int) l)], [] => some (none, .one (.dat .int (checkImage l)), [])
  | _, _ => none
def Γ_meta_CheckImage : Ctx := []
theorem ok_meta_CheckImage : Ok Tryz.prog tab Γ_meta_CheckImage := ok_nil
noncomputable def meta_CheckImage_L0 : List It := [.inLoop [15, 14, 13, 2] (Code.sub (bodyOf fn_meta_CheckImage) [1, 1, 0, 1, 0, 0]), .inBlock 0, .code (Code.sub (bodyOf fn_meta_CheckImage) [1, 1, 1])]
def meta_CheckImage_S0 (x0 : Int) (x1 : Int) (x2 : (List Int)) (x3 : Int) : St := ⟨[(15, .one (dI x0)), (14, .one (dI x1)), (13, .one (dL x2)), (2, .one (dI x3))], [], 0⟩
theorem meta_CheckImage_vc (l : List Int) (rec : RK) (K : KK) : segD Γ_meta_CheckImage tab fn_meta_CheckImage 0 K rec [.code (bodyOf fn_meta_CheckImage)] (initSt [.one (dL l)] []) = (
 br (eqi (((len l) : Nat) : Int) (0 : Int))
 (K (.one (dI (2 : Int))) [])
 (br (lti (40 : Int) (((len l) : Nat) : Int))
 (K (.one (dI (2 : Int))) [])
 (rec meta_CheckImage_L0 (meta_CheckImage_S0 (0 : Int) (((len l) : Nat) : Int) l (0 : Int))))) := by kernel_rfl
theorem meta_CheckImage_w (m : Nat) (K : KK) (st : St) : goD Γ_meta_CheckImage tab fn_meta_CheckImage 0 K (m + 1) [.code (bodyOf fn_meta_CheckImage)] st = segD Γ_meta_CheckImage tab fn_meta_CheckImage 0 K (goD Γ_meta_CheckImage tab fn_meta_CheckImage 0 K m) [.code (bodyOf fn_meta_CheckImage)] st := rfl
theorem meta_CheckImage_vc0 (x0 : Int) (x1 : Int) (x2 : (List Int)) (x3 : Int) (rec : RK) (K : KK) : segD Γ_meta_CheckImage tab fn_meta_CheckImage 0 K rec (.code (Code.sub (bodyOf fn_meta_CheckImage) [1, 1, 0, 1, 0, 0]) :: meta_CheckImage_L0) (meta_CheckImage_S0 x0 x1 x2 x3) = (
 br (lti x0 x1)
 ((((0 : Int) ≤ x0) ∧ (x0 < (((len x2) : Nat) : Int))) ∧
 (br (lti (nth x2 (Int.toNat x0) (Ty.dflt Ty.int)) (0 : Int))
 (K (.one (dI (3 : Int))) [])
 (br (lti (65535 : Int) (nth x2 (Int.toNat x0) (Ty.dflt Ty.int)))
 (K (.one (dI (3 : Int))) [])
 (rec meta_CheckImage_L0 (meta_CheckImage_S0 (w64 (x0 + (1 : Int))) x1 x2 x3)))))
 (K (.one (dI (0 : Int))) [])) := by kernel_rfl
theorem meta_CheckImage_w0 (m : Nat) (K : KK) (st : St) : goD Γ_meta_CheckImage tab fn_meta_CheckImage 0 K (m + 1) meta_CheckImage_L0 st = segD Γ_meta_CheckImage tab fn_meta_CheckImage 0 K (goD Γ_meta_CheckImage tab fn_meta_CheckImage 0 K m) (.code (Code.sub (bodyOf fn_meta_CheckImage) [1, 1, 0, 1, 0, 0]) :: meta_CheckImage_L0) st := rfl

theorem loop_meta_CheckImage (ws : List Int) (hl : ws.length ≤ 40) (K : KK) (hK : K (.one (dI (if okWords ws then 0 else 3))) []) : ∀ (d k : Nat), k + d = ws.length → okWords (ws.take k) = true →
    goD Γ_meta_CheckImage tab fn_meta_CheckImage 0 K (d + 1) meta_CheckImage_L0 (meta_CheckImage_S0 (k : Int) (((len ws) : Nat) : Int) ws (0 : Int))
  | 0, k, hk, he => by
    rw [meta_CheckImage_w0, meta_CheckImage_vc0 _ _ _ _ _ _]
    refine lt_f (by simp only [len]; omega) ?_
    rw [List.take_of_length_le (by omega)] at he
    rw [if_pos he] at hK
    exact hK
  | d + 1, k, hk, he => by
    rw [meta_CheckImage_w0, meta_CheckImage_vc0 _ _ _ _ _ _]
    have bad : okWord (nth ws k (Ty.dflt Ty.int)) = false → K (.one (dI 3)) [] := fun h => by
      rw [show okWords ws = false from all_false (k := k) (by omega) _ h] at hK; exact hK
    refine lt_t (by simp only [len]; omega) ⟨⟨by omega, by simp only [len]; omega⟩, lt_s (fun h => ?_) (fun h => lt_s (fun h2 => ?_) (fun h2 => ?_))⟩
    · rw [toNat_nat] at h
      exact bad (by simp only [okWord, Bool.and_eq_false_iff, decide_eq_false_iff_not]; exact .inl (by omega))
    · rw [toNat_nat] at h2
      exact bad (by simp only [okWord, Bool.and_eq_false_iff, decide_eq_false_iff_not]; exact .inr (by omega))
    · rw [w64_succ (by omega)]
      rw [toNat_nat] at h h2
      exact loop_meta_CheckImage ws hl K hK d (k + 1) (by omega) (all_take_step (by omega) (Ty.dflt Ty.int) he (by simp [okWord, h, h2]))
set_option maxHeartbeats 4000000 in
theorem run_meta_CheckImage (l : List Int) (K : KK) (hK : K (.one (dI (checkImage l))) []) : ∃ m, goD Γ_meta_CheckImage tab fn_meta_CheckImage 0 K m [.code (bodyOf fn_meta_CheckImage)] (initSt [.one (dL l)] []) := by
  refine ⟨l.length + 2, ?_⟩
  rw [meta_CheckImage_w, meta_CheckImage_vc _ _ _]
  unfold checkImage at hK
  refine eq_s (fun h => ?_) (fun h => lt_s (fun h2 => ?_) (fun h2 => ?_))
  · rw [if_pos (by simp only [len] at h; omega)] at hK; exact hK
  · rw [if_pos (by simp only [len] at h2; omega)] at hK; exact hK
  · rw [if_neg (by simp only [len] at h h2; omega)] at hK
    exact loop_meta_CheckImage l (by simp only [len] at h2; omega) K hK l.length 0 (by omega) rfl
theorem sound_meta_CheckImage : SoundC Tryz.prog tab n_meta_CheckImage c_meta_CheckImage := soundC_of ok_meta_CheckImage hf_meta_CheckImage hB_meta_CheckImage (by
  intro vs bs p v bs' h hp
  unfold c_meta_CheckImage at h
  split at h
  · cases h
    exact ⟨by kernel_rfl, rfl, .inl (run_meta_CheckImage _ _ ⟨rfl, rfl⟩)⟩
  · cases h)

def c_meta_list : Contract := fun vs bs => match vs, bs with
  | [.one (.dat (.list .int) l)], [] => some (some (len l ≤ 1000 ∧ nums l = true), .one (.dat .str (listT l)), [])
  | _, _ => none
def Γ_meta_list : Ctx := [(n_strconv_Itoa, c_strconv_Itoa), (n_strings_Join, c_strings_Join)]
theorem ok_meta_list : Ok Tryz.prog tab Γ_meta_list := ((ok_nil.consC hf_strings_Join hB_strings_Join sound_strings_Join).consC hf_strconv_Itoa hB_strconv_Itoa sound_strconv_Itoa)
noncomputable def meta_list_L0 : List It := [.inLoop [8, 7, 6, 3, 2] (Code.sub (bodyOf fn_meta_list) [1, 1, 0, 1, 0, 0]), .inBlock 0, .code (Code.sub (bodyOf fn_meta_list) [1, 1, 1])]
def meta_list_S0 (x0 : Int) (x1 : Int) (x2 : (List Int)) (x3 : (List UInt8)) (x4 : (List (List UInt8))) : St := ⟨[(8, .one (dI x0)), (7, .one (dI x1)), (6, .one (dL x2)), (3, .one (.own 0)), (2, .one (.dat Ty.str x3))], [(0, .arr Ty.str x4)], 1⟩
theorem meta_list_vc (l : List Int) (rec : RK) (K : KK) : segD Γ_meta_list tab fn_meta_list 0 K rec [.code (bodyOf fn_meta_list)] (initSt [.one (dL l)] []) = (
 rec meta_list_L0 (meta_list_S0 (0 : Int) (((len l) : Nat) : Int) l [] [])) := by kernel_rfl
theorem meta_list_w (m : Nat) (K : KK) (st : St) : goD Γ_meta_list tab fn_meta_list 0 K (m + 1) [.code (bodyOf fn_meta_list)] st = segD Γ_meta_list tab fn_meta_list 0 K (goD Γ_meta_list tab fn_meta_list 0 K m) [.code (bodyOf fn_meta_list)] st := rfl
theorem meta_list_vc0 (x0 : Int) (x1 : Int) (x2 : (List Int)) (x3 : (List UInt8)) (x4 : (List (List UInt8))) (rec : RK) (K : KK) v0 (hv0 : v0 = (numT (nth x2 (Int.toNat x0) (Ty.dflt Ty.int)))) v1 (hv1 : v1 = (joinT ((32 : UInt8) :: []) x4)) : segD Γ_meta_list tab fn_meta_list 0 K rec (.code (Code.sub (bodyOf fn_meta_list) [1, 1, 0, 1, 0, 0]) :: meta_list_L0) (meta_list_S0 x0 x1 x2 x3 x4) = (
 br (lti x0 x1)
 ((((0 : Int) ≤ x0) ∧ (x0 < (((len x2) : Nat) : Int))) ∧
 ((((0 : Int) ≤ (nth x2 (Int.toNat x0) (Ty.dflt Ty.int))) ∧ ((nth x2 (Int.toNat x0) (Ty.dflt Ty.int)) ≤ (9223372036854775807 : Int))) ∧
 (((((len x4) + (len (v0 :: []))) * 16) ≤ 140737488355328) ∧
 (rec meta_list_L0 (meta_list_S0 (w64 (x0 + (1 : Int))) x1 x2 x3 (cat x4 (v0 :: [])))))))
 ((((List.length x4) ≤ 140737488355328) ∧ ((List.length v1) ≤ 140737488355328)) ∧
 (K (.one (.dat Ty.str v1)) []))) := by subst_vars; kernel_rfl
theorem meta_list_w0 (m : Nat) (K : KK) (st : St) : goD Γ_meta_list tab fn_meta_list 0 K (m + 1) meta_list_L0 st = segD Γ_meta_list tab fn_meta_list 0 K (goD Γ_meta_list tab fn_meta_list 0 K m) (.code (Code.sub (bodyOf fn_meta_list) [1, 1, 0, 1, 0, 0]) :: meta_list_L0) st := rfl

theorem loop_meta_list (l : List Int) (hl : l.length ≤ 1000) (hn : nums l = true) (K : KK) (hK : K (.one (.dat .str (listT l))) []) (y : List UInt8) : ∀ (d k : Nat), k + d = l.length →
    goD Γ_meta_list tab fn_meta_list 0 K (d + 1) meta_list_L0 (meta_list_S0 (k : Int) (((len l) : Nat) : Int) l y ((l.take k).map numT))
  | 0, k, hk => by
    rw [meta_list_w0, meta_list_vc0 _ _ _ _ _ _ _ _ rfl _ rfl, List.take_of_length_le (by omega)]
    have h1 := listT_len l
    unfold listT at h1
    exact lt_f (by simp only [len]; omega) ⟨⟨by rw [List.length_map]; omega, by omega⟩, hK⟩
  | d + 1, k, hk => by
    rw [meta_list_w0, meta_list_vc0 _ _ _ _ _ _ _ _ rfl _ rfl, toNat_nat]
    have hm : nth l k (Ty.dflt Ty.int) ∈ l := by
      have : k < l.length := by omega
      simp [nth, List.getD_eq_getElem?_getD, this]
    have h1 := List.all_eq_true.1 hn _ hm
    simp only [Bool.and_eq_true, decide_eq_true_eq] at h1
    refine lt_t (by simp only [len]; omega) ⟨⟨by omega, by simp only [len]; omega⟩, h1, by simp only [len, List.length_map, List.length_take, List.length_cons, List.length_nil]; omega, ?_⟩
    rw [w64_succ (by omega), show cat ((l.take k).map numT) [numT (nth l k (Ty.dflt Ty.int))] = (l.take (k + 1)).map numT from by rw [take_step (by omega) (Ty.dflt Ty.int)]; simp [cat]]
    exact loop_meta_list l hl hn K hK y d (k + 1) (by omega)
set_option maxHeartbeats 4000000 in
theorem run_meta_list (l : List Int) (hp : len l ≤ 1000 ∧ nums l = true) (K : KK) (hK : K (.one (.dat .str (listT l))) []) : ∃ m, goD Γ_meta_list tab fn_meta_list 0 K m [.code (bodyOf fn_meta_list)] (initSt [.one (dL l)] []) := by
  refine ⟨l.length + 2, ?_⟩
  rw [meta_list_w, meta_list_vc _ _ _]
  exact loop_meta_list l hp.1 hp.2 K hK [] l.length 0 (by omega)
theorem sound_meta_list : SoundC Tryz.prog tab n_meta_list c_meta_list := soundC_of ok_meta_list hf_meta_list hB_meta_list (by
  intro vs bs p v bs' h hp
  unfold c_meta_list at h
  split at h
  · cases h
    exact ⟨by kernel_rfl, rfl, .inl (run_meta_list _ hp.1 _ ⟨rfl, rfl⟩)⟩
  · cases h)

def c_meta_ImageText : Contract := fun vs bs => match vs, bs with
  | [.one (.dat (.list .int) l)], [] => some (none, .tup [.one (.dat .str (imageTextE l).1), .one (.dat .int (imageTextE l).2)], [])
  | _, _ => none
def Γ_meta_ImageText : Ctx := [(n_meta_CheckImage, c_meta_CheckImage), (n_meta_list, c_meta_list)]
theorem ok_meta_ImageText : Ok Tryz.prog tab Γ_meta_ImageText := ((ok_nil.consC hf_meta_list hB_meta_list sound_meta_list).consC hf_meta_CheckImage hB_meta_CheckImage sound_meta_CheckImage)
theorem meta_ImageText_vc (l : List Int) (rec : RK) (K : KK) v0 (hv0 : v0 = (checkImage l)) v1 (hv1 : v1 = (nums l)) v2 (hv2 : v2 = (listT l)) : segD Γ_meta_ImageText tab fn_meta_ImageText 0 K rec [.code (bodyOf fn_meta_ImageText)] (initSt [.one (dL l)] []) = (
 br (!(eqi v0 (0 : Int)))
 (K (.tup [.one (.dat Ty.str []), .one (dI v0)]) [])
 ((((len l) ≤ 1000) ∧ (v1 = true)) ∧
 ((((len ((105 : UInt8) :: ((109 : UInt8) :: ((97 : UInt8) :: ((103 : UInt8) :: ((101 : UInt8) :: ((32 : UInt8) :: []))))))) + (len v2)) ≤ 140737488355328) ∧
 (K (.tup [.one (.dat Ty.str (cat ((105 : UInt8) :: ((109 : UInt8) :: ((97 : UInt8) :: ((103 : UInt8) :: ((101 : UInt8) :: ((32 : UInt8) :: [])))))) v2)), .one (dI (0 : Int))]) [])))) := by subst_vars; kernel_rfl
theorem meta_ImageText_w (m : Nat) (K : KK) (st : St) : goD Γ_meta_ImageText tab fn_meta_ImageText 0 K (m + 1) [.code (bodyOf fn_meta_ImageText)] st = segD Γ_meta_ImageText tab fn_meta_ImageText 0 K (goD Γ_meta_ImageText tab fn_meta_ImageText 0 K m) [.code (bodyOf fn_meta_ImageText)] st := rfl

set_option maxHeartbeats 4000000 in
theorem run_meta_ImageText (l : List Int) (K : KK) (hK : K (.tup [.one (.dat .str (imageTextE l).1), .one (dI (imageTextE l).2)]) []) : ∃ m, goD Γ_meta_ImageText tab fn_meta_ImageText 0 K m [.code (bodyOf fn_meta_ImageText)] (initSt [.one (dL l)] []) := by
  refine ⟨1, ?_⟩
  rw [meta_ImageText_w, meta_ImageText_vc _ _ _ _ rfl _ rfl _ rfl]
  unfold imageTextE at hK
  refine ne_s (fun h => ?_) (fun h => ?_)
  · rw [if_neg h] at hK; exact hK
  rw [if_pos h] at hK
  obtain ⟨h1, h2, h3⟩ := checkImage_ok h
  have n3 := listT_len l
  exact ⟨⟨by simp only [len]; omega, nums_of_words h3⟩, by simp only [len, List.length_cons, List.length_nil]; omega, hK⟩
theorem sound_meta_ImageText : SoundC Tryz.prog tab n_meta_ImageText c_meta_ImageText := soundC_of ok_meta_ImageText hf_meta_ImageText hB_meta_ImageText (by
  intro vs bs p v bs' h hp
  unfold c_meta_ImageText at h
  split at h
  · cases h
    exact ⟨by kernel_rfl, rfl, .inl (run_meta_ImageText _ _ ⟨rfl, rfl⟩)⟩
  · cases h)

def c_meta_Name : Contract := fun vs bs => match vs, bs with
  | [.agg [.dat (.list .str) l], .one (.dat .str s)], [] => some (some (l.length ≤ 140737488355328), .tup [.one (.dat .int (nameB l s).1), .one (.dat .int (nameB l s).2)], [])
  | _, _ => none
def Γ_meta_Name : Ctx := [(n_meta_CheckBook, c_meta_CheckBook), (n_slices_Index_Lstring, c_slices_Index_Lstring)]
theorem ok_meta_Name : Ok Tryz.prog tab Γ_meta_Name := ((ok_nil.consC hf_slices_Index_Lstring hB_slices_Index_Lstring sound_slices_Index_Lstring).consC hf_meta_CheckBook hB_meta_CheckBook sound_meta_CheckBook)
theorem meta_Name_vc (l : List (List UInt8)) (s : List UInt8) (rec : RK) (K : KK) v0 (hv0 : v0 = (checkBook l)) v1 (hv1 : v1 = (indexS s l)) : segD Γ_meta_Name tab fn_meta_Name 0 K rec [.code (bodyOf fn_meta_Name)] (initSt [.agg [.dat (Ty.list Ty.str) l], .one (.dat Ty.str s)] []) = (
 br (!(eqi v0 (0 : Int)))
 (K (.tup [.one (dI (0 : Int)), .one (dI v0)]) [])
 (((List.length l) ≤ 140737488355328) ∧
 (K (.tup [.one (dI (w64 (v1 + (1 : Int)))), .one (dI (0 : Int))]) []))) := by subst_vars; kernel_rfl
theorem meta_Name_w (m : Nat) (K : KK) (st : St) : goD Γ_meta_Name tab fn_meta_Name 0 K (m + 1) [.code (bodyOf fn_meta_Name)] st = segD Γ_meta_Name tab fn_meta_Name 0 K (goD Γ_meta_Name tab fn_meta_Name 0 K m) [.code (bodyOf fn_meta_Name)] st := rfl

set_option maxHeartbeats 4000000 in
theorem run_meta_Name (l : List (List UInt8)) (s : List UInt8) (hp : l.length ≤ 140737488355328) (K : KK) (hK : K (.tup [.one (dI (nameB l s).1), .one (dI (nameB l s).2)]) []) : ∃ m, goD Γ_meta_Name tab fn_meta_Name 0 K m [.code (bodyOf fn_meta_Name)] (initSt [.agg [.dat (.list .str) l], .one (.dat .str s)] []) := by
  refine ⟨1, ?_⟩
  rw [meta_Name_w, meta_Name_vc _ _ _ _ _ rfl _ rfl]
  unfold nameB at hK
  refine ne_s (fun h => ?_) (fun h => ⟨hp, ?_⟩)
  · rw [if_neg h] at hK; exact hK
  · rw [if_pos h] at hK
    have := indexFrom_range s l 0 (by omega)
    rw [w64_id (by unfold indexS; omega) (by unfold indexS; omega)]
    exact hK
theorem sound_meta_Name : SoundC Tryz.prog tab n_meta_Name c_meta_Name := soundC_of ok_meta_Name hf_meta_Name hB_meta_Name (by
  intro vs bs p v bs' h hp
  unfold c_meta_Name at h
  split at h
  · cases h
    exact ⟨by kernel_rfl, rfl, .inl (run_meta_Name _ _ hp.1 _ ⟨rfl, rfl⟩)⟩
  · cases h)

def c_meta_ImageName : Contract := fun vs bs => match vs, bs with
  | [.agg [.dat (.list .str) l], .one (.dat (.list .int) ws)], [] => some (some (l.length ≤ 140737488355328), .tup [.one (.dat .int (imageName l ws).1), .one (.dat .int (imageName l ws).2)], [])
  | _, _ => none
def Γ_meta_ImageName : Ctx := [(n_meta_ImageText, c_meta_ImageText), (n_meta_Name, c_meta_Name)]
theorem ok_meta_ImageName : Ok Tryz.prog tab Γ_meta_ImageName := ((ok_nil.consC hf_meta_Name hB_meta_Name sound_meta_Name).consC hf_meta_ImageText hB_meta_ImageText sound_meta_ImageText)
theorem meta_ImageName_vc (l : List (List UInt8)) (ws : List Int) (rec : RK) (K : KK) v0 (hv0 : v0 = (imageTextE ws)) v1 (hv1 : v1 = (nameB l v0.fst)) : segD Γ_meta_ImageName tab fn_meta_ImageName 0 K rec [.code (bodyOf fn_meta_ImageName)] (initSt [.agg [.dat (Ty.list Ty.str) l], .one (dL ws)] []) = (
 br (!(eqi v0.snd (0 : Int)))
 (K (.tup [.one (dI (0 : Int)), .one (dI v0.snd)]) [])
 (((List.length l) ≤ 140737488355328) ∧
 (K (.tup [.one (dI v1.fst), .one (dI v1.snd)]) []))) := by subst_vars; kernel_rfl
theorem meta_ImageName_w (m : Nat) (K : KK) (st : St) : goD Γ_meta_ImageName tab fn_meta_ImageName 0 K (m + 1) [.code (bodyOf fn_meta_ImageName)] st = segD Γ_meta_ImageName tab fn_meta_ImageName 0 K (goD Γ_meta_ImageName tab fn_meta_ImageName 0 K m) [.code (bodyOf fn_meta_ImageName)] st := rfl

set_option maxHeartbeats 4000000 in
theorem run_meta_ImageName (l : List (List UInt8)) (ws : List Int) (hp : l.length ≤ 140737488355328) (K : KK) (hK : K (.tup [.one (dI (imageName l ws).1), .one (dI (imageName l ws).2)]) []) : ∃ m, goD Γ_meta_ImageName tab fn_meta_ImageName 0 K m [.code (bodyOf fn_meta_ImageName)] (initSt [.agg [.dat (.list .str) l], .one (dL ws)] []) := by
  refine ⟨1, ?_⟩
  rw [meta_ImageName_w, meta_ImageName_vc _ _ _ _ _ rfl _ rfl]
  unfold imageName at hK
  by_cases h : checkImage ws = 0
  · rw [if_pos h] at hK
    rw [show imageTextE ws = (imageText ws, 0) from if_pos h]
    exact ne_f rfl ⟨hp, hK⟩
  · rw [if_neg h] at hK
    rw [show imageTextE ws = ([], checkImage ws) from if_neg h]
    exact ne_t h hK
theorem sound_meta_ImageName : SoundC Tryz.prog tab n_meta_ImageName c_meta_ImageName := soundC_of ok_meta_ImageName hf_meta_ImageName hB_meta_ImageName (by
  intro vs bs p v bs' h hp
  unfold c_meta_ImageName at h
  split at h
  · cases h
    exact ⟨by kernel_rfl, rfl, .inl (run_meta_ImageName _ _ hp.1 _ ⟨rfl, rfl⟩)⟩
  · cases h)

def c_slot_Seal : Contract := fun vs bs => match vs, bs with
  | [.agg [.dat (.list .int) ws, .dat .int fu], .one (.dat .int slot), .one (.dat .int long), .one (.dat .int name)], [] => some (none, .tup [.agg [.dat (.list .int) (sealS ⟨ws, fu⟩ slot long name).1.words, .dat .int (sealS ⟨ws, fu⟩ slot long name).1.fuel], .one (.dat .int (sealS ⟨ws, fu⟩ slot long name).2)], [])
  | _, _ => none
def Γ_slot_Seal : Ctx := [(n_slot_check, c_slot_check), (n_slot_begin, c_slot_begin), (n_flash_Program, c_flash_Program)]
theorem ok_slot_Seal : Ok Tryz.prog tab Γ_slot_Seal := (((ok_nil.consC hf_flash_Program hB_flash_Program sound_flash_Program).consC hf_slot_begin hB_slot_begin sound_slot_begin).consC hf_slot_check hB_slot_check sound_slot_check)
theorem slot_Seal_vc (ws : List Int) (fu : Int) (slot : Int) (long : Int) (name : Int) (rec : RK) (K : KK) v0 (hv0 : v0 = (checkSlot (⟨ws, fu⟩ : Flash) slot)) v1 (hv1 : v1 = (programF (⟨ws, fu⟩ : Flash) ((64 : Int) + ((64 : Int) * slot)) (long :: (name :: ((xori (65535 : Int) long) :: ((xori (65535 : Int) name) :: [])))))) v2 (hv2 : v2 = (K (.tup [.agg [dL [], dI (0 : Int)], .one (dI (3 : Int))]) [])) : segD Γ_slot_Seal tab fn_slot_Seal 0 K rec [.code (bodyOf fn_slot_Seal)] (initSt [.agg [dL ws, dI fu], .one (dI slot), .one (dI long), .one (dI name)] []) = (
 br (!(eqi v0 (0 : Int)))
 (K (.tup [.agg [dL [], dI (0 : Int)], .one (dI v0)]) [])
 (br (lti long (1 : Int))
 v2
 (br (lti (40 : Int) long)
 v2
 (br (lti name (1 : Int))
 v2
 (br (lti (60 : Int) name)
 v2
 ((((0 : Int) ≤ slot) ∧ (slot ≤ (1 : Int))) ∧
 (((List.length (long :: (name :: ((xori (65535 : Int) long) :: ((xori (65535 : Int) name) :: []))))) ≤ 140737488355328) ∧
 (K (.tup [.agg [dL v1.fst.words, dI v1.fst.fuel], .one (dI v1.snd)]) [])))))))) := by subst_vars; kernel_rfl
theorem slot_Seal_w (m : Nat) (K : KK) (st : St) : goD Γ_slot_Seal tab fn_slot_Seal 0 K (m + 1) [.code (bodyOf fn_slot_Seal)] st = segD Γ_slot_Seal tab fn_slot_Seal 0 K (goD Γ_slot_Seal tab fn_slot_Seal 0 K m) [.code (bodyOf fn_slot_Seal)] st := rfl

set_option maxHeartbeats 4000000 in
theorem run_slot_Seal (ws : List Int) (fu slot long name : Int) (K : KK) (hK : K (.tup [.agg [dL (sealS ⟨ws, fu⟩ slot long name).1.words, dI (sealS ⟨ws, fu⟩ slot long name).1.fuel], .one (dI (sealS ⟨ws, fu⟩ slot long name).2)]) []) : ∃ m, goD Γ_slot_Seal tab fn_slot_Seal 0 K m [.code (bodyOf fn_slot_Seal)] (initSt [.agg [dL ws, dI fu], .one (dI slot), .one (dI long), .one (dI name)] []) := by
  refine ⟨1, ?_⟩
  rw [slot_Seal_w, slot_Seal_vc _ _ _ _ _ _ _ _ rfl _ rfl _ rfl]
  unfold sealS at hK
  refine ne_s (fun h => ?_) (fun h => ?_)
  · rw [if_neg h] at hK; exact hK
  rw [if_pos h] at hK
  obtain ⟨h1, h2, h3⟩ := checkSlot_ok h
  have three : ¬ (1 ≤ long ∧ long ≤ 40 ∧ 1 ≤ name ∧ name ≤ 60) → K (.tup [.agg [dL [], dI 0], .one (dI 3)]) [] := fun hn => by
    rw [if_neg (by simp only [okHead, Bool.and_eq_true, decide_eq_true_eq]; omega)] at hK; exact hK
  refine lt_s (fun h4 => three (by omega)) (fun h4 => lt_s (fun h5 => three (by omega)) (fun h5 => lt_s (fun h6 => three (by omega)) (fun h6 => lt_s (fun h7 => three (by omega)) (fun h7 => ?_))))
  rw [if_pos (by simp only [okHead, Bool.and_eq_true, decide_eq_true_eq]; omega)] at hK
  rw [xori_int (by omega) (by omega), xori_int (by omega) (by omega)]
  exact ⟨by omega, by simp only [List.length_cons, List.length_nil]; omega, hK⟩
theorem sound_slot_Seal : SoundC Tryz.prog tab n_slot_Seal c_slot_Seal := soundC_of ok_slot_Seal hf_slot_Seal hB_slot_Seal (by
  intro vs bs p v bs' h hp
  unfold c_slot_Seal at h
  split at h
  · cases h
    exact ⟨by kernel_rfl, rfl, .inl (run_slot_Seal _ _ _ _ _ _ ⟨rfl, rfl⟩)⟩
  · cases h)

def c_slot_Image : Contract := fun vs bs => match vs, bs with
  | [.agg [.dat (.list .int) ws, .dat .int fu], .one (.dat .int slot)], [] => some (none, .tup [.one (.dat (.list .int) (imageS ⟨ws, fu⟩ slot).1), .one (.dat .int (imageS ⟨ws, fu⟩ slot).2.1), .one (.dat .int (imageS ⟨ws, fu⟩ slot).2.2)], [])
  | _, _ => none
def Γ_slot_Image : Ctx := [(n_slot_check, c_slot_check), (n_slot_begin, c_slot_begin), (n_slices_Clone_Lint, c_slices_Clone_Lint)]
theorem ok_slot_Image : Ok Tryz.prog tab Γ_slot_Image := (((ok_nil.consC hf_slices_Clone_Lint hB_slices_Clone_Lint sound_slices_Clone_Lint).consC hf_slot_begin hB_slot_begin sound_slot_begin).consC hf_slot_check hB_slot_check sound_slot_check)
theorem slot_Image_vc (ws : List Int) (fu : Int) (slot : Int) (rec : RK) (K : KK) v0 (hv0 : v0 = (checkSlot (⟨ws, fu⟩ : Flash) slot)) v1 (hv1 : v1 = (K (.tup [.one (dL []), .one (dI (0 : Int)), .one (dI (4 : Int))]) [])) : segD Γ_slot_Image tab fn_slot_Image 0 K rec [.code (bodyOf fn_slot_Image)] (initSt [.agg [dL ws, dI fu], .one (dI slot)] []) = (
 br (!(eqi v0 (0 : Int)))
 (K (.tup [.one (dL []), .one (dI (0 : Int)), .one (dI v0)]) [])
 ((((0 : Int) ≤ slot) ∧ (slot ≤ (1 : Int))) ∧
 ((((0 : Int) ≤ slot) ∧ (slot ≤ (1 : Int))) ∧
 ((((0 : Int) ≤ ((64 : Int) + ((64 : Int) * slot))) ∧ ((((64 : Int) + ((64 : Int) * slot)) ≤ (w64 (((64 : Int) + ((64 : Int) * slot)) + (4 : Int)))) ∧ ((w64 (((64 : Int) + ((64 : Int) * slot)) + (4 : Int))) ≤ (((len ws) : Nat) : Int)))) ∧
 ((((0 : Int) ≤ (0 : Int)) ∧ ((0 : Int) < (((len (slc ws (Int.toNat ((64 : Int) + ((64 : Int) * slot))) (Int.toNat (w64 (((64 : Int) + ((64 : Int) * slot)) + (4 : Int)))))) : Nat) : Int))) ∧
 (br (lti (nth (slc ws (Int.toNat ((64 : Int) + ((64 : Int) * slot))) (Int.toNat (w64 (((64 : Int) + ((64 : Int) * slot)) + (4 : Int))))) (Int.toNat (0 : Int)) (Ty.dflt Ty.int)) (1 : Int))
 v1
 ((((0 : Int) ≤ (0 : Int)) ∧ ((0 : Int) < (((len (slc ws (Int.toNat ((64 : Int) + ((64 : Int) * slot))) (Int.toNat (w64 (((64 : Int) + ((64 : Int) * slot)) + (4 : Int)))))) : Nat) : Int))) ∧
 (br (lti (40 : Int) (nth (slc ws (Int.toNat ((64 : Int) + ((64 : Int) * slot))) (Int.toNat (w64 (((64 : Int) + ((64 : Int) * slot)) + (4 : Int))))) (Int.toNat (0 : Int)) (Ty.dflt Ty.int)))
 v1
 ((((0 : Int) ≤ (1 : Int)) ∧ ((1 : Int) < (((len (slc ws (Int.toNat ((64 : Int) + ((64 : Int) * slot))) (Int.toNat (w64 (((64 : Int) + ((64 : Int) * slot)) + (4 : Int)))))) : Nat) : Int))) ∧
 (br (lti (nth (slc ws (Int.toNat ((64 : Int) + ((64 : Int) * slot))) (Int.toNat (w64 (((64 : Int) + ((64 : Int) * slot)) + (4 : Int))))) (Int.toNat (1 : Int)) (Ty.dflt Ty.int)) (1 : Int))
 v1
 ((((0 : Int) ≤ (1 : Int)) ∧ ((1 : Int) < (((len (slc ws (Int.toNat ((64 : Int) + ((64 : Int) * slot))) (Int.toNat (w64 (((64 : Int) + ((64 : Int) * slot)) + (4 : Int)))))) : Nat) : Int))) ∧
 (br (lti (60 : Int) (nth (slc ws (Int.toNat ((64 : Int) + ((64 : Int) * slot))) (Int.toNat (w64 (((64 : Int) + ((64 : Int) * slot)) + (4 : Int))))) (Int.toNat (1 : Int)) (Ty.dflt Ty.int)))
 v1
 ((((0 : Int) ≤ (2 : Int)) ∧ ((2 : Int) < (((len (slc ws (Int.toNat ((64 : Int) + ((64 : Int) * slot))) (Int.toNat (w64 (((64 : Int) + ((64 : Int) * slot)) + (4 : Int)))))) : Nat) : Int))) ∧
 ((((0 : Int) ≤ (0 : Int)) ∧ ((0 : Int) < (((len (slc ws (Int.toNat ((64 : Int) + ((64 : Int) * slot))) (Int.toNat (w64 (((64 : Int) + ((64 : Int) * slot)) + (4 : Int)))))) : Nat) : Int))) ∧
 (br (!(eqi (nth (slc ws (Int.toNat ((64 : Int) + ((64 : Int) * slot))) (Int.toNat (w64 (((64 : Int) + ((64 : Int) * slot)) + (4 : Int))))) (Int.toNat (2 : Int)) (Ty.dflt Ty.int)) (xori (65535 : Int) (nth (slc ws (Int.toNat ((64 : Int) + ((64 : Int) * slot))) (Int.toNat (w64 (((64 : Int) + ((64 : Int) * slot)) + (4 : Int))))) (Int.toNat (0 : Int)) (Ty.dflt Ty.int)))))
 v1
 ((((0 : Int) ≤ (3 : Int)) ∧ ((3 : Int) < (((len (slc ws (Int.toNat ((64 : Int) + ((64 : Int) * slot))) (Int.toNat (w64 (((64 : Int) + ((64 : Int) * slot)) + (4 : Int)))))) : Nat) : Int))) ∧
 ((((0 : Int) ≤ (1 : Int)) ∧ ((1 : Int) < (((len (slc ws (Int.toNat ((64 : Int) + ((64 : Int) * slot))) (Int.toNat (w64 (((64 : Int) + ((64 : Int) * slot)) + (4 : Int)))))) : Nat) : Int))) ∧
 (br (!(eqi (nth (slc ws (Int.toNat ((64 : Int) + ((64 : Int) * slot))) (Int.toNat (w64 (((64 : Int) + ((64 : Int) * slot)) + (4 : Int))))) (Int.toNat (3 : Int)) (Ty.dflt Ty.int)) (xori (65535 : Int) (nth (slc ws (Int.toNat ((64 : Int) + ((64 : Int) * slot))) (Int.toNat (w64 (((64 : Int) + ((64 : Int) * slot)) + (4 : Int))))) (Int.toNat (1 : Int)) (Ty.dflt Ty.int)))))
 v1
 ((((0 : Int) ≤ slot) ∧ (slot ≤ (1 : Int))) ∧
 ((((0 : Int) ≤ slot) ∧ (slot ≤ (1 : Int))) ∧
 ((((0 : Int) ≤ (0 : Int)) ∧ ((0 : Int) < (((len (slc ws (Int.toNat ((64 : Int) + ((64 : Int) * slot))) (Int.toNat (w64 (((64 : Int) + ((64 : Int) * slot)) + (4 : Int)))))) : Nat) : Int))) ∧
 ((((0 : Int) ≤ (w64 (((64 : Int) + ((64 : Int) * slot)) + (4 : Int)))) ∧ (((w64 (((64 : Int) + ((64 : Int) * slot)) + (4 : Int))) ≤ (w64 ((w64 (((64 : Int) + ((64 : Int) * slot)) + (4 : Int))) + (nth (slc ws (Int.toNat ((64 : Int) + ((64 : Int) * slot))) (Int.toNat (w64 (((64 : Int) + ((64 : Int) * slot)) + (4 : Int))))) (Int.toNat (0 : Int)) (Ty.dflt Ty.int))))) ∧ ((w64 ((w64 (((64 : Int) + ((64 : Int) * slot)) + (4 : Int))) + (nth (slc ws (Int.toNat ((64 : Int) + ((64 : Int) * slot))) (Int.toNat (w64 (((64 : Int) + ((64 : Int) * slot)) + (4 : Int))))) (Int.toNat (0 : Int)) (Ty.dflt Ty.int)))) ≤ (((len ws) : Nat) : Int)))) ∧
 ((((len (slc ws (Int.toNat (w64 (((64 : Int) + ((64 : Int) * slot)) + (4 : Int)))) (Int.toNat (w64 ((w64 (((64 : Int) + ((64 : Int) * slot)) + (4 : Int))) + (nth (slc ws (Int.toNat ((64 : Int) + ((64 : Int) * slot))) (Int.toNat (w64 (((64 : Int) + ((64 : Int) * slot)) + (4 : Int))))) (Int.toNat (0 : Int)) (Ty.dflt Ty.int))))))) * 8) ≤ 140737488355328) ∧
 ((((0 : Int) ≤ (1 : Int)) ∧ ((1 : Int) < (((len (slc ws (Int.toNat ((64 : Int) + ((64 : Int) * slot))) (Int.toNat (w64 (((64 : Int) + ((64 : Int) * slot)) + (4 : Int)))))) : Nat) : Int))) ∧
 (K (.tup [.one (dL (slc ws (Int.toNat (w64 (((64 : Int) + ((64 : Int) * slot)) + (4 : Int)))) (Int.toNat (w64 ((w64 (((64 : Int) + ((64 : Int) * slot)) + (4 : Int))) + (nth (slc ws (Int.toNat ((64 : Int) + ((64 : Int) * slot))) (Int.toNat (w64 (((64 : Int) + ((64 : Int) * slot)) + (4 : Int))))) (Int.toNat (0 : Int)) (Ty.dflt Ty.int))))))), .one (dI (nth (slc ws (Int.toNat ((64 : Int) + ((64 : Int) * slot))) (Int.toNat (w64 (((64 : Int) + ((64 : Int) * slot)) + (4 : Int))))) (Int.toNat (1 : Int)) (Ty.dflt Ty.int))), .one (dI (0 : Int))]) []))))))))))))))))))))))))) := by subst_vars; kernel_rfl
theorem slot_Image_w (m : Nat) (K : KK) (st : St) : goD Γ_slot_Image tab fn_slot_Image 0 K (m + 1) [.code (bodyOf fn_slot_Image)] st = segD Γ_slot_Image tab fn_slot_Image 0 K (goD Γ_slot_Image tab fn_slot_Image 0 K m) [.code (bodyOf fn_slot_Image)] st := rfl

set_option maxHeartbeats 4000000 in
theorem run_slot_Image (ws : List Int) (fu slot : Int) (K : KK) (hK : K (.tup [.one (dL (imageS ⟨ws, fu⟩ slot).1), .one (dI (imageS ⟨ws, fu⟩ slot).2.1), .one (dI (imageS ⟨ws, fu⟩ slot).2.2)]) []) : ∃ m, goD Γ_slot_Image tab fn_slot_Image 0 K m [.code (bodyOf fn_slot_Image)] (initSt [.agg [dL ws, dI fu], .one (dI slot)] []) := by
  refine ⟨1, ?_⟩
  rw [slot_Image_w, slot_Image_vc _ _ _ _ _ _ rfl _ rfl]
  unfold imageS at hK
  refine ne_s (fun h => ?_) (fun h => ?_)
  · rw [if_neg h] at hK; exact hK
  rw [if_pos h] at hK
  obtain ⟨h1, h2, h3⟩ := checkSlot_ok h
  simp only at h2
  obtain ⟨b, hb⟩ : ∃ b, beginS slot = b := ⟨_, rfl⟩
  have hb' : (64 + 64 * slot) = (b : Int) := by unfold beginS at hb; omega
  rw [hb', w64_id (n := (b : Int) + 4) (by omega) (by omega), show Int.toNat ((b : Int) + 4) = b + 4 by omega, toNat_nat]
  have hlen : (slc ws b (b + 4)).length = 4 := by simp [slc]; omega
  have g0 : nth (slc ws b (b + 4)) (Int.toNat (0 : Int)) (Ty.dflt Ty.int) = ws.getD b 0 := slc_getD ws b (b + 4) 0 (by omega)
  have g1 : nth (slc ws b (b + 4)) (Int.toNat (1 : Int)) (Ty.dflt Ty.int) = ws.getD (b + 1) 0 := slc_getD ws b (b + 4) 1 (by omega)
  have g2 : nth (slc ws b (b + 4)) (Int.toNat (2 : Int)) (Ty.dflt Ty.int) = ws.getD (b + 2) 0 := slc_getD ws b (b + 4) 2 (by omega)
  have g3 : nth (slc ws b (b + 4)) (Int.toNat (3 : Int)) (Ty.dflt Ty.int) = ws.getD (b + 3) 0 := slc_getD ws b (b + 4) 3 (by omega)
  rw [g0, g1, g2, g3]
  simp only [len, hlen]
  unfold imageR at hK
  simp only [hb] at hK
  have four : ¬ (okHead (ws.getD b 0) (ws.getD (b + 1) 0) = true ∧ ws.getD (b + 2) 0 = 65535 - ws.getD b 0 ∧ ws.getD (b + 3) 0 = 65535 - ws.getD (b + 1) 0) → K (.tup [.one (dL []), .one (dI 0), .one (dI 4)]) [] := fun hn => by
    have : sealedAt ws b = false := by
      unfold sealedAt
      cases hh : okHead (ws.getD b 0) (ws.getD (b + 1) 0)
      · rfl
      · simp only [Bool.true_and, Bool.and_eq_false_iff, decide_eq_false_iff_not]
        by_cases c : ws.getD (b + 2) 0 = 65535 - ws.getD b 0
        · exact .inr fun c2 => hn ⟨hh, c, c2⟩
        · exact .inl c
    rw [this] at hK
    exact hK
  have hd : okHead (ws.getD b 0) (ws.getD (b + 1) 0) = true ↔ (1 ≤ ws.getD b 0 ∧ ws.getD b 0 ≤ 40 ∧ 1 ≤ ws.getD (b + 1) 0 ∧ ws.getD (b + 1) 0 ≤ 60) := by
    simp only [okHead, Bool.and_eq_true, decide_eq_true_eq]; omega
  rw [hd] at four
  refine ⟨by omega, by omega, by omega, by omega, lt_s (fun h4 => four (by omega)) (fun h4 => ⟨by omega, lt_s (fun h5 => four (by omega)) (fun h5 => ⟨by omega, lt_s (fun h6 => four (by omega)) (fun h6 => ⟨by omega, lt_s (fun h7 => four (by omega)) (fun h7 => ⟨by omega, by omega, ?_⟩)⟩)⟩)⟩)⟩
  rw [xori_int (a := ws.getD b 0) (by omega) (by omega), xori_int (a := ws.getD (b + 1) 0) (by omega) (by omega)]
  refine ne_s (fun h8 => four (by omega)) (fun h8 => ⟨by omega, by omega, ne_s (fun h9 => four (by omega)) (fun h9 => ?_)⟩)
  rw [w64_id (by omega) (by omega), show Int.toNat ((b : Int) + 4 + ws.getD b 0) = b + 4 + (ws.getD b 0).toNat by omega]
  have hs : sealedAt ws b = true := by
    unfold sealedAt
    rw [hd.2 (by omega)]
    simp only [Bool.true_and, Bool.and_eq_true, decide_eq_true_eq]
    exact ⟨h8, h9⟩
  rw [hs] at hK
  have hll : (slc ws (b + 4) (b + 4 + (ws.getD b 0).toNat)).length ≤ 192 := by simp [slc]; omega
  exact ⟨by omega, by omega, by omega, by omega, by omega, by omega, hK⟩
theorem sound_slot_Image : SoundC Tryz.prog tab n_slot_Image c_slot_Image := soundC_of ok_slot_Image hf_slot_Image hB_slot_Image (by
  intro vs bs p v bs' h hp
  unfold c_slot_Image at h
  split at h
  · cases h
    exact ⟨by kernel_rfl, rfl, .inl (run_slot_Image _ _ _ _ ⟨rfl, rfl⟩)⟩
  · cases h)

def c_unit_keep : Contract := fun vs bs => match vs, bs with
  | [.agg [.dat .int so, .dat .int sb, .dat .int sr]], [] => some (none, .one (.dat (.list (.list .int)) (keepS sb so sr)), [])
  | _, _ => none
def Γ_unit_keep : Ctx := []
theorem ok_unit_keep : Ok Tryz.prog tab Γ_unit_keep := ok_nil
theorem unit_keep_vc (so : Int) (sb : Int) (sr : Int) (rec : RK) (K : KK) : segD Γ_unit_keep tab fn_unit_keep 0 K rec [.code (bodyOf fn_unit_keep)] (initSt [.agg [dI so, dI sb, dI sr]] []) = (
 br (lti (0 : Int) sr)
 (((((len (((1 : Int) :: (so :: (sb :: []))) :: [])) + (len (((2 : Int) :: (sr :: [])) :: []))) * 24) ≤ 140737488355328) ∧
 (K (.one (dR (cat (((1 : Int) :: (so :: (sb :: []))) :: []) (((2 : Int) :: (sr :: [])) :: [])))) []))
 (K (.one (dR (((1 : Int) :: (so :: (sb :: []))) :: []))) [])) := by kernel_rfl
theorem unit_keep_w (m : Nat) (K : KK) (st : St) : goD Γ_unit_keep tab fn_unit_keep 0 K (m + 1) [.code (bodyOf fn_unit_keep)] st = segD Γ_unit_keep tab fn_unit_keep 0 K (goD Γ_unit_keep tab fn_unit_keep 0 K m) [.code (bodyOf fn_unit_keep)] st := rfl

set_option maxHeartbeats 4000000 in
theorem run_unit_keep (so sb sr : Int) (K : KK) (hK : K (.one (dR (keepS sb so sr))) []) : ∃ m, goD Γ_unit_keep tab fn_unit_keep 0 K m [.code (bodyOf fn_unit_keep)] (initSt [.agg [dI so, dI sb, dI sr]] []) := by
  refine ⟨1, ?_⟩
  rw [unit_keep_w, unit_keep_vc _ _ _ _ _]
  unfold keepS at hK
  refine lt_s (fun h => ?_) (fun h => ?_)
  · rw [if_pos h] at hK; exact ⟨by simp [len], hK⟩
  · rw [if_neg (by omega)] at hK; exact hK
theorem sound_unit_keep : SoundC Tryz.prog tab n_unit_keep c_unit_keep := soundC_of ok_unit_keep hf_unit_keep hB_unit_keep (by
  intro vs bs p v bs' h hp
  unfold c_unit_keep at h
  split at h
  · cases h
    exact ⟨by kernel_rfl, rfl, .inl (run_unit_keep _ _ _ _ ⟨rfl, rfl⟩)⟩
  · cases h)

def c_log_check_1 : Contract := fun vs bs => match vs, bs with
  | [.one (.dat .int w)], [] => some (none, .one (.dat .bool (!okWord w)), [])
  | _, _ => none
def Γ_log_check_1 : Ctx := []
theorem ok_log_check_1 : Ok Tryz.prog tab Γ_log_check_1 := ok_nil
theorem log_check_1_vc (w : Int) (rec : RK) (K : KK) : segD Γ_log_check_1 tab fn_log_check_1 0 K rec [.code (bodyOf fn_log_check_1)] (initSt [.one (dI w)] []) = (
 br (lti w (0 : Int))
 (K vT [])
 (K (.one (dB (lti (65535 : Int) w))) [])) := by kernel_rfl
theorem log_check_1_w (m : Nat) (K : KK) (st : St) : goD Γ_log_check_1 tab fn_log_check_1 0 K (m + 1) [.code (bodyOf fn_log_check_1)] st = segD Γ_log_check_1 tab fn_log_check_1 0 K (goD Γ_log_check_1 tab fn_log_check_1 0 K m) [.code (bodyOf fn_log_check_1)] st := rfl

set_option maxHeartbeats 4000000 in
theorem run_log_check_1 (w : Int) (K : KK) (hK : K (.one (dB (!okWord w))) []) : ∃ m, goD Γ_log_check_1 tab fn_log_check_1 0 K m [.code (bodyOf fn_log_check_1)] (initSt [.one (dI w)] []) := by
  refine ⟨1, ?_⟩
  rw [log_check_1_w, log_check_1_vc _ _ _]
  refine lt_s (fun h => ?_) (fun h => ?_)
  · rw [show (!okWord w) = true from by simp [okWord]; omega] at hK; exact hK
  · rw [show (!okWord w) = lti 65535 w from by simp [okWord, lti, h]; by_cases h2 : w ≤ 65535 <;> simp [h2] <;> omega] at hK; exact hK
theorem sound_log_check_1 : SoundC Tryz.prog tab n_log_check_1 c_log_check_1 := soundC_of ok_log_check_1 hf_log_check_1 hB_log_check_1 (by
  intro vs bs p v bs' h hp
  unfold c_log_check_1 at h
  split at h
  · cases h
    exact ⟨by kernel_rfl, rfl, .inl (run_log_check_1 _ _ ⟨rfl, rfl⟩)⟩
  · cases h)

def c_slices_IndexFunc_Record : Contract := fun vs bs => match vs, bs with
  | [.one (.dat (.list .int) l), .one (.fn f [])], [] => (match Nat.beq f n_log_check_1 with | true => some (some (Sm l), .one (.dat .int (firstBad l)), []) | false => none)
  | _, _ => none
def Γ_slices_IndexFunc_Record : Ctx := [(n_log_check_1, c_log_check_1)]
theorem ok_slices_IndexFunc_Record : Ok Tryz.prog tab Γ_slices_IndexFunc_Record := (ok_nil.consC hf_log_check_1 hB_log_check_1 sound_log_check_1)
noncomputable def slices_IndexFunc_Record_0_L0 : List It := [.inLoop [8, 7, 4, 0, 1] (Code.sub (bodyOf fn_slices_IndexFunc_Record) [1, 0, 1, 0, 0]), .inBlock 0, .code (Code.sub (bodyOf fn_slices_IndexFunc_Record) [1, 1])]
def slices_IndexFunc_Record_0_S0 (x0 : Int) (x1 : Int) (x2 : Int) (x3 : (List Int)) : St := ⟨[(8, .one (dI x0)), (7, .one (dI x1)), (4, .one (dI x2)), (0, .one (dL x3)), (1, .one (.fn n_log_check_1 []))], [], 0⟩
theorem slices_IndexFunc_Record_0_vc (l : List Int) (rec : RK) (K : KK) : segD Γ_slices_IndexFunc_Record tab fn_slices_IndexFunc_Record 0 K rec [.code (bodyOf fn_slices_IndexFunc_Record)] (initSt [.one (dL l), .one (.fn n_log_check_1 [])] []) = (
 rec slices_IndexFunc_Record_0_L0 (slices_IndexFunc_Record_0_S0 (0 : Int) (((len l) : Nat) : Int) (0 : Int) l)) := by kernel_rfl
theorem slices_IndexFunc_Record_0_w (m : Nat) (K : KK) (st : St) : goD Γ_slices_IndexFunc_Record tab fn_slices_IndexFunc_Record 0 K (m + 1) [.code (bodyOf fn_slices_IndexFunc_Record)] st = segD Γ_slices_IndexFunc_Record tab fn_slices_IndexFunc_Record 0 K (goD Γ_slices_IndexFunc_Record tab fn_slices_IndexFunc_Record 0 K m) [.code (bodyOf fn_slices_IndexFunc_Record)] st := rfl
theorem slices_IndexFunc_Record_0_vc0 (x0 : Int) (x1 : Int) (x2 : Int) (x3 : (List Int)) (rec : RK) (K : KK) v0 (hv0 : v0 = (okWord (nth x3 (Int.toNat x0) (Ty.dflt Ty.int)))) : segD Γ_slices_IndexFunc_Record tab fn_slices_IndexFunc_Record 0 K rec (.code (Code.sub (bodyOf fn_slices_IndexFunc_Record) [1, 0, 1, 0, 0]) :: slices_IndexFunc_Record_0_L0) (slices_IndexFunc_Record_0_S0 x0 x1 x2 x3) = (
 br (lti x0 x1)
 ((((0 : Int) ≤ x0) ∧ (x0 < (((len x3) : Nat) : Int))) ∧
 (br (!v0)
 (K (.one (dI x0)) [])
 (rec slices_IndexFunc_Record_0_L0 (slices_IndexFunc_Record_0_S0 (w64 (x0 + (1 : Int))) x1 x2 x3))))
 (K (.one (dI (-(1 : Int)))) [])) := by subst_vars; kernel_rfl
theorem slices_IndexFunc_Record_0_w0 (m : Nat) (K : KK) (st : St) : goD Γ_slices_IndexFunc_Record tab fn_slices_IndexFunc_Record 0 K (m + 1) slices_IndexFunc_Record_0_L0 st = segD Γ_slices_IndexFunc_Record tab fn_slices_IndexFunc_Record 0 K (goD Γ_slices_IndexFunc_Record tab fn_slices_IndexFunc_Record 0 K m) (.code (Code.sub (bodyOf fn_slices_IndexFunc_Record) [1, 0, 1, 0, 0]) :: slices_IndexFunc_Record_0_L0) st := rfl

theorem loop_slices_IndexFunc_Record_0 (l : List Int) (hs : Sm l) (K : KK) : ∀ (d k : Nat), k + d = l.length → K (.one (dI (firstBadFrom k (l.drop k)))) [] →
    goD Γ_slices_IndexFunc_Record tab fn_slices_IndexFunc_Record 0 K (d + 1) slices_IndexFunc_Record_0_L0 (slices_IndexFunc_Record_0_S0 (k : Int) (((len l) : Nat) : Int) 0 l)
  | 0, k, hk, hK => by
    rw [slices_IndexFunc_Record_0_w0, slices_IndexFunc_Record_0_vc0 _ _ _ _ _ _ _ rfl]
    refine lt_f (by simp only [len]; omega) ?_
    rw [List.drop_of_length_le (by omega)] at hK
    exact hK
  | d + 1, k, hk, hK => by
    have hs' := hs
    unfold Sm at hs'
    rw [slices_IndexFunc_Record_0_w0, slices_IndexFunc_Record_0_vc0 _ _ _ _ _ _ _ rfl]
    rw [drop_step (by omega) (Ty.dflt Ty.int)] at hK
    simp only [firstBadFrom] at hK
    refine lt_t (by simp only [len]; omega) ⟨⟨by omega, by simp only [len]; omega⟩, nt_s (fun h => ?_) (fun h => ?_)⟩
    · rw [toNat_nat] at h
      rw [if_neg (by rw [h]; simp)] at hK
      exact hK
    · rw [toNat_nat] at h
      rw [if_pos h] at hK
      rw [w64_succ (by omega)]
      exact loop_slices_IndexFunc_Record_0 l hs K d (k + 1) (by omega) hK
set_option maxHeartbeats 4000000 in
theorem run_slices_IndexFunc_Record_0 (l : List Int) (hp : Sm l) (K : KK) (hK : K (.one (dI (firstBad l))) []) : ∃ m, goD Γ_slices_IndexFunc_Record tab fn_slices_IndexFunc_Record 0 K m [.code (bodyOf fn_slices_IndexFunc_Record)] (initSt [.one (dL l), .one (.fn n_log_check_1 [])] []) := by
  refine ⟨l.length + 2, ?_⟩
  rw [slices_IndexFunc_Record_0_w, slices_IndexFunc_Record_0_vc _ _ _]
  exact loop_slices_IndexFunc_Record_0 l hp K l.length 0 (by omega) hK
theorem sound_slices_IndexFunc_Record : SoundC Tryz.prog tab n_slices_IndexFunc_Record c_slices_IndexFunc_Record := soundC_of ok_slices_IndexFunc_Record hf_slices_IndexFunc_Record hB_slices_IndexFunc_Record (by
  intro vs bs p v bs' h hp
  unfold c_slices_IndexFunc_Record at h
  split at h
  · split at h
    · rename_i hfn
      have hfn := Nat.eq_of_beq_eq_true hfn
      subst hfn
      cases h
      exact ⟨by kernel_rfl, rfl, .inl (run_slices_IndexFunc_Record_0 _ hp.1 _ ⟨rfl, rfl⟩)⟩
    · cases h
  · cases h)

def c_slices_ContainsFunc_Record : Contract := fun vs bs => match vs, bs with
  | [.one (.dat (.list .int) l), .one (.fn f [])], [] => (match Nat.beq f n_log_check_1 with | true => some (some (Sm l), .one (.dat .bool (!okWords l)), []) | false => none)
  | _, _ => none
def Γ_slices_ContainsFunc_Record : Ctx := [(n_slices_IndexFunc_Record, c_slices_IndexFunc_Record), (n_log_check_1, c_log_check_1)]
theorem ok_slices_ContainsFunc_Record : Ok Tryz.prog tab Γ_slices_ContainsFunc_Record := ((ok_nil.consC hf_log_check_1 hB_log_check_1 sound_log_check_1).consC hf_slices_IndexFunc_Record hB_slices_IndexFunc_Record sound_slices_IndexFunc_Record)
theorem slices_ContainsFunc_Record_0_vc (l : List Int) (rec : RK) (K : KK) v0 (hv0 : v0 = (firstBad l)) : segD Γ_slices_ContainsFunc_Record tab fn_slices_ContainsFunc_Record 0 K rec [.code (bodyOf fn_slices_ContainsFunc_Record)] (initSt [.one (dL l), .one (.fn n_log_check_1 [])] []) = (
 ((List.length l) ≤ 140737488355328) ∧
 (K (.one (dB (lei (0 : Int) v0))) [])) := by subst_vars; kernel_rfl
theorem slices_ContainsFunc_Record_0_w (m : Nat) (K : KK) (st : St) : goD Γ_slices_ContainsFunc_Record tab fn_slices_ContainsFunc_Record 0 K (m + 1) [.code (bodyOf fn_slices_ContainsFunc_Record)] st = segD Γ_slices_ContainsFunc_Record tab fn_slices_ContainsFunc_Record 0 K (goD Γ_slices_ContainsFunc_Record tab fn_slices_ContainsFunc_Record 0 K m) [.code (bodyOf fn_slices_ContainsFunc_Record)] st := rfl

theorem firstBad_slices_ContainsFunc_Record : ∀ (l : List Int) (k : Int), 0 ≤ k → lei 0 (firstBadFrom k l) = !okWords l
  | [], k, hk => by simp [firstBadFrom, okWords, lei]
  | w :: l, k, hk => by
    simp only [firstBadFrom, okWords, List.all_cons]
    cases h : okWord w with
    | true => simpa [okWords] using firstBad_slices_ContainsFunc_Record l (k + 1) (by omega)
    | false => simp [lei, hk]
set_option maxHeartbeats 4000000 in
theorem run_slices_ContainsFunc_Record_0 (l : List Int) (hp : Sm l) (K : KK) (hK : K (.one (dB (!okWords l))) []) : ∃ m, goD Γ_slices_ContainsFunc_Record tab fn_slices_ContainsFunc_Record 0 K m [.code (bodyOf fn_slices_ContainsFunc_Record)] (initSt [.one (dL l), .one (.fn n_log_check_1 [])] []) := by
  refine ⟨1, ?_⟩
  rw [slices_ContainsFunc_Record_0_w, slices_ContainsFunc_Record_0_vc _ _ _ _ rfl]
  refine ⟨hp, ?_⟩
  rw [show lei 0 (firstBad l) = !okWords l from firstBad_slices_ContainsFunc_Record l 0 (by omega)]
  exact hK
theorem sound_slices_ContainsFunc_Record : SoundC Tryz.prog tab n_slices_ContainsFunc_Record c_slices_ContainsFunc_Record := soundC_of ok_slices_ContainsFunc_Record hf_slices_ContainsFunc_Record hB_slices_ContainsFunc_Record (by
  intro vs bs p v bs' h hp
  unfold c_slices_ContainsFunc_Record at h
  split at h
  · split at h
    · rename_i hfn
      have hfn := Nat.eq_of_beq_eq_true hfn
      subst hfn
      cases h
      exact ⟨by kernel_rfl, rfl, .inl (run_slices_ContainsFunc_Record_0 _ hp.1 _ ⟨rfl, rfl⟩)⟩
    · cases h
  · cases h)

def c_log_check : Contract := fun vs bs => match vs, bs with
  | [.one (.dat (.list .int) l)], [] => some (some (Sm l), .one (.dat .int (checkRec l)), [])
  | _, _ => none
def Γ_log_check : Ctx := [(n_slices_ContainsFunc_Record, c_slices_ContainsFunc_Record), (n_log_check_1, c_log_check_1)]
theorem ok_log_check : Ok Tryz.prog tab Γ_log_check := ((ok_nil.consC hf_log_check_1 hB_log_check_1 sound_log_check_1).consC hf_slices_ContainsFunc_Record hB_slices_ContainsFunc_Record sound_slices_ContainsFunc_Record)
theorem log_check_vc (l : List Int) (rec : RK) (K : KK) v0 (hv0 : v0 = (okWords l)) : segD Γ_log_check tab fn_log_check 0 K rec [.code (bodyOf fn_log_check)] (initSt [.one (dL l)] []) = (
 br (eqi (((len l) : Nat) : Int) (0 : Int))
 (K (.one (dI (2 : Int))) [])
 (br (lti (4 : Int) (((len l) : Nat) : Int))
 (K (.one (dI (2 : Int))) [])
 (((List.length l) ≤ 140737488355328) ∧
 (br (!v0)
 (K (.one (dI (3 : Int))) [])
 (K (.one (dI (0 : Int))) []))))) := by subst_vars; kernel_rfl
theorem log_check_w (m : Nat) (K : KK) (st : St) : goD Γ_log_check tab fn_log_check 0 K (m + 1) [.code (bodyOf fn_log_check)] st = segD Γ_log_check tab fn_log_check 0 K (goD Γ_log_check tab fn_log_check 0 K m) [.code (bodyOf fn_log_check)] st := rfl

set_option maxHeartbeats 4000000 in
theorem run_log_check (l : List Int) (hp : Sm l) (K : KK) (hK : K (.one (dI (checkRec l))) []) : ∃ m, goD Γ_log_check tab fn_log_check 0 K m [.code (bodyOf fn_log_check)] (initSt [.one (dL l)] []) := by
  refine ⟨1, ?_⟩
  rw [log_check_w, log_check_vc _ _ _ _ rfl]
  unfold checkRec at hK
  refine eq_s (fun h => ?_) (fun h => lt_s (fun h2 => ?_) (fun h2 => ⟨hp, nt_s (fun h3 => ?_) (fun h3 => ?_)⟩))
  · rw [if_neg (by simp only [len] at h; omega)] at hK; exact hK
  · rw [if_neg (by simp only [len] at h2; omega)] at hK; exact hK
  · rw [if_pos (by simp only [len] at h h2; omega), if_neg (by rw [h3]; simp)] at hK; exact hK
  · rw [if_pos (by simp only [len] at h h2; omega), if_pos h3] at hK; exact hK
theorem sound_log_check : SoundC Tryz.prog tab n_log_check c_log_check := soundC_of ok_log_check hf_log_check hB_log_check (by
  intro vs bs p v bs' h hp
  unfold c_log_check at h
  split at h
  · cases h
    exact ⟨by kernel_rfl, rfl, .inl (run_log_check _ hp.1 _ ⟨rfl, rfl⟩)⟩
  · cases h)

def c_slices_Clone_LRecord : Contract := fun vs bs => match vs, bs with
  | [.one (.dat (.list (.list .int)) l)], [] => some (some (len l * 24 ≤ 140737488355328), .one (.own 0), [.arr (.list .int) l])
  | _, _ => none
def Γ_slices_Clone_LRecord : Ctx := []
theorem ok_slices_Clone_LRecord : Ok Tryz.prog tab Γ_slices_Clone_LRecord := ok_nil
theorem slices_Clone_LRecord_vc (l : List (List Int)) (rec : RK) (K : KK) : segO Γ_slices_Clone_LRecord tab fn_slices_Clone_LRecord 0 K rec [.code (bodyOf fn_slices_Clone_LRecord)] (initSt [.one (dR l)] []) = (
 (∀ bn : Bool, (((bn = true) → ((len l) = 0)) → br bn
 (K (.one (.own 0)) [.arr (Ty.list Ty.int) []])
 ((((0 + (len l)) * 24) ≤ 140737488355328) ∧
 (K (.one (.own 0)) [.arr (Ty.list Ty.int) (cat [] l)]))))) := by kernel_rfl
theorem slices_Clone_LRecord_w (m : Nat) (K : KK) (st : St) : goO Γ_slices_Clone_LRecord tab fn_slices_Clone_LRecord 0 K (m + 1) [.code (bodyOf fn_slices_Clone_LRecord)] st = segO Γ_slices_Clone_LRecord tab fn_slices_Clone_LRecord 0 K (goO Γ_slices_Clone_LRecord tab fn_slices_Clone_LRecord 0 K m) [.code (bodyOf fn_slices_Clone_LRecord)] st := rfl

set_option maxHeartbeats 4000000 in
theorem run_slices_Clone_LRecord (l : List (List Int)) (hp : len l * 24 ≤ 140737488355328) (K : KK) (hK : K (.one (.own 0)) [.arr (.list .int) l]) : ∃ m, goO Γ_slices_Clone_LRecord tab fn_slices_Clone_LRecord 0 K m [.code (bodyOf fn_slices_Clone_LRecord)] (initSt [.one (dR l)] []) := by
  refine ⟨1, ?_⟩
  rw [slices_Clone_LRecord_w, slices_Clone_LRecord_vc _ _ _]
  intro bn hb
  refine br_split (fun h => ?_) (fun h => ⟨by simp only [len] at hp ⊢; omega, hK⟩)
  have : l = [] := List.length_eq_zero_iff.1 (hb h)
  subst this
  exact hK
theorem sound_slices_Clone_LRecord : SoundC Tryz.prog tab n_slices_Clone_LRecord c_slices_Clone_LRecord := soundC_of ok_slices_Clone_LRecord hf_slices_Clone_LRecord hB_slices_Clone_LRecord (by
  intro vs bs p v bs' h hp
  unfold c_slices_Clone_LRecord at h
  split at h
  · cases h
    exact ⟨by kernel_rfl, rfl, .inr (.inl (run_slices_Clone_LRecord _ hp.1 _ ⟨rfl, rfl⟩))⟩
  · cases h)

def c_log_head : Contract := fun vs bs => match vs, bs with
  | [.one (.dat .int n)], [] => some (some (0 ≤ n ∧ n ≤ 255), .one (.dat .int (42240 + n)), [])
  | _, _ => none
def Γ_log_head : Ctx := []
theorem ok_log_head : Ok Tryz.prog tab Γ_log_head := ok_nil
theorem log_head_vc (n : Int) (rec : RK) (K : KK) : segD Γ_log_head tab fn_log_head 0 K rec [.code (bodyOf fn_log_head)] (initSt [.one (dI n)] []) = (
 K (.one (dI (ori (42240 : Int) n))) []) := by kernel_rfl
theorem log_head_w (m : Nat) (K : KK) (st : St) : goD Γ_log_head tab fn_log_head 0 K (m + 1) [.code (bodyOf fn_log_head)] st = segD Γ_log_head tab fn_log_head 0 K (goD Γ_log_head tab fn_log_head 0 K m) [.code (bodyOf fn_log_head)] st := rfl

set_option maxHeartbeats 4000000 in
theorem run_log_head (n : Int) (hp : 0 ≤ n ∧ n ≤ 255) (K : KK) (hK : K (.one (dI (42240 + n))) []) : ∃ m, goD Γ_log_head tab fn_log_head 0 K m [.code (bodyOf fn_log_head)] (initSt [.one (dI n)] []) := by
  refine ⟨1, ?_⟩
  rw [log_head_w, log_head_vc _ _ _, ori_head hp.1 hp.2]
  exact hK
theorem sound_log_head : SoundC Tryz.prog tab n_log_head c_log_head := soundC_of ok_log_head hf_log_head hB_log_head (by
  intro vs bs p v bs' h hp
  unfold c_log_head at h
  split at h
  · cases h
    exact ⟨by kernel_rfl, rfl, .inl (run_log_head _ hp.1 _ ⟨rfl, rfl⟩)⟩
  · cases h)

def c_log_words : Contract := fun vs bs => match vs, bs with
  | [.one (.dat (.list .int) l)], [] => some (some (len l ≤ 255), .one (.dat (.list .int) (recW l)), [])
  | _, _ => none
def Γ_log_words : Ctx := [(n_log_head, c_log_head)]
theorem ok_log_words : Ok Tryz.prog tab Γ_log_words := (ok_nil.consC hf_log_head hB_log_head sound_log_head)
theorem log_words_vc (l : List Int) (rec : RK) (K : KK) : segD Γ_log_words tab fn_log_words 0 K rec [.code (bodyOf fn_log_words)] (initSt [.one (dL l)] []) = (
 (((0 : Int) ≤ (((len l) : Nat) : Int)) ∧ ((((len l) : Nat) : Int) ≤ (255 : Int))) ∧
 (((((len (((42240 : Int) + (((len l) : Nat) : Int)) :: [])) + (len l)) * 8) ≤ 140737488355328) ∧
 (K (.one (dL (cat (((42240 : Int) + (((len l) : Nat) : Int)) :: []) l))) []))) := by kernel_rfl
theorem log_words_w (m : Nat) (K : KK) (st : St) : goD Γ_log_words tab fn_log_words 0 K (m + 1) [.code (bodyOf fn_log_words)] st = segD Γ_log_words tab fn_log_words 0 K (goD Γ_log_words tab fn_log_words 0 K m) [.code (bodyOf fn_log_words)] st := rfl

set_option maxHeartbeats 4000000 in
theorem run_log_words (l : List Int) (hp : len l ≤ 255) (K : KK) (hK : K (.one (dL (recW l))) []) : ∃ m, goD Γ_log_words tab fn_log_words 0 K m [.code (bodyOf fn_log_words)] (initSt [.one (dL l)] []) := by
  refine ⟨1, ?_⟩
  rw [log_words_w, log_words_vc _ _ _]
  exact ⟨⟨by omega, by omega⟩, by simp only [len, List.length_cons, List.length_nil] at hp ⊢; omega, hK⟩
theorem sound_log_words : SoundC Tryz.prog tab n_log_words c_log_words := soundC_of ok_log_words hf_log_words hB_log_words (by
  intro vs bs p v bs' h hp
  unfold c_log_words at h
  split at h
  · cases h
    exact ⟨by kernel_rfl, rfl, .inl (run_log_words _ hp.1 _ ⟨rfl, rfl⟩)⟩
  · cases h)

def c_log_Append : Contract := fun vs bs => match vs, bs with
  | [.agg [.dat (.list .int) ws, .dat .int fu], .one (.dat (.list .int) r), .one (.dat (.list (.list .int)) keep)], [] => some (some (Sm r ∧ len keep * 24 ≤ 140737488351232 ∧ smR keep = true), .tup [.agg [.dat (.list .int) (appendF ⟨ws, fu⟩ r keep).1.words, .dat .int (appendF ⟨ws, fu⟩ r keep).1.fuel], .one (.dat .int (appendF ⟨ws, fu⟩ r keep).2)], [])
  | _, _ => none
def Γ_log_Append : Ctx := [(n_log_Check, c_log_Check), (n_log_check, c_log_check), (n_slices_Clone_LRecord, c_slices_Clone_LRecord), (n_log_words, c_log_words), (n_log_live, c_log_live), (n_flash_Copy, c_flash_Copy), (n_log_scan, (weakC c_log_scan)), (n_flash_Burn, (orC c_flash_Burn c_flash_Burn_b)), (n_flash_Wipe, c_flash_Wipe)]
theorem ok_log_Append : Ok Tryz.prog tab Γ_log_Append := (((((((((ok_nil.consC hf_flash_Wipe hB_flash_Wipe sound_flash_Wipe).consC hf_flash_Burn hB_flash_Burn (soundC_or sound_flash_Burn sound_flash_Burn_b)).consC hf_log_scan hB_log_scan (soundC_weak sound_log_scan)).consC hf_flash_Copy hB_flash_Copy sound_flash_Copy).consC hf_log_live hB_log_live sound_log_live).consC hf_log_words hB_log_words sound_log_words).consC hf_slices_Clone_LRecord hB_slices_Clone_LRecord sound_slices_Clone_LRecord).consC hf_log_check hB_log_check sound_log_check).consC hf_log_Check hB_log_Check sound_log_Check)
noncomputable def log_Append_L0 : List It := [.inLoop [40, 39, 38, 10, 7, 6, 3, 1] (Code.sub (bodyOf fn_log_Append) [1, 1, 1, 1, 0, 1, 0, 0]), .inBlock 0, .code (Code.sub (bodyOf fn_log_Append) [1, 1, 1, 1, 1])]
def log_Append_S0 (x0 : Int) (x1 : Int) (x2 : Int) (x3 : (List Int)) (x4 : (List (List Int))) (x5 : (List Int)) (x6 : Int) (x7 : (List Int)) (x8 : Int) (x9 : (List Int)) : St := ⟨[(40, .one (dI x0)), (39, .one (dI x1)), (38, .one (.own 0)), (10, .one (.own 1)), (7, .one (dI x2)), (6, .one (.ptr 2 0)), (3, .one (.ptr 3 0)), (1, .one (dL x3))], [(0, .arr (Ty.list Ty.int) x4), (1, .arr Ty.int x5), (2, .box [.own 4, dI x6]), (3, .box [dL x7, dI x8]), (4, .arr Ty.int x9)], 5⟩
theorem log_Append_vc (ws : List Int) (fu : Int) (r : List Int) (keep : List (List Int)) (rec : RK) (K : KK) v0 (hv0 : v0 = (checkLog (⟨ws, fu⟩ : Flash))) v1 (hv1 : v1 = (checkRec r)) : segD Γ_log_Append tab fn_log_Append 0 K rec [.code (bodyOf fn_log_Append)] (initSt [.agg [dL ws, dI fu], .one (dL r), .one (dR keep)] []) = (
 br (!(eqi v0 (0 : Int)))
 (K (.tup [.agg [dL [], dI (0 : Int)], .one (dI v0)]) [])
 (((List.length r) ≤ 140737488355328) ∧
 (br (!(eqi v1 (0 : Int)))
 (K (.tup [.agg [dL [], dI (0 : Int)], .one (dI v1)]) [])
 ((((len keep) * 24) ≤ 140737488355328) ∧
 (((((len keep) + (len (r :: []))) * 24) ≤ 140737488355328) ∧
 (rec log_Append_L0 (log_Append_S0 (0 : Int) (((len (cat keep (r :: []))) : Nat) : Int) (0 : Int) r (cat keep (r :: [])) [] (0 : Int) ws fu []))))))) := by subst_vars; kernel_rfl
theorem log_Append_w (m : Nat) (K : KK) (st : St) : goD Γ_log_Append tab fn_log_Append 0 K (m + 1) [.code (bodyOf fn_log_Append)] st = segD Γ_log_Append tab fn_log_Append 0 K (goD Γ_log_Append tab fn_log_Append 0 K m) [.code (bodyOf fn_log_Append)] st := rfl
theorem log_Append_vc0 (x0 : Int) (x1 : Int) (x2 : Int) (x3 : (List Int)) (x4 : (List (List Int))) (x5 : (List Int)) (x6 : Int) (x7 : (List Int)) (x8 : Int) (x9 : (List Int)) (rec : RK) (K : KK) v0 (hv0 : v0 = (checkRec (nth x4 (Int.toNat x0) (Ty.dflt (Ty.list Ty.int))))) v1 (hv1 : v1 = (recW (nth x4 (Int.toNat x0) (Ty.dflt (Ty.list Ty.int))))) v2 (hv2 : v2 = (okWords x7)) v3 (hv3 : v3 = (liveS x7)) v4 (hv4 : v4 = (scanS x7 (Int.toNat ((v3 : Nat) : Int)))) v5 (hv5 : v5 = (nextI (Int.toNat ((v3 : Nat) : Int)) v4.snd)) v6 (hv6 : v6 = (recW x3)) v7 (hv7 : v7 = (burnCh (w64 (v5 + (1 : Int))) x3)) v8 (hv8 : v8 = (doCh (⟨x7, x8⟩ : Flash) v7)) v9 (hv9 : v9 = (burnCh v5 ((nth v6 (Int.toNat (0 : Int)) (Ty.dflt Ty.int)) :: []))) v10 (hv10 : v10 = (doCh (⟨v8.fst.words, v8.fst.fuel⟩ : Flash) v9)) v11 (hv11 : v11 = (liveG x7)) v12 (hv12 : v12 = (wipeCh (w64 ((1 : Int) - ((v3 : Nat) : Int))))) v13 (hv13 : v13 = (doCh (⟨x7, x8⟩ : Flash) v12)) v14 (hv14 : v14 = (burnCh (w64 ((w64 ((w64 ((1 : Int) - ((v3 : Nat) : Int))) * (32 : Int))) + (1 : Int))) x5)) v15 (hv15 : v15 = (doCh (⟨v13.fst.words, v13.fst.fuel⟩ : Flash) v14)) v16 (hv16 : v16 = (burnCh (w64 ((w64 ((1 : Int) - ((v3 : Nat) : Int))) * (32 : Int))) ((w64 (v11 + (1 : Int))) :: []))) v17 (hv17 : v17 = (doCh (⟨v15.fst.words, v15.fst.fuel⟩ : Flash) v16)) v19 (hv19 : v19 = (K (.tup [.agg [dL [], dI (0 : Int)], .one (dI (8 : Int))]) [])) v18 (hv18 : v18 = (br (eqi v11 (60000 : Int))
 v19
 ((((-(1 : Int)) ≤ x8) ∧ ((x8 ≤ (100000 : Int)) ∧ (((0 : Int) ≤ (w64 ((1 : Int) - ((v3 : Nat) : Int)))) ∧ (((((w64 ((1 : Int) - ((v3 : Nat) : Int))) + (1 : Int)) * (32 : Int)) ≤ (((len x7) : Nat) : Int)) ∧ ((len x7) ≤ 192))))) ∧
 (br (!v13.snd)
 (K (.tup [.agg [dL v13.fst.words, dI v13.fst.fuel], .one (dI (7 : Int))]) [])
 ((((-(1 : Int)) ≤ v13.fst.fuel) ∧ ((v13.fst.fuel ≤ (100000 : Int)) ∧ (((0 : Int) ≤ (w64 ((w64 ((w64 ((1 : Int) - ((v3 : Nat) : Int))) * (32 : Int))) + (1 : Int)))) ∧ ((((w64 ((w64 ((w64 ((1 : Int) - ((v3 : Nat) : Int))) * (32 : Int))) + (1 : Int))) + (((len x5) : Nat) : Int)) ≤ (((len v13.fst.words) : Nat) : Int)) ∧ ((len v13.fst.words) ≤ 192))))) ∧
 (br (!v15.snd)
 (K (.tup [.agg [dL v15.fst.words, dI v15.fst.fuel], .one (dI (7 : Int))]) [])
 ((((-(1 : Int)) ≤ v15.fst.fuel) ∧ ((v15.fst.fuel ≤ (100000 : Int)) ∧ (((0 : Int) ≤ (w64 ((w64 ((1 : Int) - ((v3 : Nat) : Int))) * (32 : Int)))) ∧ ((((w64 ((w64 ((1 : Int) - ((v3 : Nat) : Int))) * (32 : Int))) + (((len ((w64 (v11 + (1 : Int))) :: [])) : Nat) : Int)) ≤ (((len v15.fst.words) : Nat) : Int)) ∧ ((len v15.fst.words) ≤ 192))))) ∧
 (br (!v17.snd)
 (K (.tup [.agg [dL v17.fst.words, dI v17.fst.fuel], .one (dI (7 : Int))]) [])
 (K (.tup [.agg [dL v17.fst.words, dI v17.fst.fuel], .one (dI (0 : Int))]) []))))))))) : segD Γ_log_Append tab fn_log_Append 0 K rec (.code (Code.sub (bodyOf fn_log_Append) [1, 1, 1, 1, 0, 1, 0, 0]) :: log_Append_L0) (log_Append_S0 x0 x1 x2 x3 x4 x5 x6 x7 x8 x9) = (
 br (lti x0 x1)
 ((((0 : Int) ≤ x0) ∧ (x0 < (((len x4) : Nat) : Int))) ∧
 (((Int.toNat x0) < (len x4)) ∧
 (((List.length (nth x4 (Int.toNat x0) (Ty.dflt (Ty.list Ty.int)))) ≤ 140737488355328) ∧
 (br (!(eqi v0 (0 : Int)))
 (K (.tup [.agg [dL [], dI (0 : Int)], .one (dI v0)]) [])
 (((len (nth x4 (Int.toNat x0) (Ty.dflt (Ty.list Ty.int)))) ≤ 255) ∧
 (((((len x5) + (len v1)) * 8) ≤ 140737488355328) ∧
 (br (lti (31 : Int) (((len (cat x5 v1)) : Nat) : Int))
 v19
 (rec log_Append_L0 (log_Append_S0 (w64 (x0 + (1 : Int))) x1 x2 x3 x4 (cat x5 v1) x6 x7 x8 x9)))))))))
 (((64 ≤ (len x7)) ∧ (v2 = true)) ∧
 ((((len x7) * 8) ≤ 140737488355328) ∧
 (((len x3) ≤ 255) ∧
 ((((0 : Int) ≤ ((v3 : Nat) : Int)) ∧ ((((v3 : Nat) : Int) ≤ (1 : Int)) ∧ ((64 ≤ (len x7)) ∧ (((len x7) ≤ 192) ∧ (v2 = true))))) ∧
 (br (lei (0 : Int) v5)
 (br (lei (w64 (v5 + (((len v6) : Nat) : Int))) (w64 ((w64 (((v3 : Nat) : Int) + (1 : Int))) * (32 : Int))))
 ((((-(1 : Int)) ≤ x8) ∧ ((x8 ≤ (100000 : Int)) ∧ (((0 : Int) ≤ (w64 (v5 + (1 : Int)))) ∧ ((((w64 (v5 + (1 : Int))) + (((len x3) : Nat) : Int)) ≤ (((len x7) : Nat) : Int)) ∧ ((len x7) ≤ 192))))) ∧
 (br (!v8.snd)
 (K (.tup [.agg [dL v8.fst.words, dI v8.fst.fuel], .one (dI (7 : Int))]) [])
 ((((0 : Int) ≤ (0 : Int)) ∧ ((0 : Int) < (((len v6) : Nat) : Int))) ∧
 ((((-(1 : Int)) ≤ v8.fst.fuel) ∧ ((v8.fst.fuel ≤ (100000 : Int)) ∧ (((0 : Int) ≤ v5) ∧ (((v5 + (((len ((nth v6 (Int.toNat (0 : Int)) (Ty.dflt Ty.int)) :: [])) : Nat) : Int)) ≤ (((len v8.fst.words) : Nat) : Int)) ∧ ((len v8.fst.words) ≤ 192))))) ∧
 (br (!v10.snd)
 (K (.tup [.agg [dL v10.fst.words, dI v10.fst.fuel], .one (dI (7 : Int))]) [])
 (K (.tup [.agg [dL v10.fst.words, dI v10.fst.fuel], .one (dI (0 : Int))]) []))))))
 v18)
 v18)))))) := by subst_vars; kernel_rfl
theorem log_Append_w0 (m : Nat) (K : KK) (st : St) : goD Γ_log_Append tab fn_log_Append 0 K (m + 1) log_Append_L0 st = segD Γ_log_Append tab fn_log_Append 0 K (goD Γ_log_Append tab fn_log_Append 0 K m) (.code (Code.sub (bodyOf fn_log_Append) [1, 1, 1, 1, 0, 1, 0, 0]) :: log_Append_L0) st := rfl

theorem loop_log_Append (ws r : List Int) (fu : Int) (rs : List (List Int)) (hl : rs.length ≤ 5864062014806) (hs : smR rs = true) (K : KK)
    (hbad : ∀ e, e ≠ 0 → gather 0 rs = e → K (.tup [.agg [dL [], dI 0], .one (dI e)]) [])
    (hend : ∀ M, gather 0 rs = 0 → (allW rs).length ≤ 31 → goD Γ_log_Append tab fn_log_Append 0 K (M + 1) log_Append_L0 (log_Append_S0 (rs.length : Int) (((len rs) : Nat) : Int) 0 r rs (allW rs) 0 ws fu [])) :
    ∀ (d k : Nat), rs.length ≤ k + d → k ≤ rs.length → (allW (rs.take k)).length ≤ 31 → gather 0 rs = gather (allW (rs.take k)).length (rs.drop k) →
    goD Γ_log_Append tab fn_log_Append 0 K (d + 1) log_Append_L0 (log_Append_S0 (k : Int) (((len rs) : Nat) : Int) 0 r rs (allW (rs.take k)) 0 ws fu [])
  | 0, k, hk, hk2, ha, hg => by
    have : k = rs.length := by omega
    subst this
    rw [List.take_length] at ha hg ⊢
    rw [List.drop_length] at hg
    exact hend 0 hg ha
  | d + 1, k, hk, hk2, ha, hg => by
    by_cases c : k = rs.length
    · subst c
      rw [List.take_length] at ha hg ⊢
      rw [List.drop_length] at hg
      exact hend (d + 1) hg ha
    have ht := take_step (l := rs) (k := k) (by omega) (Ty.dflt (.list .int))
    rw [drop_step (by omega) (Ty.dflt (.list .int))] at hg
    have hm : nth rs k (Ty.dflt (.list .int)) ∈ rs := by
      have : k < rs.length := by omega
      simp [nth, List.getD_eq_getElem?_getD, this]
    have hsm := List.all_eq_true.1 hs _ hm
    simp only [decide_eq_true_eq] at hsm
    rw [log_Append_w0, log_Append_vc0 _ _ _ _ _ _ _ _ _ _ _ _ _ rfl _ rfl _ rfl _ rfl _ rfl _ rfl _ rfl _ rfl _ rfl _ rfl _ rfl _ rfl _ rfl _ rfl _ rfl _ rfl _ rfl _ rfl _ rfl _ rfl, toNat_nat]
    obtain ⟨x, hx⟩ : ∃ x, nth rs k (Ty.dflt (.list .int)) = x := ⟨_, rfl⟩
    rw [hx] at ht hg hsm ⊢
    simp only [gather] at hg
    refine lt_t (by simp only [len]; omega) ⟨⟨by omega, by simp only [len]; omega⟩, by simp only [len]; omega, hsm, ne_s (fun h1 => ?_) (fun h1 => ?_)⟩
    · rw [if_neg h1] at hg
      exact hbad _ h1 hg
    · rw [if_pos h1] at hg
      obtain ⟨r1, r2, r3⟩ := checkRec_ok h1
      refine ⟨by simp only [len]; omega, by simp only [len, recW_len]; omega, lt_s (fun h2 => ?_) (fun h2 => ?_)⟩
      · simp only [len, cat, List.length_append, recW_len] at h2
        rw [if_neg (by omega)] at hg
        exact hbad 8 (by decide) hg
      · simp only [len, cat, List.length_append, recW_len] at h2
        rw [if_pos (by omega)] at hg
        rw [w64_succ (by omega)]
        have e : cat (allW (rs.take k)) (recW x) = allW (rs.take (k + 1)) := by rw [ht, allW_snoc]; rfl
        have el : (allW (rs.take (k + 1))).length = (allW (rs.take k)).length + 1 + x.length := by rw [ht, allW_snoc, List.length_append, recW_len]; omega
        rw [e]
        exact loop_log_Append ws r fu rs hl hs K hbad hend d (k + 1) (by omega) (by omega) (by rw [el]; omega) (by rw [hg, el])
theorem there_log_Append (ws al : List Int) (fu g : Int) (s : Nat) (hs : s ≤ 1) (h64 : 64 ≤ ws.length) (h192 : ws.length ≤ 192) (f1 : -1 ≤ fu) (f2 : fu ≤ 100000) (hg0 : 0 ≤ g) (hg1 : g ≤ 65535) (hal : al.length ≤ 31) (P : Flash × Int → Prop)
    (hP : P (power (doCh ⟨ws, fu⟩ (wipeCh ((1 - s : Nat) : Int) ++ burnCh (32 * ((1 - s : Nat) : Int) + 1) al ++ burnCh (32 * ((1 - s : Nat) : Int)) [g + 1])))) :
    let o := w64 (1 - (s : Int))
    let a := doCh ⟨ws, fu⟩ (wipeCh o)
    let b := doCh ⟨a.1.words, a.1.fuel⟩ (burnCh (w64 (w64 (o * 32) + 1)) al)
    let c := doCh ⟨b.1.words, b.1.fuel⟩ (burnCh (w64 (o * 32)) [w64 (g + 1)])
    (0 ≤ o ∧ (o + 1) * 32 ≤ (ws.length : Int)) ∧
    (a.2 = false → P (a.1, 7)) ∧ ((-1 ≤ a.1.fuel ∧ a.1.fuel ≤ 100000 ∧ 0 ≤ w64 (w64 (o * 32) + 1) ∧ w64 (w64 (o * 32) + 1) + (al.length : Int) ≤ (a.1.words.length : Int) ∧ a.1.words.length ≤ 192) ∧
    (a.2 = true → b.2 = false → P (b.1, 7)) ∧ ((-1 ≤ b.1.fuel ∧ b.1.fuel ≤ 100000 ∧ 0 ≤ w64 (o * 32) ∧ w64 (o * 32) + 1 ≤ (b.1.words.length : Int) ∧ b.1.words.length ≤ 192) ∧
    (a.2 = true → b.2 = true → P (c.1, powerE c.2)))) := by
  intro o a b c
  have eo : o = ((1 - s : Nat) : Int) := by show w64 (1 - (s : Int)) = _; rw [w64_id (by omega) (by omega)]; omega
  have e1 : w64 (o * 32) = 32 * ((1 - s : Nat) : Int) := by rw [eo, w64_id (by omega) (by omega)]; omega
  have e2 : w64 (w64 (o * 32) + 1) = 32 * ((1 - s : Nat) : Int) + 1 := by rw [e1, w64_id (by omega) (by omega)]
  have e3 : w64 (g + 1) = g + 1 := w64_id (by omega) (by omega)
  have fa := doCh_fuel ⟨ws, fu⟩ (wipeCh o) f1 f2
  have la : a.1.words.length = ws.length := doCh_len ⟨ws, fu⟩ (wipeCh o)
  have fb := doCh_fuel a.1 (burnCh (w64 (w64 (o * 32) + 1)) al) fa.1 fa.2
  have lb : b.1.words.length = a.1.words.length := doCh_len a.1 (burnCh (w64 (w64 (o * 32) + 1)) al)
  rw [doCh_append, doCh_append] at hP
  have ea : doCh ⟨ws, fu⟩ (wipeCh ((1 - s : Nat) : Int)) = a := by rw [← eo]
  have eb : doCh a.1 (burnCh (32 * ((1 - s : Nat) : Int) + 1) al) = b := by rw [← e2]
  have ec : doCh b.1 (burnCh (32 * ((1 - s : Nat) : Int)) [g + 1]) = c := by rw [← e1, ← e3]
  rw [ea, eb] at hP
  refine ⟨by omega, fun h => ?_, ⟨fa.1, fa.2, by omega, by omega, by omega⟩, fun h h' => ?_, ⟨fb.1, fb.2, by omega, by omega, by omega⟩, fun h h' => ?_⟩
  · rw [if_neg (by simp [h]), if_neg (by simp [h])] at hP
    simpa [power, h, powerE] using hP
  · rw [if_pos h, if_neg (by simp [h'])] at hP
    simpa [power, h', powerE] using hP
  · rw [if_pos h, if_pos h', ec] at hP
    exact hP
set_option maxHeartbeats 4000000 in
theorem run_log_Append (ws : List Int) (fu : Int) (r : List Int) (keep : List (List Int)) (hp : Sm r ∧ len keep * 24 ≤ 140737488351232 ∧ smR keep = true) (K : KK) (hK : K (.tup [.agg [dL (appendF ⟨ws, fu⟩ r keep).1.words, dI (appendF ⟨ws, fu⟩ r keep).1.fuel], .one (dI (appendF ⟨ws, fu⟩ r keep).2)]) []) : ∃ m, goD Γ_log_Append tab fn_log_Append 0 K m [.code (bodyOf fn_log_Append)] (initSt [.agg [dL ws, dI fu], .one (dL r), .one (dR keep)] []) := by
  obtain ⟨hr, hk, hsm⟩ := hp
  refine ⟨(keep ++ [r]).length + 1 + 1, ?_⟩
  rw [log_Append_w, log_Append_vc _ _ _ _ _ _ _ rfl _ rfl]
  unfold appendF appendE at hK
  simp only [len] at hk
  refine ne_s (fun h => ?_) (fun h => ?_)
  · rw [if_neg h, if_neg h] at hK; exact hK
  rw [if_pos h] at hK
  refine ⟨hr, ne_s (fun h2 => ?_) (fun h2 => ?_)⟩
  · rw [if_neg h2, if_neg h2] at hK; exact hK
  rw [if_pos h2] at hK
  obtain ⟨k1, k2, k3, k4⟩ := checkLog_ok h
  obtain ⟨c1, c2, c3, c4⟩ := checkFlash_ok k1
  obtain ⟨c5, c6⟩ := okLen_le c1
  simp only at k2 k3 k4 c2 c3 c4 c5 c6
  obtain ⟨r1, r2, r3⟩ := checkRec_ok h2
  have hlen : (keep ++ [r]).length = keep.length + 1 := by simp
  obtain ⟨rs, hrs⟩ : ∃ rs, keep ++ [r] = rs := ⟨_, rfl⟩
  have hsr : smR rs = true := by
    rw [← hrs]; unfold smR at hsm ⊢; rw [List.all_append, hsm]
    simp only [List.all_cons, List.all_nil, Bool.and_true, Bool.true_and, decide_eq_true_eq]; omega
  rw [hrs] at hlen ⊢
  refine ⟨by simp only [len]; omega, by simp only [len, List.length_cons, List.length_nil]; omega, ?_⟩
  rw [show cat keep [r] = rs from hrs]
  rw [hrs] at hK
  have e0 : allW (rs.take 0) = [] := by simp [allW]
  have l0 : (allW (rs.take 0)).length = 0 := by rw [e0]; rfl
  refine loop_log_Append ws r fu rs (by omega) hsr K (fun e he hg => ?_) (fun M hg hal => ?_) rs.length 0 (by omega) (by omega) (by omega) (by rw [l0, List.drop_zero])
  · rw [hg, if_neg he] at hK; exact hK
  rw [hg, if_pos rfl] at hK
  rw [log_Append_w0, log_Append_vc0 _ _ _ _ _ _ _ _ _ _ _ _ _ rfl _ rfl _ rfl _ rfl _ rfl _ rfl _ rfl _ rfl _ rfl _ rfl _ rfl _ rfl _ rfl _ rfl _ rfl _ rfl _ rfl _ rfl _ rfl _ rfl, toNat_nat]
  unfold appendCh at hK
  have hls := liveS_le ws
  have hgr := genOf_range c4 (liveS ws)
  have hg1 : liveG ws = genOf ws (liveS ws) := rfl
  have es : ∀ s : Nat, Int.toNat (s : Int) = s := fun _ => rfl
  simp only [hrs] at hK
  obtain ⟨s, hs⟩ : ∃ s, liveS ws = s := ⟨_, rfl⟩
  rw [hs] at hK hls ⊢
  obtain ⟨g, hgg⟩ : ∃ g, liveG ws = g := ⟨_, rfl⟩
  rw [hgg] at hK hg1 k3 k4 ⊢
  rw [w64_id (n := (s : Int) + 1) (by omega) (by omega), w64_id (n := ((s : Int) + 1) * 32) (by omega) (by omega)]
  have e6 : (((len (recW r)) : Nat) : Int) = (r.length : Int) + 1 := by simp only [len, recW_len]; omega
  have e7 : nth (recW r) (Int.toNat (0 : Int)) (Ty.dflt Ty.int) = 42240 + (r.length : Int) := rfl
  rw [e6, e7, es s]
  simp only [len]
  have hthere := fun (hP : K (.tup [.agg [dL (power (doCh ⟨ws, fu⟩ (thereCh (1 - s) rs (g + 1)))).1.words, dI (power (doCh ⟨ws, fu⟩ (thereCh (1 - s) rs (g + 1)))).1.fuel], .one (dI (power (doCh ⟨ws, fu⟩ (thereCh (1 - s) rs (g + 1)))).2)]) []) =>
    there_log_Append ws (allW rs) fu g s hls k2 c6 c2 c3 (by omega) (by omega) hal (fun x => K (.tup [.agg [dL x.1.words, dI x.1.fuel], .one (dI x.2)]) []) hP
  refine lt_f (by omega) ⟨⟨k2, c4⟩, by omega, by omega, ⟨by omega, by omega, k2, c6, c4⟩, ?_⟩
  cases hsc : (scanS ws s).2 with
  | none =>
    rw [hsc] at hK
    simp only [room, Bool.false_eq_true, if_false] at hK
    simp only [nextI]
    refine br_f (lei_false.2 (by omega)) (eq_s (fun h5 => ?_) (fun h5 => ?_))
    · rw [if_pos h5] at hK; exact hK
    · rw [if_neg h5] at hK
      obtain ⟨t1, t2, t3, t4, t5, t6⟩ := hthere hK
      refine ⟨⟨c2, c3, t1.1, t1.2, c6⟩, nt_s t2 (fun q1 => ⟨t3, nt_s (t4 q1) (fun q2 => ⟨t5, nt_s (fun q3 => ?_) (fun q3 => ?_)⟩)⟩)⟩
      · have := t6 q1 q2; rw [q3] at this; exact this
      · have := t6 q1 q2; rw [q3] at this; exact this
  | some a =>
    have ha := scanS_le (by omega) hsc
    rw [hsc] at hK
    simp only [nextI]
    rw [w64_id (n := 32 * (s : Int) + 1 + a + ((r.length : Int) + 1)) (by omega) (by omega), w64_id (n := 32 * (s : Int) + 1 + a + 1) (by omega) (by omega)]
    refine br_t (lei_true.2 (by omega)) (br_split (fun h5 => ?_) (fun h5 => ?_))
    · rw [lei_true] at h5
      rw [if_pos (show room r.length (some a) = true from by simp only [room, decide_eq_true_eq]; omega)] at hK
      simp only [Option.getD_some, hereCh] at hK
      rw [show ((32 * s + 1 + a : Nat) : Int) = 32 * (s : Int) + 1 + a by omega, doCh_append] at hK
      obtain ⟨f1, f2⟩ := doCh_fuel ⟨ws, fu⟩ (burnCh (32 * (s : Int) + 1 + a + 1) r) c2 c3
      have l1 := doCh_len ⟨ws, fu⟩ (burnCh (32 * (s : Int) + 1 + a + 1) r)
      simp only at l1
      refine ⟨⟨c2, c3, by omega, by omega, c6⟩, nt_s (fun q1 => ?_) (fun q1 => ⟨⟨by omega, by omega⟩, ⟨f1, f2, by omega, by simp only [List.length_cons, List.length_nil]; omega, by omega⟩, nt_s (fun q2 => ?_) (fun q2 => ?_)⟩)⟩
      · rw [if_neg (by simp [q1])] at hK
        simpa only [power, q1, powerE] using hK
      · rw [if_pos q1] at hK
        simp only [power] at hK
        rw [show (doCh (doCh ⟨ws, fu⟩ (burnCh (32 * (s : Int) + 1 + a + 1) r)).1 (burnCh (32 * (s : Int) + 1 + a) [42240 + (r.length : Int)])).2 = false from q2] at hK
        exact hK
      · rw [if_pos q1] at hK
        simp only [power] at hK
        rw [show (doCh (doCh ⟨ws, fu⟩ (burnCh (32 * (s : Int) + 1 + a + 1) r)).1 (burnCh (32 * (s : Int) + 1 + a) [42240 + (r.length : Int)])).2 = true from q2] at hK
        exact hK
    · rw [lei_false] at h5
      rw [if_neg (show ¬ room r.length (some a) = true from by simp only [room, decide_eq_true_eq]; omega)] at hK
      refine eq_s (fun h5 => ?_) (fun h5 => ?_)
      · rw [if_pos h5] at hK; exact hK
      · rw [if_neg h5] at hK
        obtain ⟨t1, t2, t3, t4, t5, t6⟩ := hthere hK
        refine ⟨⟨c2, c3, t1.1, t1.2, c6⟩, nt_s t2 (fun q1 => ⟨t3, nt_s (t4 q1) (fun q2 => ⟨t5, nt_s (fun q3 => ?_) (fun q3 => ?_)⟩)⟩)⟩
        · have := t6 q1 q2; rw [q3] at this; exact this
        · have := t6 q1 q2; rw [q3] at this; exact this
theorem sound_log_Append : SoundC Tryz.prog tab n_log_Append c_log_Append := soundC_of ok_log_Append hf_log_Append hB_log_Append (by
  intro vs bs p v bs' h hp
  unfold c_log_Append at h
  split at h
  · cases h
    exact ⟨by kernel_rfl, rfl, .inl (run_log_Append _ _ _ _ hp.1 _ ⟨rfl, rfl⟩)⟩
  · cases h)

def c_unit_note : Contract := fun vs bs => match vs, bs with
  | [.one (.ptr 0 0), .one (.dat (.list .int) r)], [.box [.dat (.list .int) ws, .dat .int fu, .dat .bool up, .dat .int un, .dat .int ug]] => some (some (Sm r), .one (.dat .bool (noteU ⟨⟨ws, fu⟩, up, un, ug⟩ r).2), [.box [.dat (.list .int) (noteU ⟨⟨ws, fu⟩, up, un, ug⟩ r).1.f.words, .dat .int (noteU ⟨⟨ws, fu⟩, up, un, ug⟩ r).1.f.fuel, .dat .bool (noteU ⟨⟨ws, fu⟩, up, un, ug⟩ r).1.up, .dat .int (noteU ⟨⟨ws, fu⟩, up, un, ug⟩ r).1.n, .dat .int (noteU ⟨⟨ws, fu⟩, up, un, ug⟩ r).1.got]])
  | _, _ => none
def Γ_unit_note : Ctx := [(n_unit_of, c_unit_of), (n_unit_keep, c_unit_keep), (n_log_Append, c_log_Append), (n_unit_change, c_unit_change)]
theorem ok_unit_note : Ok Tryz.prog tab Γ_unit_note := ((((ok_nil.consC hf_unit_change hB_unit_change sound_unit_change).consC hf_log_Append hB_log_Append sound_log_Append).consC hf_unit_keep hB_unit_keep sound_unit_keep).consC hf_unit_of hB_unit_of sound_unit_of)
theorem unit_note_vc (ws : List Int) (fu : Int) (up : Bool) (un : Int) (ug : Int) (r : List Int) (rec : RK) (K : KK) v0 (hv0 : v0 = (ofU ⟨ws, fu⟩)) v1 (hv1 : v1 = (keepS v0.by_ v0.slot v0.ready)) v2 (hv2 : v2 = (smR v1)) v3 (hv3 : v3 = (appendF ⟨ws, fu⟩ r v1)) v4 (hv4 : v4 = (changeU ⟨⟨ws, fu⟩, up, un, ug⟩ ⟨v3.fst.words, v3.fst.fuel⟩ v3.snd)) : segD Γ_unit_note tab fn_unit_note 1 K rec [.code (bodyOf fn_unit_note)] (initSt [.one (.ptr 0 0), .one (dL r)] [.box [dL ws, dI fu, dB up, dI un, dI ug]]) = (
 (((List.length r) ≤ 140737488355328) ∧ ((((len v1) * 24) ≤ 140737488351232) ∧ (v2 = true))) ∧
 (K (.one (dB v4.snd)) [.box [dL v4.fst.f.words, dI v4.fst.f.fuel, dB v4.fst.up, dI v4.fst.n, dI v4.fst.got]])) := by subst_vars; kernel_rfl
theorem unit_note_w (m : Nat) (K : KK) (st : St) : goD Γ_unit_note tab fn_unit_note 1 K (m + 1) [.code (bodyOf fn_unit_note)] st = segD Γ_unit_note tab fn_unit_note 1 K (goD Γ_unit_note tab fn_unit_note 1 K m) [.code (bodyOf fn_unit_note)] st := rfl

set_option maxHeartbeats 4000000 in
theorem run_unit_note (ws : List Int) (fu : Int) (up : Bool) (un ug : Int) (r : List Int) (hp : Sm r) (K : KK) (hK : K (.one (dB (noteU ⟨⟨ws, fu⟩, up, un, ug⟩ r).2)) [.box [dL (noteU ⟨⟨ws, fu⟩, up, un, ug⟩ r).1.f.words, dI (noteU ⟨⟨ws, fu⟩, up, un, ug⟩ r).1.f.fuel, dB (noteU ⟨⟨ws, fu⟩, up, un, ug⟩ r).1.up, dI (noteU ⟨⟨ws, fu⟩, up, un, ug⟩ r).1.n, dI (noteU ⟨⟨ws, fu⟩, up, un, ug⟩ r).1.got]]) : ∃ m, goD Γ_unit_note tab fn_unit_note 1 K m [.code (bodyOf fn_unit_note)] (initSt [.one (.ptr 0 0), .one (dL r)] [.box [dL ws, dI fu, dB up, dI un, dI ug]]) := by
  refine ⟨1, ?_⟩
  rw [unit_note_w, unit_note_vc _ _ _ _ _ _ _ _ _ rfl _ rfl _ rfl _ rfl _ rfl]
  have h := keepS_sm (ofU ⟨ws, fu⟩).by_ (ofU ⟨ws, fu⟩).slot (ofU ⟨ws, fu⟩).ready
  exact ⟨⟨hp, by simp only [len]; omega, h.1⟩, hK⟩
theorem sound_unit_note : SoundC Tryz.prog tab n_unit_note c_unit_note := soundC_of ok_unit_note hf_unit_note hB_unit_note (by
  intro vs bs p v bs' h hp
  unfold c_unit_note at h
  split at h
  · cases h
    exact ⟨by kernel_rfl, rfl, .inl (run_unit_note _ _ _ _ _ _ hp.1 _ ⟨rfl, rfl⟩)⟩
  · cases h)

def c_slices_Equal_Lint : Contract := fun vs bs => match vs, bs with
  | [.one (.dat (.list .int) a), .one (.dat (.list .int) b)], [] => some (some (Sm a), .one (.dat .bool (eqIs a b)), [])
  | _, _ => none
def Γ_slices_Equal_Lint : Ctx := []
theorem ok_slices_Equal_Lint : Ok Tryz.prog tab Γ_slices_Equal_Lint := ok_nil
noncomputable def slices_Equal_Lint_L0 : List It := [.inLoop [13, 12, 4, 0, 1] (Code.sub (bodyOf fn_slices_Equal_Lint) [1, 1, 0, 1, 0, 0]), .inBlock 0, .code (Code.sub (bodyOf fn_slices_Equal_Lint) [1, 1, 1])]
def slices_Equal_Lint_S0 (x0 : Int) (x1 : Int) (x2 : Bool) (x3 : (List Int)) (x4 : (List Int)) : St := ⟨[(13, .one (dI x0)), (12, .one (dI x1)), (4, .one (dB x2)), (0, .one (dL x3)), (1, .one (dL x4))], [], 0⟩
theorem slices_Equal_Lint_vc (a : List Int) (b : List Int) (rec : RK) (K : KK) : segD Γ_slices_Equal_Lint tab fn_slices_Equal_Lint 0 K rec [.code (bodyOf fn_slices_Equal_Lint)] (initSt [.one (dL a), .one (dL b)] []) = (
 br (!(eqi (((len a) : Nat) : Int) (((len b) : Nat) : Int)))
 (K vF [])
 (rec slices_Equal_Lint_L0 (slices_Equal_Lint_S0 (0 : Int) (((len a) : Nat) : Int) false a b))) := by kernel_rfl
theorem slices_Equal_Lint_w (m : Nat) (K : KK) (st : St) : goD Γ_slices_Equal_Lint tab fn_slices_Equal_Lint 0 K (m + 1) [.code (bodyOf fn_slices_Equal_Lint)] st = segD Γ_slices_Equal_Lint tab fn_slices_Equal_Lint 0 K (goD Γ_slices_Equal_Lint tab fn_slices_Equal_Lint 0 K m) [.code (bodyOf fn_slices_Equal_Lint)] st := rfl
theorem slices_Equal_Lint_vc0 (x0 : Int) (x1 : Int) (x2 : Bool) (x3 : (List Int)) (x4 : (List Int)) (rec : RK) (K : KK) : segD Γ_slices_Equal_Lint tab fn_slices_Equal_Lint 0 K rec (.code (Code.sub (bodyOf fn_slices_Equal_Lint) [1, 1, 0, 1, 0, 0]) :: slices_Equal_Lint_L0) (slices_Equal_Lint_S0 x0 x1 x2 x3 x4) = (
 br (lti x0 x1)
 ((((0 : Int) ≤ x0) ∧ (x0 < (((len x3) : Nat) : Int))) ∧
 ((((0 : Int) ≤ x0) ∧ (x0 < (((len x4) : Nat) : Int))) ∧
 (br (!(eqi (nth x3 (Int.toNat x0) (Ty.dflt Ty.int)) (nth x4 (Int.toNat x0) (Ty.dflt Ty.int))))
 (K vF [])
 (rec slices_Equal_Lint_L0 (slices_Equal_Lint_S0 (w64 (x0 + (1 : Int))) x1 x2 x3 x4)))))
 (K vT [])) := by kernel_rfl
theorem slices_Equal_Lint_w0 (m : Nat) (K : KK) (st : St) : goD Γ_slices_Equal_Lint tab fn_slices_Equal_Lint 0 K (m + 1) slices_Equal_Lint_L0 st = segD Γ_slices_Equal_Lint tab fn_slices_Equal_Lint 0 K (goD Γ_slices_Equal_Lint tab fn_slices_Equal_Lint 0 K m) (.code (Code.sub (bodyOf fn_slices_Equal_Lint) [1, 1, 0, 1, 0, 0]) :: slices_Equal_Lint_L0) st := rfl

theorem loop_slices_Equal_Lint (a b : List Int) (hl : a.length = b.length) (hs : Sm a) (K : KK) (hK : K (.one (dB (eqIs a b))) []) : ∀ (d k : Nat), k + d = a.length → a.take k = b.take k →
    goD Γ_slices_Equal_Lint tab fn_slices_Equal_Lint 0 K (d + 1) slices_Equal_Lint_L0 (slices_Equal_Lint_S0 (k : Int) (((len a) : Nat) : Int) false a b)
  | 0, k, hk, he => by
    rw [slices_Equal_Lint_w0, slices_Equal_Lint_vc0 _ _ _ _ _ _ _]
    refine lt_f (by simp only [len]; omega) ?_
    rw [List.take_of_length_le (by omega), List.take_of_length_le (by omega)] at he
    rw [show eqIs a b = true from by simp [eqIs, he]] at hK
    exact hK
  | d + 1, k, hk, he => by
    unfold Sm at hs
    rw [slices_Equal_Lint_w0, slices_Equal_Lint_vc0 _ _ _ _ _ _ _]
    refine lt_t (by simp only [len]; omega) ⟨⟨by omega, by simp only [len]; omega⟩, ⟨by omega, by simp only [len]; omega⟩, ne_s (fun hne => ?_) (fun heq => ?_)⟩
    · rw [show eqIs a b = false from by simp only [eqIs, decide_eq_false_iff_not]; rintro rfl; exact hne rfl] at hK
      exact hK
    · rw [w64_succ (by omega)]
      refine loop_slices_Equal_Lint a b hl ‹Sm a› K hK d (k + 1) (by omega) ?_
      rw [take_step (by omega) (Ty.dflt Ty.int), take_step (by omega) (Ty.dflt Ty.int), he]
      rw [toNat_nat] at heq
      rw [heq]
set_option maxHeartbeats 4000000 in
theorem run_slices_Equal_Lint (a b : List Int) (hp : Sm a) (K : KK) (hK : K (.one (dB (eqIs a b))) []) : ∃ m, goD Γ_slices_Equal_Lint tab fn_slices_Equal_Lint 0 K m [.code (bodyOf fn_slices_Equal_Lint)] (initSt [.one (dL a), .one (dL b)] []) := by
  refine ⟨a.length + 2, ?_⟩
  rw [slices_Equal_Lint_w, slices_Equal_Lint_vc _ _ _ _]
  refine ne_s (fun h => ?_) (fun h => ?_)
  · rw [show eqIs a b = false from by simp only [eqIs, decide_eq_false_iff_not]; rintro rfl; exact h rfl] at hK
    exact hK
  · exact loop_slices_Equal_Lint a b (by simp only [len] at h; omega) hp K hK a.length 0 (by omega) rfl
theorem sound_slices_Equal_Lint : SoundC Tryz.prog tab n_slices_Equal_Lint c_slices_Equal_Lint := soundC_of ok_slices_Equal_Lint hf_slices_Equal_Lint hB_slices_Equal_Lint (by
  intro vs bs p v bs' h hp
  unfold c_slices_Equal_Lint at h
  split at h
  · cases h
    exact ⟨by kernel_rfl, rfl, .inl (run_slices_Equal_Lint _ _ hp.1 _ ⟨rfl, rfl⟩)⟩
  · cases h)
end Go.Proofs.YtlbppjmekiemiacGreatDoor
