/- What the functions of LogSays compute (part 1 of 2). No condition. -/
import Derived.Test.YtlbppjmekiemiabTab
import Derived.Test.YtlbppjmekiemiabSpec
import Derived.KernelRfl
import Derived.WalkKit
import Derived.Lib.Mul64
import Derived.Laws.Bits64b
import Derived.Shelf.Spec.SlicesGrow
/- math/bits.Mul: the whole product. Both factors are of 64 bits. -/
namespace Go.Proofs.Ytlbppjmekiemiab
open Go.RowKit Go.Lib Vm
namespace Mul64
theorem maskN (a : Nat) (ha : a < 18446744073709551616) : bits .and .u64 (a : Int) 4294967295 = ((a % 4294967296 : Nat) : Int) := by
  have h := bits_and_u64_nat a 4294967295 ha (by omega)
  have e : a &&& 4294967295 = a % 4294967296 := Nat.and_two_pow_sub_one_eq_mod a 32
  rw [e] at h
  exact h
theorem divN (a : Nat) : (a : Int) / 4294967296 = ((a / 4294967296 : Nat) : Int) := by omega
theorem mulN (a b : Nat) : (a : Int) * (b : Int) = ((a * b : Nat) : Int) := (Int.natCast_mul a b).symm
theorem addN (a b : Nat) : (a : Int) + (b : Int) = ((a + b : Nat) : Int) := (Int.natCast_add a b).symm
theorem wrapN (a : Nat) (ha : a < 18446744073709551616) : IntKind.u64.wrap (a : Int) = (a : Int) := by rw [IntKind.wrap_u64]; omega
theorem wrapM (a : Nat) : IntKind.u64.wrap (a : Int) = ((a % 18446744073709551616 : Nat) : Int) := by rw [IntKind.wrap_u64]; omega
end Mul64
set_option maxHeartbeats 1000000 in
theorem mul64_any (x y : Nat) (hx : x < 18446744073709551616) (hy : y < 18446744073709551616) (w : World) :
    Calls Try.prog 56 #[.int .u64 x, .int .u64 y] w fun e w' => e = .returned (.tuple #[.int .u64 ((x * y / 18446744073709551616 : Nat) : Int), .int .u64 ((x * y % 18446744073709551616 : Nat) : Int)]) ∧ w' = w := by
  obtain ⟨bd, bt, bw, hhi⟩ := Lib.mul64_hi x y hx hy
  have ba := Lib.half_mul_le (a := x / 4294967296) (b := y / 4294967296) (by omega) (by omega)
  have bb := Lib.half_mul_le (a := x / 4294967296) (b := y % 4294967296) (by omega) (by omega)
  have bc := Lib.half_mul_le (a := x % 4294967296) (b := y / 4294967296) (by omega) (by omega)
  have ba' : x / 4294967296 * (y / 4294967296) < 18446744073709551616 := by omega
  have bb' : x / 4294967296 * (y % 4294967296) < 18446744073709551616 := by omega
  have bc' : x % 4294967296 * (y / 4294967296) < 18446744073709551616 := by omega
  have bh1 : x / 4294967296 * (y / 4294967296) + (x / 4294967296 * (y % 4294967296) + x % 4294967296 * (y % 4294967296) / 4294967296) / 4294967296 < 18446744073709551616 := by omega
  have bh : x / 4294967296 * (y / 4294967296) + (x / 4294967296 * (y % 4294967296) + x % 4294967296 * (y % 4294967296) / 4294967296) / 4294967296 + ((x / 4294967296 * (y % 4294967296) + x % 4294967296 * (y % 4294967296) / 4294967296) % 4294967296 + x % 4294967296 * (y / 4294967296)) / 4294967296 < 18446744073709551616 := by omega
  go_enter Try.func56, Try.ntmps56
  go_wp2
  simp only [Mul64.maskN x hx, Mul64.maskN y hy, Mul64.divN, Mul64.mulN, Mul64.addN, Mul64.wrapN _ bd, Mul64.wrapN _ bb', Mul64.wrapN _ bt, Mul64.maskN _ bt, Mul64.wrapN _ bc', Mul64.wrapN _ bw, Mul64.wrapN _ ba', Mul64.wrapN _ bh1, Mul64.wrapN _ bh, Mul64.wrapM (x * y)]
  rw [hhi]
  go_ret2
  exact ⟨rfl, rfl⟩
set_option maxHeartbeats 1000000 in
theorem mul_any (x y : Nat) (hx : x < 18446744073709551616) (hy : y < 18446744073709551616) (w : World) :
    Calls Try.prog 54 #[.int .u64 x, .int .u64 y] w fun e w' => e = .returned (.tuple #[.int .u64 ((x * y / 18446744073709551616 : Nat) : Int), .int .u64 ((x * y % 18446744073709551616 : Nat) : Int)]) ∧ w' = w := by
  have c64 := mul64_any x y hx hy w
  go_enter Try.func54, Try.ntmps54
  go_wp2_with (go_at_call 56; refine c64.mono ?_; rintro e w' ⟨rfl, hw⟩; rw [hw])
  go_ret2
  exact ⟨rfl, rfl⟩
def c_math_bits_Mul : Contract := fun vs bs => match vs, bs with
  | [.one (.dat .u64 a), .one (.dat .u64 b)], [] => some (some (inU64 a = true ∧ inU64 b = true), .tup [.one (.dat .u64 ((a * b) / two64)), .one (.dat .u64 ((a * b) % two64))], [])
  | _, _ => none
theorem sound_math_bits_Mul : SoundC Try.prog tab n_math_bits_Mul c_math_bits_Mul := by
  intro vs bs p v bs' h hp w S μ xs I hx
  unfold c_math_bits_Mul at h
  split at h
  · cases h
    rename_i a b
    obtain ⟨⟨h1, h2⟩, _⟩ := hp
    simp only [inU64, Bool.and_eq_true, decide_eq_true_eq] at h1 h2
    obtain ⟨x, rfl⟩ := Int.eq_ofNat_of_zero_le h1.1
    obtain ⟨y, rfl⟩ := Int.eq_ofNat_of_zero_le h2.1
    match xs, hx with
    | [X, Y], ⟨g1, g2, _⟩ =>
      have e1 := rel_u64 g1
      have e2 := rel_u64 g2
      subst e1 e2
      refine (mul_any x y (by omega) (by omega) w).mono fun e w' ⟨he, hw⟩ => ?_
      subst hw he
      refine ⟨_, μ, S, rfl, Ext.refl, I, _, rfl, rfl, fun i u hu => ?_⟩
      match i, hu with
      | 0, hu => cases hu; exact ⟨_, rfl, mk_u64 _⟩
      | 1, hu => cases hu; exact ⟨_, rfl, mk_u64 _⟩
  · cases h
end Go.Proofs.Ytlbppjmekiemiab

/- slices.Grow of no list of changes: the shelf's contract, laid at this program. n is no less than 0. -/
namespace Go.Proofs.Ytlbppjmekiemiab
open Go.RowKit Go.Lib Vm Go.Shelf
def growC_ren : Go.Shelf.Ren := ⟨fun | 4 => 49 | n => n, fun | 22 => 56 | 25 => 60 | n => n, fun n => n⟩
theorem growC : Lays8.n4 Try.prog growC_ren := {
  mixed := by kernel_rfl
  f4 := ⟨Try.f49.name, by decide, Try.func49.trans (congrArg some (by kernel_rfl))⟩
  t0 := by kernel_rfl
  a0 := fun _ => by kernel_rfl
  z0 := fun _ => by kernel_rfl
  v0 := fun _ => by kernel_rfl
  t3 := by kernel_rfl
  a3 := fun _ => by kernel_rfl
  z3 := fun _ => by kernel_rfl
  v3 := fun _ => by kernel_rfl
  t4 := by kernel_rfl
  a4 := fun _ => by kernel_rfl
  z4 := fun _ => by kernel_rfl
  v4 := fun _ => by kernel_rfl
  t9 := by kernel_rfl
  a9 := fun _ => by kernel_rfl
  z9 := fun _ => by kernel_rfl
  v9 := fun _ => by kernel_rfl
  t20 := by kernel_rfl
  a20 := fun _ => by kernel_rfl
  z20 := fun _ => by kernel_rfl
  v20 := fun _ => by kernel_rfl
  t22 := by kernel_rfl
  a22 := fun _ => by kernel_rfl
  z22 := fun _ => by kernel_rfl
  v22 := fun _ => by kernel_rfl }
def c_slices_Grow_Lref_change : Contract := fun vs bs => match vs, bs with
  | [.one (.nil .change), .one (.dat .int n)], [] => some (some (0 ≤ n ∧ n ≤ 100000), .one (.own 0), [.arr .change []])
  | _, _ => none
theorem sound_slices_Grow_Lref_change : SoundC Try.prog tab n_slices_Grow_Lref_change c_slices_Grow_Lref_change := by
  intro vs bs p v bs' h hp w S μ xs I hx
  unfold c_slices_Grow_Lref_change at h
  split at h
  · cases h
    rename_i n
    obtain ⟨⟨h1, h2⟩, _⟩ := hp
    obtain ⟨k, rfl⟩ := Int.eq_ofNat_of_zero_le h1
    have h2 : (k : Int) ≤ 100000 := h2
    match xs, hx with
    | [X, Y], ⟨g1, g2, _⟩ =>
      have e1 : X = .slice none 0 0 := g1.2
      have e2 := rel_int g2
      subst e1 e2
      have hm : memL ([] : List Blk) 0 = none := rfl
      have hml : memU [(0, Blk.arr .change [])] (memL []) = memL [.arr .change []] := by
        funext q
        by_cases e : q = 0
        · subst e; rfl
        · rw [memU_ne e]
          cases q with
          | zero => exact absurd rfl e
          | succ q => rfl
      by_cases hk : k = 0
      · subst hk
        refine (Any8.slices_Grow_room growC none 0 0 0 w (by omega) (by omega) (by omega) (by omega)).mono fun e w' ⟨he, hw⟩ => ?_
        subst hw he
        obtain ⟨E, I'⟩ := name_EI (t := .change) I hm
        rw [hml] at E I'
        exact ⟨_, _, S, rfl, E, I', rfl, (fun h => by cases h), fun _ _ _ => muU_eq⟩
      · obtain ⟨ti, ht, hkk, hby⟩ : ∃ ti, tyAt tab 56 = some ti ∧ ti.isSlice .change = true ∧ ti.bytes = 16 := ⟨_, rfl, rfl, rfl⟩
        obtain ⟨e, i, z, hs⟩ := und_slice tab_ok ht hkk
        have he : e = 60 := by
          have h1 := hs.und
          have h2 : Try.prog.underlying 56 = some (.slice 60) := growC.t22
          rw [h2] at h1
          cases h1; rfl
        subst he
        have hw2 : Ty.width .change = 2 := rfl
        refine (Any8.slices_Grow_grow growC i z hs.info hs.zero (by rw [hs.size]; decide) none 0 0 k [] w (by omega) (by omega) (by rw [hs.bytes, hby]; omega) (by omega) (by simp) (fun _ => rfl) (fun a h => by cases h)).mono fun e w' ⟨he, hw⟩ => ?_
        have hge := grownCap_ge w (0 + k) 0 (growC_ren.t 25)
        have hgm := grownCap_le_maxLen w (0 + k) 0 (growC_ren.t 25) (by unfold maxLen; omega)
        generalize grownCap w (0 + k) 0 (growC_ren.t 25) = G at he hw hge hgm
        generalize hcur : (([] : List Value).toArray ++ Builtin.zeroCells z.cells (0 + k - 0) ++ Builtin.zeroCells z.cells (G - (0 + k))) = cur at hw
        have hcsz : cur.size = G * 2 := by
          subst hcur
          simp only [Array.size_append, List.size_toArray, List.length_nil, size_zeroCells, hs.zs, hw2]
          omega
        subst hw he
        have hl : (Loc.ar (.slice (some (at0 w.heap.size 0)) 0 G)).block = some w.drew.heap.size ∨ (Loc.ar (.slice (some (at0 w.heap.size 0)) 0 G)).block = none := .inl rfl
        have Ed : Ext μ (memL []) w S μ (memL []) w.drew S := ⟨fun _ h => h, (Ext.refl (μ := μ) (mem := memL []) (w := w) (S := S)).kinds, fun _ h => h, Nat.le_refl _, fun _ _ _ => rfl, fun _ h => .inl h, fun _ h => .inl h, rfl, rfl, rfl⟩
        have Id : Inv tab μ (memL []) w.drew S := ⟨fun q B h1 h2 => by obtain ⟨l', e1, e2⟩ := I.rel q B h1 h2; exact ⟨l', e1, e2.ext Ed I fun _ _ => rfl⟩, I.inj, I.sep, I.lt⟩
        have E1 := alloc_E (μ := μ) (S := S) (w := w.drew) (o := .cells cur (growC_ren.t 25)) (B := .arr .change []) hm hl
        have I1 := alloc_I (o := .cells cur (growC_ren.t 25)) (B := .arr .change []) hm hl Id
          (.inr ⟨w.heap.size, G, cur, growC_ren.t 25, rfl, heap_alloc_new w.drew _, Nat.zero_le _, hgm, by rw [hcsz, hw2]; exact Nat.le_refl _, fun i j c hi => by cases hi⟩)
        rw [hml] at E1 I1
        exact ⟨_, _, S, rfl, Ed.trans E1, I1, rfl, (fun h => by cases h), fun _ _ _ => muU_eq⟩
  · cases h
end Go.Proofs.Ytlbppjmekiemiab
namespace Go.Proofs.Ytlbppjmekiemiab
open Vm
def c_ref_OwnFlash : Contract := fun vs bs => match vs, bs with
  | [.agg [.dat (.list .int) ws, .dat .int fu]], [] => some (some (len ws * 8 ≤ 140737488355328), .agg [.own 0, .dat .int fu], [.arr .int ws])
  | _, _ => none
def Γ_ref_OwnFlash : Ctx := []
theorem ok_ref_OwnFlash : Ok Try.prog tab Γ_ref_OwnFlash := ok_nil
theorem ref_OwnFlash_vc (ws : List Int) (fu : Int) (rec : List It → St → Prop) (K : V → List Blk → Prop) : segO Γ_ref_OwnFlash tab fn_ref_OwnFlash 0 K rec [.code (bodyOf fn_ref_OwnFlash)] (initSt [.agg [.dat (Ty.list Ty.int) ws, .dat Ty.int fu]] []) = (
    (((0 + (len ws)) * 8) ≤ 140737488355328) ∧
    (K (.agg [.own 0, .dat Ty.int fu]) [.arr Ty.int (cat [] ws)])) := by kernel_rfl
theorem ref_OwnFlash_w (ws : List Int) (fu : Int) (m : Nat) (K : V → List Blk → Prop) : goO Γ_ref_OwnFlash tab fn_ref_OwnFlash 0 K (m + 1) [.code (bodyOf fn_ref_OwnFlash)] (initSt [.agg [.dat (Ty.list Ty.int) ws, .dat Ty.int fu]] []) = segO Γ_ref_OwnFlash tab fn_ref_OwnFlash 0 K (goO Γ_ref_OwnFlash tab fn_ref_OwnFlash 0 K m) [.code (bodyOf fn_ref_OwnFlash)] (initSt [.agg [.dat (Ty.list Ty.int) ws, .dat Ty.int fu]] []) := rfl

set_option maxHeartbeats 4000000 in
theorem run_ref_OwnFlash (ws : List Int) (fu : Int) (hp : len ws * 8 ≤ 140737488355328) (K : V → List Blk → Prop) (hK : K (.agg [.own 0, .dat .int fu]) [.arr .int ws]) : ∃ m, goO Γ_ref_OwnFlash tab fn_ref_OwnFlash 0 K m [.code (bodyOf fn_ref_OwnFlash)] (initSt [.agg [.dat (.list .int) ws, .dat .int fu]] []) := by
  refine ⟨1, ?_⟩
  rw [ref_OwnFlash_w, ref_OwnFlash_vc _ _ _ _]
  exact ⟨by omega, hK⟩
theorem sound_ref_OwnFlash : SoundC Try.prog tab n_ref_OwnFlash c_ref_OwnFlash := soundC_of ok_ref_OwnFlash hf_ref_OwnFlash hB_ref_OwnFlash (by
  intro vs bs p v bs' h hp
  unfold c_ref_OwnFlash at h
  split at h
  · cases h
    exact ⟨by kernel_rfl, rfl, .inr (run_ref_OwnFlash _ _ hp.1 _ ⟨rfl, rfl⟩)⟩
  · cases h)

def c_flash_Check : Contract := fun vs bs => match vs, bs with
  | [.agg [.dat (.list .int) ws, .dat .int fu]], [] => some (none, .one (.dat .int (checkFlash ⟨ws, fu⟩)), [])
  | _, _ => none
def Γ_flash_Check : Ctx := []
theorem ok_flash_Check : Ok Try.prog tab Γ_flash_Check := ok_nil
noncomputable def flash_Check_L0 : List It := [.inLoop [31, 30, 29, 2] (Code.sub (bodyOf fn_flash_Check) [1, 1, 1, 0, 1, 0, 0]), .inBlock 0, .code (Code.sub (bodyOf fn_flash_Check) [1, 1, 1, 1])]
def flash_Check_S0 (x0 : Int) (x1 : Int) (x2 : (List Int)) (x3 : Int) : St := ⟨[(31, .one (.dat Ty.int x0)), (30, .one (.dat Ty.int x1)), (29, .one (.dat (Ty.list Ty.int) x2)), (2, .one (.dat Ty.int x3))], [], 0⟩
theorem flash_Check_vc (ws : List Int) (fu : Int) (rec : List It → St → Prop) (K : V → List Blk → Prop) : segD Γ_flash_Check tab fn_flash_Check 0 K rec [.code (bodyOf fn_flash_Check)] (initSt [.agg [.dat (Ty.list Ty.int) ws, .dat Ty.int fu]] []) = (
    br (eqi (((len ws) : Nat) : Int) (0 : Int))
     (K (.one (.dat Ty.int (4 : Int))) [])
     (((32 : Int) ≠ (0 : Int)) ∧
      (br (!(eqi (Int.tmod (((len ws) : Nat) : Int) (32 : Int)) (0 : Int)))
       (K (.one (.dat Ty.int (4 : Int))) [])
       (br (lti (192 : Int) (((len ws) : Nat) : Int))
         (K (.one (.dat Ty.int (4 : Int))) [])
         (br (lti fu (-(1 : Int)))
           (K (.one (.dat Ty.int (3 : Int))) [])
           (br (lti (100000 : Int) fu)
             (K (.one (.dat Ty.int (3 : Int))) [])
             (rec flash_Check_L0 (flash_Check_S0 (0 : Int) (((len ws) : Nat) : Int) ws (0 : Int))))))))) := by kernel_rfl
theorem flash_Check_w (ws : List Int) (fu : Int) (m : Nat) (K : V → List Blk → Prop) : goD Γ_flash_Check tab fn_flash_Check 0 K (m + 1) [.code (bodyOf fn_flash_Check)] (initSt [.agg [.dat (Ty.list Ty.int) ws, .dat Ty.int fu]] []) = segD Γ_flash_Check tab fn_flash_Check 0 K (goD Γ_flash_Check tab fn_flash_Check 0 K m) [.code (bodyOf fn_flash_Check)] (initSt [.agg [.dat (Ty.list Ty.int) ws, .dat Ty.int fu]] []) := rfl
theorem flash_Check_vc0 (x0 : Int) (x1 : Int) (x2 : (List Int)) (x3 : Int) (rec : List It → St → Prop) (K : V → List Blk → Prop) : segD Γ_flash_Check tab fn_flash_Check 0 K rec (.code (Code.sub (bodyOf fn_flash_Check) [1, 1, 1, 0, 1, 0, 0]) :: flash_Check_L0) (flash_Check_S0 x0 x1 x2 x3) = (
    br (lti x0 x1)
     ((((0 : Int) ≤ x0) ∧ (x0 < (((len x2) : Nat) : Int))) ∧
      (br (lti (nth x2 (Int.toNat x0) (Ty.dflt Ty.int)) (0 : Int))
       (K (.one (.dat Ty.int (3 : Int))) [])
       (br (lti (65535 : Int) (nth x2 (Int.toNat x0) (Ty.dflt Ty.int)))
         (K (.one (.dat Ty.int (3 : Int))) [])
         (rec flash_Check_L0 (flash_Check_S0 (w64 (x0 + (1 : Int))) x1 x2 x3)))))
     (K (.one (.dat Ty.int (0 : Int))) [])) := by kernel_rfl
theorem flash_Check_w0 (x0 : Int) (x1 : Int) (x2 : (List Int)) (x3 : Int) (m : Nat) (K : V → List Blk → Prop) : goD Γ_flash_Check tab fn_flash_Check 0 K (m + 1) flash_Check_L0 (flash_Check_S0 x0 x1 x2 x3) = segD Γ_flash_Check tab fn_flash_Check 0 K (goD Γ_flash_Check tab fn_flash_Check 0 K m) (.code (Code.sub (bodyOf fn_flash_Check) [1, 1, 1, 0, 1, 0, 0]) :: flash_Check_L0) (flash_Check_S0 x0 x1 x2 x3) := rfl

theorem loop_flash_Check (ws : List Int) (hl : ws.length ≤ 192) (K : V → List Blk → Prop) (hK : K (.one (.dat .int (if okWords ws then 0 else 3))) []) : ∀ (d k : Nat), k + d = ws.length → okWords (ws.take k) = true →
    goD Γ_flash_Check tab fn_flash_Check 0 K (d + 1) flash_Check_L0 (flash_Check_S0 (k : Int) (((len ws) : Nat) : Int) ws (0 : Int))
  | 0, k, hk, he => by
    rw [flash_Check_w0, flash_Check_vc0 _ _ _ _ _ _]
    refine lt_f (by simp only [len]; omega) ?_
    rw [List.take_of_length_le (by omega)] at he
    rw [if_pos he] at hK
    exact hK
  | d + 1, k, hk, he => by
    rw [flash_Check_w0, flash_Check_vc0 _ _ _ _ _ _]
    have bad : okWord (nth ws k (Ty.dflt Ty.int)) = false → K (.one (.dat .int 3)) [] := fun h => by
      rw [show okWords ws = false from all_false (k := k) (by omega) _ h] at hK; exact hK
    refine lt_t (by simp only [len]; omega) ⟨⟨by omega, by simp only [len]; omega⟩, lt_s (fun h => ?_) (fun h => lt_s (fun h2 => ?_) (fun h2 => ?_))⟩
    · rw [toNat_nat] at h
      exact bad (by simp only [okWord, Bool.and_eq_false_iff, decide_eq_false_iff_not]; exact .inl (by omega))
    · rw [toNat_nat] at h2
      exact bad (by simp only [okWord, Bool.and_eq_false_iff, decide_eq_false_iff_not]; exact .inr (by omega))
    · rw [w64_succ (by omega)]
      rw [toNat_nat] at h h2
      exact loop_flash_Check ws hl K hK d (k + 1) (by omega) (all_take_step (by omega) (Ty.dflt Ty.int) he (by simp [okWord, h, h2]))
set_option maxHeartbeats 4000000 in
theorem run_flash_Check (ws : List Int) (fu : Int) (K : V → List Blk → Prop) (hK : K (.one (.dat .int (checkFlash ⟨ws, fu⟩))) []) : ∃ m, goD Γ_flash_Check tab fn_flash_Check 0 K m [.code (bodyOf fn_flash_Check)] (initSt [.agg [.dat (.list .int) ws, .dat .int fu]] []) := by
  refine ⟨ws.length + 2, ?_⟩
  rw [flash_Check_w, flash_Check_vc _ _ _ _]
  have four : okLen ws.length = false → K (.one (.dat .int 4)) [] := fun h => by
    rw [show checkFlash ⟨ws, fu⟩ = 4 from by simp [checkFlash, h]] at hK; exact hK
  refine eq_s (fun h => four ?_) (fun h => ⟨by decide, ne_s (fun h2 => four ?_) (fun h2 => lt_s (fun h3 => four ?_) (fun h3 => ?_))⟩)
  · simp only [len] at h; simp [okLen]; omega
  · simp only [len] at h2; rw [Int.tmod_eq_emod_of_nonneg (by omega)] at h2; simp [okLen]; omega
  · simp only [len] at h3; simp [okLen]; omega
  · have hlen : okLen ws.length = true := by simp only [len] at h h2 h3; rw [Int.tmod_eq_emod_of_nonneg (by omega)] at h2; simp [okLen]; omega
    have three : (decide (-1 ≤ fu) && decide (fu ≤ 100000)) = false → K (.one (.dat .int 3)) [] := fun h => by
      rw [show checkFlash ⟨ws, fu⟩ = 3 from by simp [checkFlash, hlen, h]] at hK; exact hK
    refine lt_s (fun h4 => three ?_) (fun h4 => lt_s (fun h5 => three ?_) (fun h5 => ?_))
    · simp; omega
    · simp; omega
    · refine loop_flash_Check ws (by simp only [len] at h3; omega) K ?_ ws.length 0 (by omega) rfl
      rw [show checkFlash ⟨ws, fu⟩ = if okWords ws then 0 else 3 from by simp [checkFlash, hlen, h4, h5]] at hK
      exact hK
theorem sound_flash_Check : SoundC Try.prog tab n_flash_Check c_flash_Check := soundC_of ok_flash_Check hf_flash_Check hB_flash_Check (by
  intro vs bs p v bs' h hp
  unfold c_flash_Check at h
  split at h
  · cases h
    exact ⟨by kernel_rfl, rfl, .inl (run_flash_Check _ _ _ ⟨rfl, rfl⟩)⟩
  · cases h)

def c_slices_Clone_Lint : Contract := fun vs bs => match vs, bs with
  | [.one (.dat (.list .int) l)], [] => some (some (len l * 8 ≤ 140737488355328), .one (.own 0), [.arr .int l])
  | _, _ => none
def Γ_slices_Clone_Lint : Ctx := []
theorem ok_slices_Clone_Lint : Ok Try.prog tab Γ_slices_Clone_Lint := ok_nil
theorem slices_Clone_Lint_vc (l : List Int) (rec : List It → St → Prop) (K : V → List Blk → Prop) : segO Γ_slices_Clone_Lint tab fn_slices_Clone_Lint 0 K rec [.code (bodyOf fn_slices_Clone_Lint)] (initSt [.one (.dat (Ty.list Ty.int) l)] []) = (
    (∀ bn : Bool, (((bn = true) → ((len l) = 0)) → br bn
       (K (.one (.own 0)) [.arr Ty.int []])
       ((((0 + (len l)) * 8) ≤ 140737488355328) ∧
        (K (.one (.own 0)) [.arr Ty.int (cat [] l)]))))) := by kernel_rfl
theorem slices_Clone_Lint_w (l : List Int) (m : Nat) (K : V → List Blk → Prop) : goO Γ_slices_Clone_Lint tab fn_slices_Clone_Lint 0 K (m + 1) [.code (bodyOf fn_slices_Clone_Lint)] (initSt [.one (.dat (Ty.list Ty.int) l)] []) = segO Γ_slices_Clone_Lint tab fn_slices_Clone_Lint 0 K (goO Γ_slices_Clone_Lint tab fn_slices_Clone_Lint 0 K m) [.code (bodyOf fn_slices_Clone_Lint)] (initSt [.one (.dat (Ty.list Ty.int) l)] []) := rfl

set_option maxHeartbeats 4000000 in
theorem run_slices_Clone_Lint (l : List Int) (hp : len l * 8 ≤ 140737488355328) (K : V → List Blk → Prop) (hK : K (.one (.own 0)) [.arr .int l]) : ∃ m, goO Γ_slices_Clone_Lint tab fn_slices_Clone_Lint 0 K m [.code (bodyOf fn_slices_Clone_Lint)] (initSt [.one (.dat (.list .int) l)] []) := by
  refine ⟨1, ?_⟩
  rw [slices_Clone_Lint_w, slices_Clone_Lint_vc _ _ _]
  intro bn hb
  refine br_split (fun h => ?_) (fun h => ⟨by simp only [len] at hp ⊢; omega, hK⟩)
  have : l = [] := List.length_eq_zero_iff.1 (hb h)
  subst this
  exact hK
theorem sound_slices_Clone_Lint : SoundC Try.prog tab n_slices_Clone_Lint c_slices_Clone_Lint := soundC_of ok_slices_Clone_Lint hf_slices_Clone_Lint hB_slices_Clone_Lint (by
  intro vs bs p v bs' h hp
  unfold c_slices_Clone_Lint at h
  split at h
  · cases h
    exact ⟨by kernel_rfl, rfl, .inr (run_slices_Clone_Lint _ hp.1 _ ⟨rfl, rfl⟩)⟩
  · cases h)

def c_flash_Copy : Contract := fun vs bs => match vs, bs with
  | [.agg [.dat (.list .int) ws, .dat .int fu]], [] => some (some (len ws * 8 ≤ 140737488355328), .agg [.own 0, .dat .int fu], [.arr .int ws])
  | _, _ => none
def Γ_flash_Copy : Ctx := [(n_slices_Clone_Lint, c_slices_Clone_Lint)]
theorem ok_flash_Copy : Ok Try.prog tab Γ_flash_Copy := (ok_nil.consC hf_slices_Clone_Lint hB_slices_Clone_Lint sound_slices_Clone_Lint)
theorem flash_Copy_vc (ws : List Int) (fu : Int) (rec : List It → St → Prop) (K : V → List Blk → Prop) : segO Γ_flash_Copy tab fn_flash_Copy 0 K rec [.code (bodyOf fn_flash_Copy)] (initSt [.agg [.dat (Ty.list Ty.int) ws, .dat Ty.int fu]] []) = (
    (((len ws) * 8) ≤ 140737488355328) ∧
    (K (.agg [.own 0, .dat Ty.int fu]) [.arr Ty.int ws])) := by kernel_rfl
theorem flash_Copy_w (ws : List Int) (fu : Int) (m : Nat) (K : V → List Blk → Prop) : goO Γ_flash_Copy tab fn_flash_Copy 0 K (m + 1) [.code (bodyOf fn_flash_Copy)] (initSt [.agg [.dat (Ty.list Ty.int) ws, .dat Ty.int fu]] []) = segO Γ_flash_Copy tab fn_flash_Copy 0 K (goO Γ_flash_Copy tab fn_flash_Copy 0 K m) [.code (bodyOf fn_flash_Copy)] (initSt [.agg [.dat (Ty.list Ty.int) ws, .dat Ty.int fu]] []) := rfl

set_option maxHeartbeats 4000000 in
theorem run_flash_Copy (ws : List Int) (fu : Int) (hp : len ws * 8 ≤ 140737488355328) (K : V → List Blk → Prop) (hK : K (.agg [.own 0, .dat .int fu]) [.arr .int ws]) : ∃ m, goO Γ_flash_Copy tab fn_flash_Copy 0 K m [.code (bodyOf fn_flash_Copy)] (initSt [.agg [.dat (.list .int) ws, .dat .int fu]] []) := by
  refine ⟨1, ?_⟩
  rw [flash_Copy_w, flash_Copy_vc _ _ _ _]
  exact ⟨hp, hK⟩
theorem sound_flash_Copy : SoundC Try.prog tab n_flash_Copy c_flash_Copy := soundC_of ok_flash_Copy hf_flash_Copy hB_flash_Copy (by
  intro vs bs p v bs' h hp
  unfold c_flash_Copy at h
  split at h
  · cases h
    exact ⟨by kernel_rfl, rfl, .inr (run_flash_Copy _ _ hp.1 _ ⟨rfl, rfl⟩)⟩
  · cases h)

def c_flash_burn : Contract := fun vs bs => match vs, bs with
  | [.one (.ptr 0 0)], [.box [.own 1, .dat .int fu], .arr .int ws] => some (some (fu ≤ 100000), .one (.dat .bool (!eqi fu 0)), [.box [.own 1, .dat .int (burnFuel fu)], .arr .int ws])
  | _, _ => none
def Γ_flash_burn : Ctx := []
theorem ok_flash_burn : Ok Try.prog tab Γ_flash_burn := ok_nil
theorem flash_burn_vc (ws : List Int) (fu : Int) (rec : List It → St → Prop) (K : V → List Blk → Prop) : segD Γ_flash_burn tab fn_flash_burn 2 K rec [.code (bodyOf fn_flash_burn)] (initSt [.one (.ptr 0 0)] [.box [.own 1, .dat Ty.int fu], .arr Ty.int ws]) = (
    br (eqi fu (0 : Int))
     (K (.one (.dat Ty.bool false)) [.box [.own 1, .dat Ty.int fu], .arr Ty.int ws])
     (br (lti (0 : Int) fu)
       (K (.one (.dat Ty.bool true)) [.box [.own 1, .dat Ty.int (w64 (fu - (1 : Int)))], .arr Ty.int ws])
       (K (.one (.dat Ty.bool true)) [.box [.own 1, .dat Ty.int fu], .arr Ty.int ws]))) := by kernel_rfl
theorem flash_burn_w (ws : List Int) (fu : Int) (m : Nat) (K : V → List Blk → Prop) : goD Γ_flash_burn tab fn_flash_burn 2 K (m + 1) [.code (bodyOf fn_flash_burn)] (initSt [.one (.ptr 0 0)] [.box [.own 1, .dat Ty.int fu], .arr Ty.int ws]) = segD Γ_flash_burn tab fn_flash_burn 2 K (goD Γ_flash_burn tab fn_flash_burn 2 K m) [.code (bodyOf fn_flash_burn)] (initSt [.one (.ptr 0 0)] [.box [.own 1, .dat Ty.int fu], .arr Ty.int ws]) := rfl

set_option maxHeartbeats 4000000 in
theorem run_flash_burn (ws : List Int) (fu : Int) (hp : fu ≤ 100000) (K : V → List Blk → Prop) (hK : K (.one (.dat .bool (!eqi fu 0))) [.box [.own 1, .dat .int (burnFuel fu)], .arr .int ws]) : ∃ m, goD Γ_flash_burn tab fn_flash_burn 2 K m [.code (bodyOf fn_flash_burn)] (initSt [.one (.ptr 0 0)] [.box [.own 1, .dat .int fu], .arr .int ws]) := by
  refine ⟨1, ?_⟩
  rw [flash_burn_w, flash_burn_vc _ _ _ _]
  refine eq_s (fun h => ?_) (fun h => lt_s (fun h2 => ?_) (fun h2 => ?_))
  · rw [show (!eqi fu 0) = false from by simp [eqi, h], show burnFuel fu = fu from by simp [burnFuel, h]] at hK; exact hK
  · rw [show (!eqi fu 0) = true from by simp [eqi, h], show burnFuel fu = fu - 1 from by simp [burnFuel, h2]] at hK
    rw [w64_id (by omega) (by omega)]; exact hK
  · rw [show (!eqi fu 0) = true from by simp [eqi, h], show burnFuel fu = fu from by simp only [burnFuel]; rw [if_neg (by omega)]] at hK; exact hK
theorem sound_flash_burn : SoundC Try.prog tab n_flash_burn c_flash_burn := soundC_of ok_flash_burn hf_flash_burn hB_flash_burn (by
  intro vs bs p v bs' h hp
  unfold c_flash_burn at h
  split at h
  · cases h
    exact ⟨by kernel_rfl, rfl, .inl (run_flash_burn _ _ hp.1 _ ⟨rfl, rfl⟩)⟩
  · cases h)

def c_flash_Wipe : Contract := fun vs bs => match vs, bs with
  | [.one (.ptr 0 0), .one (.dat .int sector)], [.box [.own 1, .dat .int fu], .arr .int ws] => some (some (-1 ≤ fu ∧ fu ≤ 100000 ∧ 0 ≤ sector ∧ (sector + 1) * 32 ≤ (len ws : Nat) ∧ len ws ≤ 192), .one (.dat .bool (doCh ⟨ws, fu⟩ (wipeCh sector)).2), [.box [.own 1, .dat .int (doCh ⟨ws, fu⟩ (wipeCh sector)).1.fuel], .arr .int (doCh ⟨ws, fu⟩ (wipeCh sector)).1.words])
  | _, _ => none
def Γ_flash_Wipe : Ctx := [(n_flash_burn, c_flash_burn)]
theorem ok_flash_Wipe : Ok Try.prog tab Γ_flash_Wipe := (ok_nil.consC hf_flash_burn hB_flash_burn sound_flash_burn)
noncomputable def flash_Wipe_L0 : List It := [.inLoop [6, 4, 0, 1] (Code.sub (bodyOf fn_flash_Wipe) [1, 0, 1, 0, 0]), .inBlock 0, .code (Code.sub (bodyOf fn_flash_Wipe) [1, 1])]
def flash_Wipe_S0 (x0 : Int) (x1 : Bool) (x2 : Int) (x3 : Int) (x4 : (List Int)) : St := ⟨[(6, .one (.dat Ty.int x0)), (4, .one (.dat Ty.bool x1)), (0, .one (.ptr 0 0)), (1, .one (.dat Ty.int x2))], [(0, .box [.own 1, .dat Ty.int x3]), (1, .arr Ty.int x4)], 2⟩
theorem flash_Wipe_vc (ws : List Int) (fu : Int) (sector : Int) (rec : List It → St → Prop) (K : V → List Blk → Prop) : segD Γ_flash_Wipe tab fn_flash_Wipe 2 K rec [.code (bodyOf fn_flash_Wipe)] (initSt [.one (.ptr 0 0), .one (.dat Ty.int sector)] [.box [.own 1, .dat Ty.int fu], .arr Ty.int ws]) = (
    rec flash_Wipe_L0 (flash_Wipe_S0 (0 : Int) false sector fu ws)) := by kernel_rfl
theorem flash_Wipe_w (ws : List Int) (fu : Int) (sector : Int) (m : Nat) (K : V → List Blk → Prop) : goD Γ_flash_Wipe tab fn_flash_Wipe 2 K (m + 1) [.code (bodyOf fn_flash_Wipe)] (initSt [.one (.ptr 0 0), .one (.dat Ty.int sector)] [.box [.own 1, .dat Ty.int fu], .arr Ty.int ws]) = segD Γ_flash_Wipe tab fn_flash_Wipe 2 K (goD Γ_flash_Wipe tab fn_flash_Wipe 2 K m) [.code (bodyOf fn_flash_Wipe)] (initSt [.one (.ptr 0 0), .one (.dat Ty.int sector)] [.box [.own 1, .dat Ty.int fu], .arr Ty.int ws]) := rfl
theorem flash_Wipe_vc0 (x0 : Int) (x1 : Bool) (x2 : Int) (x3 : Int) (x4 : (List Int)) (rec : List It → St → Prop) (K : V → List Blk → Prop) v0 (hv0 : v0 = (burnFuel x3)) : segD Γ_flash_Wipe tab fn_flash_Wipe 2 K rec (.code (Code.sub (bodyOf fn_flash_Wipe) [1, 0, 1, 0, 0]) :: flash_Wipe_L0) (flash_Wipe_S0 x0 x1 x2 x3 x4) = (
    br (lti x0 (32 : Int))
     ((x3 ≤ (100000 : Int)) ∧
      (br (!(!(eqi x3 (0 : Int))))
       (K (.one (.dat Ty.bool false)) [.box [.own 1, .dat Ty.int v0], .arr Ty.int x4])
       ((((0 : Int) ≤ (w64 ((w64 (x2 * (32 : Int))) + x0))) ∧ ((w64 ((w64 (x2 * (32 : Int))) + x0)) < (((len x4) : Nat) : Int))) ∧
        (((Int.toNat (w64 ((w64 (x2 * (32 : Int))) + x0))) < (len x4)) ∧
        (rec flash_Wipe_L0 (flash_Wipe_S0 (w64 (x0 + (1 : Int))) x1 x2 v0 (setAt x4 (Int.toNat (w64 ((w64 (x2 * (32 : Int))) + x0))) (65535 : Int))))))))
     (K (.one (.dat Ty.bool true)) [.box [.own 1, .dat Ty.int x3], .arr Ty.int x4])) := by subst hv0; kernel_rfl
theorem flash_Wipe_w0 (x0 : Int) (x1 : Bool) (x2 : Int) (x3 : Int) (x4 : (List Int)) (m : Nat) (K : V → List Blk → Prop) : goD Γ_flash_Wipe tab fn_flash_Wipe 2 K (m + 1) flash_Wipe_L0 (flash_Wipe_S0 x0 x1 x2 x3 x4) = segD Γ_flash_Wipe tab fn_flash_Wipe 2 K (goD Γ_flash_Wipe tab fn_flash_Wipe 2 K m) (.code (Code.sub (bodyOf fn_flash_Wipe) [1, 0, 1, 0, 0]) :: flash_Wipe_L0) (flash_Wipe_S0 x0 x1 x2 x3 x4) := rfl

theorem loop_flash_Wipe (sector : Int) (hs : 0 ≤ sector) (K : V → List Blk → Prop) : ∀ (n : Nat) (ws : List Int) (fu : Int), n ≤ 32 → -1 ≤ fu → fu ≤ 100000 → (sector + 1) * 32 ≤ (ws.length : Nat) → ws.length ≤ 192 →
    K (.one (.dat .bool (doCh ⟨ws, fu⟩ (wipeFrom (32 * sector + (32 - n)) n)).2)) [.box [.own 1, .dat .int (doCh ⟨ws, fu⟩ (wipeFrom (32 * sector + (32 - n)) n)).1.fuel], .arr .int (doCh ⟨ws, fu⟩ (wipeFrom (32 * sector + (32 - n)) n)).1.words] →
    goD Γ_flash_Wipe tab fn_flash_Wipe 2 K (n + 1) flash_Wipe_L0 (flash_Wipe_S0 (32 - n) false sector fu ws)
  | 0, ws, fu, hn, h1, h2, h3, h4, hK => by
    rw [flash_Wipe_w0, flash_Wipe_vc0 _ _ _ _ _ _ _ _ rfl]
    refine lt_f (by omega) ?_
    simp only [wipeFrom, doCh_nil] at hK
    exact hK
  | n + 1, ws, fu, hn, h1, h2, h3, h4, hK => by
    rw [flash_Wipe_w0, flash_Wipe_vc0 _ _ _ _ _ _ _ _ rfl]
    have e1 : w64 ((w64 (sector * 32)) + (32 - ((n + 1 : Nat) : Int))) = 32 * sector + (32 - ((n + 1 : Nat) : Int)) := by
      rw [w64_id (n := sector * 32) (by omega) (by omega), w64_id (by omega) (by omega)]; omega
    rw [e1]
    simp only [wipeFrom, doCh_cons] at hK
    refine lt_t (by omega) ⟨h2, ?_⟩
    by_cases h0 : fu = 0
    · subst h0
      refine br_t (by simp [eqi]) ?_
      simp only [if_true] at hK
      exact hK
    · rw [if_neg h0] at hK
      refine br_f (by simp [eqi, h0]) ⟨⟨by omega, by simp only [len]; omega⟩, by simp only [len]; omega, ?_⟩
      rw [w64_id (by omega) (by omega), show (32 - ((n + 1 : Nat) : Int)) + 1 = 32 - (n : Int) by omega]
      refine loop_flash_Wipe sector hs K n _ _ (by omega) ?_ ?_ (by simp [setAt]; omega) (by simpa [setAt] using h4) ?_
      · unfold burnFuel; split <;> omega
      · unfold burnFuel; split <;> omega
      · rw [show (32 * sector + (32 - ((n + 1 : Nat) : Int))) + 1 = 32 * sector + (32 - (n : Int)) by omega] at hK
        exact hK
set_option maxHeartbeats 4000000 in
theorem run_flash_Wipe (ws : List Int) (fu sector : Int) (hp : -1 ≤ fu ∧ fu ≤ 100000 ∧ 0 ≤ sector ∧ (sector + 1) * 32 ≤ (len ws : Nat) ∧ len ws ≤ 192) (K : V → List Blk → Prop) (hK : K (.one (.dat .bool (doCh ⟨ws, fu⟩ (wipeCh sector)).2)) [.box [.own 1, .dat .int (doCh ⟨ws, fu⟩ (wipeCh sector)).1.fuel], .arr .int (doCh ⟨ws, fu⟩ (wipeCh sector)).1.words]) : ∃ m, goD Γ_flash_Wipe tab fn_flash_Wipe 2 K m [.code (bodyOf fn_flash_Wipe)] (initSt [.one (.ptr 0 0), .one (.dat .int sector)] [.box [.own 1, .dat .int fu], .arr .int ws]) := by
  obtain ⟨h1, h2, h3, h4, h5⟩ := hp
  refine ⟨34, ?_⟩
  rw [flash_Wipe_w, flash_Wipe_vc _ _ _ _ _]
  exact loop_flash_Wipe sector h3 K 32 ws fu (by omega) h1 h2 (by simpa [len] using h4) h5 (by simpa [wipeCh] using hK)
theorem sound_flash_Wipe : SoundC Try.prog tab n_flash_Wipe c_flash_Wipe := soundC_of ok_flash_Wipe hf_flash_Wipe hB_flash_Wipe (by
  intro vs bs p v bs' h hp
  unfold c_flash_Wipe at h
  split at h
  · cases h
    exact ⟨by kernel_rfl, rfl, .inl (run_flash_Wipe _ _ _ hp.1 _ ⟨rfl, rfl⟩)⟩
  · cases h)

abbrev n_flash_Burn_b : Nat := n_flash_Burn
noncomputable abbrev fn_flash_Burn_b : Func := fn_flash_Burn
theorem hf_flash_Burn_b : Try.prog.funcs[n_flash_Burn_b]? = some fn_flash_Burn_b := hf_flash_Burn
theorem hB_flash_Burn_b : fnB fn_flash_Burn_b = true := hB_flash_Burn
def c_flash_Burn_b : Contract := fun vs bs => match vs, bs with
  | [.one (.ptr 0 0), .one (.dat .int at_), .one (.own 1)], [.box [.own 2, .dat .int fu], .arr .int l, .arr .int ws] => some (some (-1 ≤ fu ∧ fu ≤ 100000 ∧ 0 ≤ at_ ∧ at_ + (len l : Nat) ≤ (len ws : Nat) ∧ len ws ≤ 192), .one (.dat .bool (doCh ⟨ws, fu⟩ (burnCh at_ l)).2), [.box [.own 2, .dat .int (doCh ⟨ws, fu⟩ (burnCh at_ l)).1.fuel], .arr .int l, .arr .int (doCh ⟨ws, fu⟩ (burnCh at_ l)).1.words])
  | _, _ => none
def Γ_flash_Burn_b : Ctx := [(n_flash_burn, c_flash_burn)]
theorem ok_flash_Burn_b : Ok Try.prog tab Γ_flash_Burn_b := (ok_nil.consC hf_flash_burn hB_flash_burn sound_flash_burn)
noncomputable def flash_Burn_b_L0 : List It := [.inLoop [11, 10, 9, 6, 0, 1] (Code.sub (bodyOf fn_flash_Burn_b) [1, 0, 1, 0, 0]), .inBlock 0, .code (Code.sub (bodyOf fn_flash_Burn_b) [1, 1])]
def flash_Burn_b_S0 (x0 : Int) (x1 : Int) (x2 : Bool) (x3 : Int) (x4 : Int) (x5 : (List Int)) (x6 : (List Int)) : St := ⟨[(11, .one (.dat Ty.int x0)), (10, .one (.dat Ty.int x1)), (9, .one (.own 1)), (6, .one (.dat Ty.bool x2)), (0, .one (.ptr 0 0)), (1, .one (.dat Ty.int x3))], [(0, .box [.own 2, .dat Ty.int x4]), (1, .arr Ty.int x5), (2, .arr Ty.int x6)], 3⟩
theorem flash_Burn_b_vc (ws : List Int) (fu : Int) (at_ : Int) (l : List Int) (rec : List It → St → Prop) (K : V → List Blk → Prop) : segD Γ_flash_Burn_b tab fn_flash_Burn_b 3 K rec [.code (bodyOf fn_flash_Burn_b)] (initSt [.one (.ptr 0 0), .one (.dat Ty.int at_), .one (.own 1)] [.box [.own 2, .dat Ty.int fu], .arr Ty.int l, .arr Ty.int ws]) = (
    rec flash_Burn_b_L0 (flash_Burn_b_S0 (0 : Int) (((len l) : Nat) : Int) false at_ fu l ws)) := by kernel_rfl
theorem flash_Burn_b_w (ws : List Int) (fu : Int) (at_ : Int) (l : List Int) (m : Nat) (K : V → List Blk → Prop) : goD Γ_flash_Burn_b tab fn_flash_Burn_b 3 K (m + 1) [.code (bodyOf fn_flash_Burn_b)] (initSt [.one (.ptr 0 0), .one (.dat Ty.int at_), .one (.own 1)] [.box [.own 2, .dat Ty.int fu], .arr Ty.int l, .arr Ty.int ws]) = segD Γ_flash_Burn_b tab fn_flash_Burn_b 3 K (goD Γ_flash_Burn_b tab fn_flash_Burn_b 3 K m) [.code (bodyOf fn_flash_Burn_b)] (initSt [.one (.ptr 0 0), .one (.dat Ty.int at_), .one (.own 1)] [.box [.own 2, .dat Ty.int fu], .arr Ty.int l, .arr Ty.int ws]) := rfl
theorem flash_Burn_b_vc0 (x0 : Int) (x1 : Int) (x2 : Bool) (x3 : Int) (x4 : Int) (x5 : (List Int)) (x6 : (List Int)) (rec : List It → St → Prop) (K : V → List Blk → Prop) v0 (hv0 : v0 = (burnFuel x4)) : segD Γ_flash_Burn_b tab fn_flash_Burn_b 3 K rec (.code (Code.sub (bodyOf fn_flash_Burn_b) [1, 0, 1, 0, 0]) :: flash_Burn_b_L0) (flash_Burn_b_S0 x0 x1 x2 x3 x4 x5 x6) = (
    br (lti x0 x1)
     ((((0 : Int) ≤ x0) ∧ (x0 < (((len x5) : Nat) : Int))) ∧
      (((Int.toNat x0) < (len x5)) ∧
      ((x4 ≤ (100000 : Int)) ∧
      (br (!(!(eqi x4 (0 : Int))))
       (K (.one (.dat Ty.bool false)) [.box [.own 2, .dat Ty.int v0], .arr Ty.int x5, .arr Ty.int x6])
       ((((0 : Int) ≤ (w64 (x3 + x0))) ∧ ((w64 (x3 + x0)) < (((len x6) : Nat) : Int))) ∧
        (((Int.toNat (w64 (x3 + x0))) < (len x6)) ∧
        ((((0 : Int) ≤ (w64 (x3 + x0))) ∧ ((w64 (x3 + x0)) < (((len x6) : Nat) : Int))) ∧
        (((Int.toNat (w64 (x3 + x0))) < (len x6)) ∧
        (rec flash_Burn_b_L0 (flash_Burn_b_S0 (w64 (x0 + (1 : Int))) x1 x2 x3 v0 x5 (setAt x6 (Int.toNat (w64 (x3 + x0))) (andi (nth x6 (Int.toNat (w64 (x3 + x0))) (Ty.dflt Ty.int)) (nth x5 (Int.toNat x0) (Ty.dflt Ty.int))))))))))))))
     (K (.one (.dat Ty.bool true)) [.box [.own 2, .dat Ty.int x4], .arr Ty.int x5, .arr Ty.int x6])) := by subst hv0; kernel_rfl
theorem flash_Burn_b_w0 (x0 : Int) (x1 : Int) (x2 : Bool) (x3 : Int) (x4 : Int) (x5 : (List Int)) (x6 : (List Int)) (m : Nat) (K : V → List Blk → Prop) : goD Γ_flash_Burn_b tab fn_flash_Burn_b 3 K (m + 1) flash_Burn_b_L0 (flash_Burn_b_S0 x0 x1 x2 x3 x4 x5 x6) = segD Γ_flash_Burn_b tab fn_flash_Burn_b 3 K (goD Γ_flash_Burn_b tab fn_flash_Burn_b 3 K m) (.code (Code.sub (bodyOf fn_flash_Burn_b) [1, 0, 1, 0, 0]) :: flash_Burn_b_L0) (flash_Burn_b_S0 x0 x1 x2 x3 x4 x5 x6) := rfl

theorem loop_flash_Burn_b (at_ : Int) (hs : 0 ≤ at_) (l : List Int) (K : V → List Blk → Prop) : ∀ (n : Nat) (k : Nat) (ws : List Int) (fu : Int), k + n = l.length → -1 ≤ fu → fu ≤ 100000 → at_ + (l.length : Nat) ≤ (ws.length : Nat) → ws.length ≤ 192 →
    K (.one (.dat .bool (doCh ⟨ws, fu⟩ (burnCh (at_ + k) (l.drop k))).2)) [.box [.own 2, .dat .int (doCh ⟨ws, fu⟩ (burnCh (at_ + k) (l.drop k))).1.fuel], .arr .int l, .arr .int (doCh ⟨ws, fu⟩ (burnCh (at_ + k) (l.drop k))).1.words] →
    goD Γ_flash_Burn_b tab fn_flash_Burn_b 3 K (n + 1) flash_Burn_b_L0 (flash_Burn_b_S0 (k : Int) (((len l) : Nat) : Int) false at_ fu l ws)
  | 0, k, ws, fu, hk, h1, h2, h3, h4, hK => by
    rw [flash_Burn_b_w0, flash_Burn_b_vc0 _ _ _ _ _ _ _ _ _ _ rfl]
    refine lt_f (by simp only [len]; omega) ?_
    rw [List.drop_of_length_le (by omega)] at hK
    simp only [burnCh, doCh_nil] at hK
    exact hK
  | n + 1, k, ws, fu, hk, h1, h2, h3, h4, hK => by
    rw [flash_Burn_b_w0, flash_Burn_b_vc0 _ _ _ _ _ _ _ _ _ _ rfl]
    rw [w64_id (n := at_ + k) (by omega) (by omega)]
    rw [drop_step (by omega) (Ty.dflt Ty.int)] at hK
    simp only [burnCh, doCh_cons] at hK
    refine lt_t (by simp only [len]; omega) ⟨⟨by omega, by simp only [len]; omega⟩, by simp only [len]; omega, h2, ?_⟩
    by_cases h0 : fu = 0
    · subst h0
      refine br_t (by simp [eqi]) ?_
      simp only [if_true] at hK
      exact hK
    · rw [if_neg h0] at hK
      refine br_f (by simp [eqi, h0]) ⟨⟨by omega, by simp only [len]; omega⟩, by simp only [len]; omega, ⟨by omega, by simp only [len]; omega⟩, by simp only [len]; omega, ?_⟩
      rw [w64_succ (by omega)]
      refine loop_flash_Burn_b at_ hs l K n (k + 1) _ _ (by omega) ?_ ?_ (by simpa [setAt] using h3) (by simpa [setAt] using h4) ?_
      · unfold burnFuel; split <;> omega
      · unfold burnFuel; split <;> omega
      · rw [show at_ + ((k + 1 : Nat) : Int) = at_ + k + 1 by omega]
        exact hK
set_option maxHeartbeats 4000000 in
theorem run_flash_Burn_b (ws : List Int) (fu at_ : Int) (l : List Int) (hp : -1 ≤ fu ∧ fu ≤ 100000 ∧ 0 ≤ at_ ∧ at_ + (len l : Nat) ≤ (len ws : Nat) ∧ len ws ≤ 192) (K : V → List Blk → Prop) (hK : K (.one (.dat .bool (doCh ⟨ws, fu⟩ (burnCh at_ l)).2)) [.box [.own 2, .dat .int (doCh ⟨ws, fu⟩ (burnCh at_ l)).1.fuel], .arr .int l, .arr .int (doCh ⟨ws, fu⟩ (burnCh at_ l)).1.words]) : ∃ m, goD Γ_flash_Burn_b tab fn_flash_Burn_b 3 K m [.code (bodyOf fn_flash_Burn_b)] (initSt [.one (.ptr 0 0), .one (.dat .int at_), .one (.own 1)] [.box [.own 2, .dat .int fu], .arr .int l, .arr .int ws]) := by
  obtain ⟨h1, h2, h3, h4, h5⟩ := hp
  refine ⟨l.length + 2, ?_⟩
  rw [flash_Burn_b_w, flash_Burn_b_vc _ _ _ _ _ _]
  exact loop_flash_Burn_b at_ h3 l K l.length 0 ws fu (by omega) h1 h2 h4 h5 (by simpa using hK)
theorem sound_flash_Burn_b : SoundC Try.prog tab n_flash_Burn_b c_flash_Burn_b := soundC_of ok_flash_Burn_b hf_flash_Burn_b hB_flash_Burn_b (by
  intro vs bs p v bs' h hp
  unfold c_flash_Burn_b at h
  split at h
  · cases h
    exact ⟨by kernel_rfl, rfl, .inl (run_flash_Burn_b _ _ _ _ hp.1 _ ⟨rfl, rfl⟩)⟩
  · cases h)

def c_flash_Burn : Contract := fun vs bs => match vs, bs with
  | [.one (.ptr 0 0), .one (.dat .int at_), .one (.dat (.list .int) l)], [.box [.own 1, .dat .int fu], .arr .int ws] => some (some (-1 ≤ fu ∧ fu ≤ 100000 ∧ 0 ≤ at_ ∧ at_ + (len l : Nat) ≤ (len ws : Nat) ∧ len ws ≤ 192), .one (.dat .bool (doCh ⟨ws, fu⟩ (burnCh at_ l)).2), [.box [.own 1, .dat .int (doCh ⟨ws, fu⟩ (burnCh at_ l)).1.fuel], .arr .int (doCh ⟨ws, fu⟩ (burnCh at_ l)).1.words])
  | _, _ => none
def Γ_flash_Burn : Ctx := [(n_flash_burn, c_flash_burn)]
theorem ok_flash_Burn : Ok Try.prog tab Γ_flash_Burn := (ok_nil.consC hf_flash_burn hB_flash_burn sound_flash_burn)
noncomputable def flash_Burn_L0 : List It := [.inLoop [11, 10, 9, 6, 0, 1] (Code.sub (bodyOf fn_flash_Burn) [1, 0, 1, 0, 0]), .inBlock 0, .code (Code.sub (bodyOf fn_flash_Burn) [1, 1])]
def flash_Burn_S0 (x0 : Int) (x1 : Int) (x2 : (List Int)) (x3 : Bool) (x4 : Int) (x5 : Int) (x6 : (List Int)) : St := ⟨[(11, .one (.dat Ty.int x0)), (10, .one (.dat Ty.int x1)), (9, .one (.dat (Ty.list Ty.int) x2)), (6, .one (.dat Ty.bool x3)), (0, .one (.ptr 0 0)), (1, .one (.dat Ty.int x4))], [(0, .box [.own 1, .dat Ty.int x5]), (1, .arr Ty.int x6)], 2⟩
theorem flash_Burn_vc (ws : List Int) (fu : Int) (at_ : Int) (l : List Int) (rec : List It → St → Prop) (K : V → List Blk → Prop) : segD Γ_flash_Burn tab fn_flash_Burn 2 K rec [.code (bodyOf fn_flash_Burn)] (initSt [.one (.ptr 0 0), .one (.dat Ty.int at_), .one (.dat (Ty.list Ty.int) l)] [.box [.own 1, .dat Ty.int fu], .arr Ty.int ws]) = (
    rec flash_Burn_L0 (flash_Burn_S0 (0 : Int) (((len l) : Nat) : Int) l false at_ fu ws)) := by kernel_rfl
theorem flash_Burn_w (ws : List Int) (fu : Int) (at_ : Int) (l : List Int) (m : Nat) (K : V → List Blk → Prop) : goD Γ_flash_Burn tab fn_flash_Burn 2 K (m + 1) [.code (bodyOf fn_flash_Burn)] (initSt [.one (.ptr 0 0), .one (.dat Ty.int at_), .one (.dat (Ty.list Ty.int) l)] [.box [.own 1, .dat Ty.int fu], .arr Ty.int ws]) = segD Γ_flash_Burn tab fn_flash_Burn 2 K (goD Γ_flash_Burn tab fn_flash_Burn 2 K m) [.code (bodyOf fn_flash_Burn)] (initSt [.one (.ptr 0 0), .one (.dat Ty.int at_), .one (.dat (Ty.list Ty.int) l)] [.box [.own 1, .dat Ty.int fu], .arr Ty.int ws]) := rfl
theorem flash_Burn_vc0 (x0 : Int) (x1 : Int) (x2 : (List Int)) (x3 : Bool) (x4 : Int) (x5 : Int) (x6 : (List Int)) (rec : List It → St → Prop) (K : V → List Blk → Prop) v0 (hv0 : v0 = (burnFuel x5)) : segD Γ_flash_Burn tab fn_flash_Burn 2 K rec (.code (Code.sub (bodyOf fn_flash_Burn) [1, 0, 1, 0, 0]) :: flash_Burn_L0) (flash_Burn_S0 x0 x1 x2 x3 x4 x5 x6) = (
    br (lti x0 x1)
     ((((0 : Int) ≤ x0) ∧ (x0 < (((len x2) : Nat) : Int))) ∧
      ((x5 ≤ (100000 : Int)) ∧
      (br (!(!(eqi x5 (0 : Int))))
       (K (.one (.dat Ty.bool false)) [.box [.own 1, .dat Ty.int v0], .arr Ty.int x6])
       ((((0 : Int) ≤ (w64 (x4 + x0))) ∧ ((w64 (x4 + x0)) < (((len x6) : Nat) : Int))) ∧
        (((Int.toNat (w64 (x4 + x0))) < (len x6)) ∧
        ((((0 : Int) ≤ (w64 (x4 + x0))) ∧ ((w64 (x4 + x0)) < (((len x6) : Nat) : Int))) ∧
        (((Int.toNat (w64 (x4 + x0))) < (len x6)) ∧
        (rec flash_Burn_L0 (flash_Burn_S0 (w64 (x0 + (1 : Int))) x1 x2 x3 x4 v0 (setAt x6 (Int.toNat (w64 (x4 + x0))) (andi (nth x6 (Int.toNat (w64 (x4 + x0))) (Ty.dflt Ty.int)) (nth x2 (Int.toNat x0) (Ty.dflt Ty.int)))))))))))))
     (K (.one (.dat Ty.bool true)) [.box [.own 1, .dat Ty.int x5], .arr Ty.int x6])) := by subst hv0; kernel_rfl
theorem flash_Burn_w0 (x0 : Int) (x1 : Int) (x2 : (List Int)) (x3 : Bool) (x4 : Int) (x5 : Int) (x6 : (List Int)) (m : Nat) (K : V → List Blk → Prop) : goD Γ_flash_Burn tab fn_flash_Burn 2 K (m + 1) flash_Burn_L0 (flash_Burn_S0 x0 x1 x2 x3 x4 x5 x6) = segD Γ_flash_Burn tab fn_flash_Burn 2 K (goD Γ_flash_Burn tab fn_flash_Burn 2 K m) (.code (Code.sub (bodyOf fn_flash_Burn) [1, 0, 1, 0, 0]) :: flash_Burn_L0) (flash_Burn_S0 x0 x1 x2 x3 x4 x5 x6) := rfl

theorem loop_flash_Burn (at_ : Int) (hs : 0 ≤ at_) (l : List Int) (K : V → List Blk → Prop) : ∀ (n : Nat) (k : Nat) (ws : List Int) (fu : Int), k + n = l.length → -1 ≤ fu → fu ≤ 100000 → at_ + (l.length : Nat) ≤ (ws.length : Nat) → ws.length ≤ 192 →
    K (.one (.dat .bool (doCh ⟨ws, fu⟩ (burnCh (at_ + k) (l.drop k))).2)) [.box [.own 1, .dat .int (doCh ⟨ws, fu⟩ (burnCh (at_ + k) (l.drop k))).1.fuel], .arr .int (doCh ⟨ws, fu⟩ (burnCh (at_ + k) (l.drop k))).1.words] →
    goD Γ_flash_Burn tab fn_flash_Burn 2 K (n + 1) flash_Burn_L0 (flash_Burn_S0 (k : Int) (((len l) : Nat) : Int) l false at_ fu ws)
  | 0, k, ws, fu, hk, h1, h2, h3, h4, hK => by
    rw [flash_Burn_w0, flash_Burn_vc0 _ _ _ _ _ _ _ _ _ _ rfl]
    refine lt_f (by simp only [len]; omega) ?_
    rw [List.drop_of_length_le (by omega)] at hK
    simp only [burnCh, doCh_nil] at hK
    exact hK
  | n + 1, k, ws, fu, hk, h1, h2, h3, h4, hK => by
    rw [flash_Burn_w0, flash_Burn_vc0 _ _ _ _ _ _ _ _ _ _ rfl]
    rw [w64_id (n := at_ + k) (by omega) (by omega)]
    rw [drop_step (by omega) (Ty.dflt Ty.int)] at hK
    simp only [burnCh, doCh_cons] at hK
    refine lt_t (by simp only [len]; omega) ⟨⟨by omega, by simp only [len]; omega⟩, h2, ?_⟩
    by_cases h0 : fu = 0
    · subst h0
      refine br_t (by simp [eqi]) ?_
      simp only [if_true] at hK
      exact hK
    · rw [if_neg h0] at hK
      refine br_f (by simp [eqi, h0]) ⟨⟨by omega, by simp only [len]; omega⟩, by simp only [len]; omega, ⟨by omega, by simp only [len]; omega⟩, by simp only [len]; omega, ?_⟩
      rw [w64_succ (by omega)]
      refine loop_flash_Burn at_ hs l K n (k + 1) _ _ (by omega) ?_ ?_ (by simpa [setAt] using h3) (by simpa [setAt] using h4) ?_
      · unfold burnFuel; split <;> omega
      · unfold burnFuel; split <;> omega
      · rw [show at_ + ((k + 1 : Nat) : Int) = at_ + k + 1 by omega]
        exact hK
set_option maxHeartbeats 4000000 in
theorem run_flash_Burn (ws : List Int) (fu at_ : Int) (l : List Int) (hp : -1 ≤ fu ∧ fu ≤ 100000 ∧ 0 ≤ at_ ∧ at_ + (len l : Nat) ≤ (len ws : Nat) ∧ len ws ≤ 192) (K : V → List Blk → Prop) (hK : K (.one (.dat .bool (doCh ⟨ws, fu⟩ (burnCh at_ l)).2)) [.box [.own 1, .dat .int (doCh ⟨ws, fu⟩ (burnCh at_ l)).1.fuel], .arr .int (doCh ⟨ws, fu⟩ (burnCh at_ l)).1.words]) : ∃ m, goD Γ_flash_Burn tab fn_flash_Burn 2 K m [.code (bodyOf fn_flash_Burn)] (initSt [.one (.ptr 0 0), .one (.dat .int at_), .one (.dat (.list .int) l)] [.box [.own 1, .dat .int fu], .arr .int ws]) := by
  obtain ⟨h1, h2, h3, h4, h5⟩ := hp
  refine ⟨l.length + 2, ?_⟩
  rw [flash_Burn_w, flash_Burn_vc _ _ _ _ _ _]
  exact loop_flash_Burn at_ h3 l K l.length 0 ws fu (by omega) h1 h2 h4 h5 (by simpa using hK)
theorem sound_flash_Burn : SoundC Try.prog tab n_flash_Burn c_flash_Burn := soundC_of ok_flash_Burn hf_flash_Burn hB_flash_Burn (by
  intro vs bs p v bs' h hp
  unfold c_flash_Burn at h
  split at h
  · cases h
    exact ⟨by kernel_rfl, rfl, .inl (run_flash_Burn _ _ _ _ hp.1 _ ⟨rfl, rfl⟩)⟩
  · cases h)

def c_log_Format : Contract := fun vs bs => match vs, bs with
  | [.agg [.dat (.list .int) ws, .dat .int fu]], [] => some (none, .tup [.agg [.dat (.list .int) (formatF ⟨ws, fu⟩).1.words, .dat .int (formatF ⟨ws, fu⟩).1.fuel], .one (.dat .int (formatF ⟨ws, fu⟩).2)], [])
  | _, _ => none
def Γ_log_Format : Ctx := [(n_flash_Check, c_flash_Check), (n_flash_Copy, c_flash_Copy), (n_flash_Wipe, c_flash_Wipe), (n_flash_Burn, (orC c_flash_Burn c_flash_Burn_b))]
theorem ok_log_Format : Ok Try.prog tab Γ_log_Format := ((((ok_nil.consC hf_flash_Burn hB_flash_Burn (soundC_or sound_flash_Burn sound_flash_Burn_b)).consC hf_flash_Wipe hB_flash_Wipe sound_flash_Wipe).consC hf_flash_Copy hB_flash_Copy sound_flash_Copy).consC hf_flash_Check hB_flash_Check sound_flash_Check)
theorem log_Format_vc (ws : List Int) (fu : Int) (rec : List It → St → Prop) (K : V → List Blk → Prop) v0 (hv0 : v0 = (checkFlash (⟨ws, fu⟩ : Flash))) v1 (hv1 : v1 = (wipeCh (1 : Int))) v2 (hv2 : v2 = (doCh (⟨ws, fu⟩ : Flash) v1)) v3 (hv3 : v3 = (wipeCh (0 : Int))) v4 (hv4 : v4 = (doCh (⟨((v2).fst).words, ((v2).fst).fuel⟩ : Flash) v3)) v5 (hv5 : v5 = (burnCh (0 : Int) ((1 : Int) :: []))) v6 (hv6 : v6 = (doCh (⟨((v4).fst).words, ((v4).fst).fuel⟩ : Flash) v5)) : segD Γ_log_Format tab fn_log_Format 0 K rec [.code (bodyOf fn_log_Format)] (initSt [.agg [.dat (Ty.list Ty.int) ws, .dat Ty.int fu]] []) = (
    br (!(eqi v0 (0 : Int)))
     (K (.tup [.agg [.dat (Ty.list Ty.int) [], .dat Ty.int (0 : Int)], .one (.dat Ty.int v0)]) [])
     (br (lti (((len ws) : Nat) : Int) (64 : Int))
       (K (.tup [.agg [.dat (Ty.list Ty.int) [], .dat Ty.int (0 : Int)], .one (.dat Ty.int (4 : Int))]) [])
       ((((len ws) * 8) ≤ 140737488355328) ∧
        ((((-(1 : Int)) ≤ fu) ∧ ((fu ≤ (100000 : Int)) ∧ (((0 : Int) ≤ (1 : Int)) ∧ (((((1 : Int) + (1 : Int)) * (32 : Int)) ≤ (((len ws) : Nat) : Int)) ∧ ((len ws) ≤ 192))))) ∧
        (br (!(v2).snd)
         (K (.tup [.agg [.dat (Ty.list Ty.int) ((v2).fst).words, .dat Ty.int ((v2).fst).fuel], .one (.dat Ty.int (7 : Int))]) [])
         ((((-(1 : Int)) ≤ ((v2).fst).fuel) ∧ ((((v2).fst).fuel ≤ (100000 : Int)) ∧ (((0 : Int) ≤ (0 : Int)) ∧ (((((0 : Int) + (1 : Int)) * (32 : Int)) ≤ (((len ((v2).fst).words) : Nat) : Int)) ∧ ((len ((v2).fst).words) ≤ 192))))) ∧
          (br (!(v4).snd)
           (K (.tup [.agg [.dat (Ty.list Ty.int) ((v4).fst).words, .dat Ty.int ((v4).fst).fuel], .one (.dat Ty.int (7 : Int))]) [])
           ((((-(1 : Int)) ≤ ((v4).fst).fuel) ∧ ((((v4).fst).fuel ≤ (100000 : Int)) ∧ (((0 : Int) ≤ (0 : Int)) ∧ ((((0 : Int) + (((len ((1 : Int) :: [])) : Nat) : Int)) ≤ (((len ((v4).fst).words) : Nat) : Int)) ∧ ((len ((v4).fst).words) ≤ 192))))) ∧
            (br (!(v6).snd)
             (K (.tup [.agg [.dat (Ty.list Ty.int) ((v6).fst).words, .dat Ty.int ((v6).fst).fuel], .one (.dat Ty.int (7 : Int))]) [])
             (K (.tup [.agg [.dat (Ty.list Ty.int) ((v6).fst).words, .dat Ty.int ((v6).fst).fuel], .one (.dat Ty.int (0 : Int))]) [])))))))))) := by subst hv6; subst hv5; subst hv4; subst hv3; subst hv2; subst hv1; subst hv0; kernel_rfl
theorem log_Format_w (ws : List Int) (fu : Int) (m : Nat) (K : V → List Blk → Prop) : goD Γ_log_Format tab fn_log_Format 0 K (m + 1) [.code (bodyOf fn_log_Format)] (initSt [.agg [.dat (Ty.list Ty.int) ws, .dat Ty.int fu]] []) = segD Γ_log_Format tab fn_log_Format 0 K (goD Γ_log_Format tab fn_log_Format 0 K m) [.code (bodyOf fn_log_Format)] (initSt [.agg [.dat (Ty.list Ty.int) ws, .dat Ty.int fu]] []) := rfl

set_option maxHeartbeats 4000000 in
theorem run_log_Format (ws : List Int) (fu : Int) (K : V → List Blk → Prop) (hK : K (.tup [.agg [.dat (.list .int) (formatF ⟨ws, fu⟩).1.words, .dat .int (formatF ⟨ws, fu⟩).1.fuel], .one (.dat .int (formatF ⟨ws, fu⟩).2)]) []) : ∃ m, goD Γ_log_Format tab fn_log_Format 0 K m [.code (bodyOf fn_log_Format)] (initSt [.agg [.dat (.list .int) ws, .dat .int fu]] []) := by
  refine ⟨1, ?_⟩
  rw [log_Format_w, log_Format_vc _ _ _ _ _ rfl _ rfl _ rfl _ rfl _ rfl _ rfl _ rfl]
  unfold formatF at hK
  refine ne_s (fun h => ?_) (fun h => ?_)
  · rw [if_neg h] at hK; exact hK
  rw [if_pos h] at hK
  obtain ⟨c1, c2, c3, c4⟩ := checkFlash_ok h
  obtain ⟨c5, c6⟩ := okLen_le c1
  simp only at c2 c3 c5 c6
  refine lt_s (fun h2 => ?_) (fun h2 => ?_)
  · rw [if_neg (by simp only [len] at h2 ⊢; omega)] at hK; exact hK
  rw [if_pos (by simp only [len] at h2 ⊢; omega)] at hK
  unfold formatCh at hK
  rw [doCh_append, doCh_append] at hK
  obtain ⟨f1, f2⟩ := doCh_fuel ⟨ws, fu⟩ (wipeCh 1) c2 c3
  have l1 := doCh_len ⟨ws, fu⟩ (wipeCh 1)
  obtain ⟨g1, g2⟩ := doCh_fuel (doCh ⟨ws, fu⟩ (wipeCh 1)).1 (wipeCh 0) f1 f2
  have l2 := doCh_len (doCh ⟨ws, fu⟩ (wipeCh 1)).1 (wipeCh 0)
  simp only [len] at h2 l1 l2 ⊢
  refine ⟨by omega, ⟨c2, c3, by omega, by omega, by omega⟩, nt_s (fun h3 => ?_) (fun h3 => ⟨⟨f1, f2, by omega, by omega, by omega⟩, nt_s (fun h4 => ?_) (fun h4 => ⟨⟨g1, g2, by omega, ?_, ?_⟩, nt_s (fun h5 => ?_) (fun h5 => ?_)⟩)⟩)⟩
  · rw [if_neg (show ¬ (doCh ⟨ws, fu⟩ (wipeCh 1)).2 = true by simp [h3]), if_neg (by simp [h3])] at hK
    simp only [power, powerE, h3] at hK; exact hK
  · rw [if_pos h3, if_neg (show ¬ (doCh (doCh ⟨ws, fu⟩ (wipeCh 1)).1 (wipeCh 0)).2 = true from by rw [show (doCh (doCh ⟨ws, fu⟩ (wipeCh 1)).1 (wipeCh 0)).2 = false from h4]; simp)] at hK
    simp only [power] at hK
    rw [show (doCh (doCh ⟨ws, fu⟩ (wipeCh 1)).1 (wipeCh 0)).2 = false from h4] at hK
    exact hK
  · show (0 : Int) + _ ≤ ((doCh (doCh ⟨ws, fu⟩ (wipeCh 1)).1 (wipeCh 0)).1.words.length : Int)
    simp only [List.length_cons, List.length_nil]; omega
  · show (doCh (doCh ⟨ws, fu⟩ (wipeCh 1)).1 (wipeCh 0)).1.words.length ≤ _
    omega
  · rw [if_pos h3, if_pos (show (doCh (doCh ⟨ws, fu⟩ (wipeCh 1)).1 (wipeCh 0)).2 = true from h4)] at hK
    simp only [power] at hK
    rw [show (doCh (doCh (doCh ⟨ws, fu⟩ (wipeCh 1)).1 (wipeCh 0)).1 (burnCh 0 [1])).2 = false from h5] at hK
    exact hK
  · rw [if_pos h3, if_pos (show (doCh (doCh ⟨ws, fu⟩ (wipeCh 1)).1 (wipeCh 0)).2 = true from h4)] at hK
    simp only [power] at hK
    rw [show (doCh (doCh (doCh ⟨ws, fu⟩ (wipeCh 1)).1 (wipeCh 0)).1 (burnCh 0 [1])).2 = true from h5] at hK
    exact hK
theorem sound_log_Format : SoundC Try.prog tab n_log_Format c_log_Format := soundC_of ok_log_Format hf_log_Format hB_log_Format (by
  intro vs bs p v bs' h hp
  unfold c_log_Format at h
  split at h
  · cases h
    exact ⟨by kernel_rfl, rfl, .inl (run_log_Format _ _ _ ⟨rfl, rfl⟩)⟩
  · cases h)

def c_log_live : Contract := fun vs bs => match vs, bs with
  | [.agg [.dat (.list .int) ws, .dat .int _]], [] => some (some (64 ≤ len ws ∧ okWords ws = true), .tup [.one (.dat .int (liveS ws)), .one (.dat .int (liveG ws)), .one (.dat .bool (liveOk ws))], [])
  | _, _ => none
def Γ_log_live : Ctx := []
theorem ok_log_live : Ok Try.prog tab Γ_log_live := ok_nil
theorem log_live_vc (ws : List Int) (fu : Int) (rec : List It → St → Prop) (K : V → List Blk → Prop) : segD Γ_log_live tab fn_log_live 0 K rec [.code (bodyOf fn_log_live)] (initSt [.agg [.dat (Ty.list Ty.int) ws, .dat Ty.int fu]] []) = (
    (((0 : Int) ≤ (0 : Int)) ∧ ((0 : Int) < (((len ws) : Nat) : Int))) ∧
    ((((0 : Int) ≤ (32 : Int)) ∧ ((32 : Int) < (((len ws) : Nat) : Int))) ∧
    (br (eqi (nth ws (Int.toNat (0 : Int)) (Ty.dflt Ty.int)) (65535 : Int))
     (br (eqi (nth ws (Int.toNat (32 : Int)) (Ty.dflt Ty.int)) (65535 : Int))
       (K (.tup [.one (.dat Ty.int (0 : Int)), .one (.dat Ty.int (0 : Int)), .one (.dat Ty.bool (lti (0 : Int) (0 : Int)))]) [])
       (br (lti (0 : Int) (nth ws (Int.toNat (32 : Int)) (Ty.dflt Ty.int)))
         (K (.tup [.one (.dat Ty.int (1 : Int)), .one (.dat Ty.int (nth ws (Int.toNat (32 : Int)) (Ty.dflt Ty.int))), .one (.dat Ty.bool true)]) [])
         (K (.tup [.one (.dat Ty.int (0 : Int)), .one (.dat Ty.int (0 : Int)), .one (.dat Ty.bool (lti (0 : Int) (0 : Int)))]) [])))
     (br (eqi (nth ws (Int.toNat (32 : Int)) (Ty.dflt Ty.int)) (65535 : Int))
       (br (lti (nth ws (Int.toNat (0 : Int)) (Ty.dflt Ty.int)) (0 : Int))
         (K (.tup [.one (.dat Ty.int (1 : Int)), .one (.dat Ty.int (0 : Int)), .one (.dat Ty.bool true)]) [])
         (K (.tup [.one (.dat Ty.int (0 : Int)), .one (.dat Ty.int (nth ws (Int.toNat (0 : Int)) (Ty.dflt Ty.int))), .one (.dat Ty.bool (lti (0 : Int) (nth ws (Int.toNat (0 : Int)) (Ty.dflt Ty.int))))]) []))
       (br (lti (nth ws (Int.toNat (0 : Int)) (Ty.dflt Ty.int)) (nth ws (Int.toNat (32 : Int)) (Ty.dflt Ty.int)))
         (K (.tup [.one (.dat Ty.int (1 : Int)), .one (.dat Ty.int (nth ws (Int.toNat (32 : Int)) (Ty.dflt Ty.int))), .one (.dat Ty.bool true)]) [])
         (K (.tup [.one (.dat Ty.int (0 : Int)), .one (.dat Ty.int (nth ws (Int.toNat (0 : Int)) (Ty.dflt Ty.int))), .one (.dat Ty.bool (lti (0 : Int) (nth ws (Int.toNat (0 : Int)) (Ty.dflt Ty.int))))]) [])))))) := by kernel_rfl
theorem log_live_w (ws : List Int) (fu : Int) (m : Nat) (K : V → List Blk → Prop) : goD Γ_log_live tab fn_log_live 0 K (m + 1) [.code (bodyOf fn_log_live)] (initSt [.agg [.dat (Ty.list Ty.int) ws, .dat Ty.int fu]] []) = segD Γ_log_live tab fn_log_live 0 K (goD Γ_log_live tab fn_log_live 0 K m) [.code (bodyOf fn_log_live)] (initSt [.agg [.dat (Ty.list Ty.int) ws, .dat Ty.int fu]] []) := rfl

set_option maxHeartbeats 4000000 in
theorem run_log_live (ws : List Int) (fu : Int) (hp : 64 ≤ len ws ∧ okWords ws = true) (K : V → List Blk → Prop) (hK : K (.tup [.one (.dat .int (liveS ws)), .one (.dat .int (liveG ws)), .one (.dat .bool (liveOk ws))]) []) : ∃ m, goD Γ_log_live tab fn_log_live 0 K m [.code (bodyOf fn_log_live)] (initSt [.agg [.dat (.list .int) ws, .dat .int fu]] []) := by
  obtain ⟨hl, hok⟩ := hp
  refine ⟨1, ?_⟩
  rw [log_live_w, log_live_vc _ _ _ _]
  have o0 := getD_ok hok 0
  have o1 := getD_ok hok 32
  have e0 : nth ws (Int.toNat (0 : Int)) (Ty.dflt Ty.int) = ws.getD 0 0 := rfl
  have e1 : nth ws (Int.toNat (32 : Int)) (Ty.dflt Ty.int) = ws.getD 32 0 := rfl
  rw [e0, e1]
  have g0 : genOf ws 0 = if ws.getD 0 0 = 65535 then 0 else ws.getD 0 0 := rfl
  have g1 : genOf ws 1 = if ws.getD 32 0 = 65535 then 0 else ws.getD 32 0 := rfl
  unfold liveOk liveG liveS at hK
  refine ⟨⟨by omega, by omega⟩, ⟨by omega, by omega⟩, eq_s (fun h => eq_s (fun h2 => ?_) (fun h2 => lt_s (fun h3 => ?_) (fun h3 => ?_))) (fun h => eq_s (fun h2 => lt_s (fun h3 => ?_) (fun h3 => ?_)) (fun h2 => lt_s (fun h3 => ?_) (fun h3 => ?_)))⟩
  · rw [if_pos h] at g0; rw [if_pos h2] at g1
    rw [if_neg (by omega), g0] at hK; exact hK
  · rw [if_pos h] at g0; rw [if_neg h2] at g1
    rw [if_pos (by omega), g1, show decide (0 < ws.getD 32 0) = true from decide_eq_true h3] at hK; exact hK
  · rw [if_pos h] at g0; rw [if_neg h2] at g1
    rw [if_neg (by omega), g0] at hK; exact hK
  · omega
  · rw [if_neg h] at g0; rw [if_pos h2] at g1
    rw [if_neg (by omega), g0] at hK; exact hK
  · rw [if_neg h] at g0; rw [if_neg h2] at g1
    rw [if_pos (by omega), g1, show decide (0 < ws.getD 32 0) = true from decide_eq_true (by omega)] at hK; exact hK
  · rw [if_neg h] at g0; rw [if_neg h2] at g1
    rw [if_neg (by omega), g0] at hK; exact hK
theorem sound_log_live : SoundC Try.prog tab n_log_live c_log_live := soundC_of ok_log_live hf_log_live hB_log_live (by
  intro vs bs p v bs' h hp
  unfold c_log_live at h
  split at h
  · cases h
    exact ⟨by kernel_rfl, rfl, .inl (run_log_live _ _ hp.1 _ ⟨rfl, rfl⟩)⟩
  · cases h)

def c_log_Check : Contract := fun vs bs => match vs, bs with
  | [.agg [.dat (.list .int) ws, .dat .int fu]], [] => some (none, .one (.dat .int (checkLog ⟨ws, fu⟩)), [])
  | _, _ => none
def Γ_log_Check : Ctx := [(n_flash_Check, c_flash_Check), (n_log_live, c_log_live)]
theorem ok_log_Check : Ok Try.prog tab Γ_log_Check := ((ok_nil.consC hf_log_live hB_log_live sound_log_live).consC hf_flash_Check hB_flash_Check sound_flash_Check)
theorem log_Check_vc (ws : List Int) (fu : Int) (rec : List It → St → Prop) (K : V → List Blk → Prop) v0 (hv0 : v0 = (checkFlash (⟨ws, fu⟩ : Flash))) v1 (hv1 : v1 = (okWords ws)) v2 (hv2 : v2 = (liveOk ws)) v3 (hv3 : v3 = (liveG ws)) : segD Γ_log_Check tab fn_log_Check 0 K rec [.code (bodyOf fn_log_Check)] (initSt [.agg [.dat (Ty.list Ty.int) ws, .dat Ty.int fu]] []) = (
    br (!(eqi v0 (0 : Int)))
     (K (.one (.dat Ty.int v0)) [])
     (br (lti (((len ws) : Nat) : Int) (64 : Int))
       (K (.one (.dat Ty.int (4 : Int))) [])
       (((64 ≤ (len ws)) ∧ (v1 = true)) ∧
        (br (!v2)
         (K (.one (.dat Ty.int (5 : Int))) [])
         (br (lti (60000 : Int) v3)
           (K (.one (.dat Ty.int (5 : Int))) [])
           (K (.one (.dat Ty.int (0 : Int))) [])))))) := by subst hv3; subst hv2; subst hv1; subst hv0; kernel_rfl
theorem log_Check_w (ws : List Int) (fu : Int) (m : Nat) (K : V → List Blk → Prop) : goD Γ_log_Check tab fn_log_Check 0 K (m + 1) [.code (bodyOf fn_log_Check)] (initSt [.agg [.dat (Ty.list Ty.int) ws, .dat Ty.int fu]] []) = segD Γ_log_Check tab fn_log_Check 0 K (goD Γ_log_Check tab fn_log_Check 0 K m) [.code (bodyOf fn_log_Check)] (initSt [.agg [.dat (Ty.list Ty.int) ws, .dat Ty.int fu]] []) := rfl

set_option maxHeartbeats 4000000 in
theorem run_log_Check (ws : List Int) (fu : Int) (K : V → List Blk → Prop) (hK : K (.one (.dat .int (checkLog ⟨ws, fu⟩))) []) : ∃ m, goD Γ_log_Check tab fn_log_Check 0 K m [.code (bodyOf fn_log_Check)] (initSt [.agg [.dat (.list .int) ws, .dat .int fu]] []) := by
  refine ⟨1, ?_⟩
  rw [log_Check_w, log_Check_vc _ _ _ _ _ rfl _ rfl _ rfl _ rfl]
  unfold checkLog at hK
  refine ne_s (fun h => ?_) (fun h => ?_)
  · rw [if_neg h] at hK; exact hK
  rw [if_pos h] at hK
  refine lt_s (fun h2 => ?_) (fun h2 => ?_)
  · rw [if_neg (by simp only [len] at h2 ⊢; omega)] at hK; exact hK
  rw [if_pos (by simp only [len] at h2 ⊢; omega)] at hK
  refine ⟨⟨by simp only [len] at h2 ⊢; omega, (checkFlash_ok h).2.2.2⟩, nt_s (fun h3 => ?_) (fun h3 => lt_s (fun h4 => ?_) (fun h4 => ?_))⟩
  · rw [if_neg (by simp only [liveOk, decide_eq_false_iff_not] at h3 ⊢; omega)] at hK; exact hK
  · rw [if_neg (by simp only; omega)] at hK; exact hK
  · rw [if_pos (by simp only [liveOk, decide_eq_true_eq] at h3 ⊢; omega)] at hK; exact hK
theorem sound_log_Check : SoundC Try.prog tab n_log_Check c_log_Check := soundC_of ok_log_Check hf_log_Check hB_log_Check (by
  intro vs bs p v bs' h hp
  unfold c_log_Check at h
  split at h
  · cases h
    exact ⟨by kernel_rfl, rfl, .inl (run_log_Check _ _ _ ⟨rfl, rfl⟩)⟩
  · cases h)

def c_slices_Clone_Record : Contract := fun vs bs => match vs, bs with
  | [.one (.dat (.list .int) l)], [] => some (some (len l * 8 ≤ 140737488355328), .one (.own 0), [.arr .int l])
  | _, _ => none
def Γ_slices_Clone_Record : Ctx := []
theorem ok_slices_Clone_Record : Ok Try.prog tab Γ_slices_Clone_Record := ok_nil
theorem slices_Clone_Record_vc (l : List Int) (rec : List It → St → Prop) (K : V → List Blk → Prop) : segO Γ_slices_Clone_Record tab fn_slices_Clone_Record 0 K rec [.code (bodyOf fn_slices_Clone_Record)] (initSt [.one (.dat (Ty.list Ty.int) l)] []) = (
    (∀ bn : Bool, (((bn = true) → ((len l) = 0)) → br bn
       (K (.one (.own 0)) [.arr Ty.int []])
       ((((0 + (len l)) * 8) ≤ 140737488355328) ∧
        (K (.one (.own 0)) [.arr Ty.int (cat [] l)]))))) := by kernel_rfl
theorem slices_Clone_Record_w (l : List Int) (m : Nat) (K : V → List Blk → Prop) : goO Γ_slices_Clone_Record tab fn_slices_Clone_Record 0 K (m + 1) [.code (bodyOf fn_slices_Clone_Record)] (initSt [.one (.dat (Ty.list Ty.int) l)] []) = segO Γ_slices_Clone_Record tab fn_slices_Clone_Record 0 K (goO Γ_slices_Clone_Record tab fn_slices_Clone_Record 0 K m) [.code (bodyOf fn_slices_Clone_Record)] (initSt [.one (.dat (Ty.list Ty.int) l)] []) := rfl

set_option maxHeartbeats 4000000 in
theorem run_slices_Clone_Record (l : List Int) (hp : len l * 8 ≤ 140737488355328) (K : V → List Blk → Prop) (hK : K (.one (.own 0)) [.arr .int l]) : ∃ m, goO Γ_slices_Clone_Record tab fn_slices_Clone_Record 0 K m [.code (bodyOf fn_slices_Clone_Record)] (initSt [.one (.dat (.list .int) l)] []) := by
  refine ⟨1, ?_⟩
  rw [slices_Clone_Record_w, slices_Clone_Record_vc _ _ _]
  intro bn hb
  refine br_split (fun h => ?_) (fun h => ⟨by simp only [len] at hp ⊢; omega, hK⟩)
  have : l = [] := List.length_eq_zero_iff.1 (hb h)
  subst this
  exact hK
theorem sound_slices_Clone_Record : SoundC Try.prog tab n_slices_Clone_Record c_slices_Clone_Record := soundC_of ok_slices_Clone_Record hf_slices_Clone_Record hB_slices_Clone_Record (by
  intro vs bs p v bs' h hp
  unfold c_slices_Clone_Record at h
  split at h
  · cases h
    exact ⟨by kernel_rfl, rfl, .inr (run_slices_Clone_Record _ hp.1 _ ⟨rfl, rfl⟩)⟩
  · cases h)

def c_log_scan : Contract := fun vs bs => match vs, bs with
  | [.agg [.dat (.list .int) ws, .dat .int _], .one (.dat .int sector)], [] => some (some (0 ≤ sector ∧ sector ≤ 1 ∧ 64 ≤ len ws ∧ len ws ≤ 192 ∧ okWords ws = true), .tup [.one (.dat (.list (.list .int)) (scanS ws sector.toNat).1), .one (.dat .int (nextI sector.toNat (scanS ws sector.toNat).2))], [])
  | _, _ => none
def Γ_log_scan : Ctx := [(n_slices_Clone_Record, c_slices_Clone_Record)]
theorem ok_log_scan : Ok Try.prog tab Γ_log_scan := (ok_nil.consC hf_slices_Clone_Record hB_slices_Clone_Record sound_slices_Clone_Record)
noncomputable def log_scan_L0 : List It := [.inLoop [7, 6, 5, 4, 1] (Code.sub (bodyOf fn_log_scan) [1, 1, 1, 0, 0, 0]), .inBlock 0, .code (Code.sub (bodyOf fn_log_scan) [1, 1, 1, 1])]
def log_scan_S0 (x0 : Int) (x1 : (List Int)) (x2 : Int) (x3 : Int) (x4 : (List (List Int))) : St := ⟨[(7, .one (.dat Ty.int x0)), (6, .one (.dat (Ty.list Ty.int) x1)), (5, .one (.dat Ty.int x2)), (4, .one (.own 0)), (1, .one (.dat Ty.int x3))], [(0, .arr (Ty.list Ty.int) x4)], 1⟩
noncomputable def log_scan_L1 : List It := [.inLoop [74, 73, 72, 7, 5, 4, 1] (Code.sub (bodyOf fn_log_scan) [1, 1, 1, 1, 0, 1, 0, 0]), .inBlock 2, .code (Code.sub (bodyOf fn_log_scan) [1, 1, 1, 1, 1])]
def log_scan_S1 (x0 : Int) (x1 : Int) (x2 : (List Int)) (x3 : Int) (x4 : Int) (x5 : Int) (x6 : (List (List Int))) : St := ⟨[(74, .one (.dat Ty.int x0)), (73, .one (.dat Ty.int x1)), (72, .one (.dat (Ty.list Ty.int) x2)), (7, .one (.dat Ty.int x3)), (5, .one (.dat Ty.int x4)), (4, .one (.own 0)), (1, .one (.dat Ty.int x5))], [(0, .arr (Ty.list Ty.int) x6)], 1⟩
theorem log_scan_vc (ws : List Int) (fu : Int) (sector : Int) (rec : List It → St → Prop) (K : V → List Blk → Prop) : segD Γ_log_scan tab fn_log_scan 0 K rec [.code (bodyOf fn_log_scan)] (initSt [.agg [.dat (Ty.list Ty.int) ws, .dat Ty.int fu], .one (.dat Ty.int sector)] []) = (
    (((0 : Int) ≤ (w64 (sector * (32 : Int)))) ∧ (((w64 (sector * (32 : Int))) ≤ (w64 ((w64 (sector + (1 : Int))) * (32 : Int)))) ∧ ((w64 ((w64 (sector + (1 : Int))) * (32 : Int))) ≤ (((len ws) : Nat) : Int)))) ∧
    (rec log_scan_L0 (log_scan_S0 (1 : Int) (slc ws (Int.toNat (w64 (sector * (32 : Int)))) (Int.toNat (w64 ((w64 (sector + (1 : Int))) * (32 : Int))))) (0 : Int) sector []))) := by kernel_rfl
theorem log_scan_w (ws : List Int) (fu : Int) (sector : Int) (m : Nat) (K : V → List Blk → Prop) : goD Γ_log_scan tab fn_log_scan 0 K (m + 1) [.code (bodyOf fn_log_scan)] (initSt [.agg [.dat (Ty.list Ty.int) ws, .dat Ty.int fu], .one (.dat Ty.int sector)] []) = segD Γ_log_scan tab fn_log_scan 0 K (goD Γ_log_scan tab fn_log_scan 0 K m) [.code (bodyOf fn_log_scan)] (initSt [.agg [.dat (Ty.list Ty.int) ws, .dat Ty.int fu], .one (.dat Ty.int sector)] []) := rfl
theorem log_scan_vc0 (x0 : Int) (x1 : (List Int)) (x2 : Int) (x3 : Int) (x4 : (List (List Int))) (rec : List It → St → Prop) (K : V → List Blk → Prop) : segD Γ_log_scan tab fn_log_scan 0 K rec (.code (Code.sub (bodyOf fn_log_scan) [1, 1, 1, 0, 0, 0]) :: log_scan_L0) (log_scan_S0 x0 x1 x2 x3 x4) = (
    br (lti x0 (((len x1) : Nat) : Int))
     ((((0 : Int) ≤ x0) ∧ (x0 < (((len x1) : Nat) : Int))) ∧
      (br (!(eqi (nth x1 (Int.toNat x0) (Ty.dflt Ty.int)) (65535 : Int)))
       ((((0 : Int) ≤ x0) ∧ (x0 < (((len x1) : Nat) : Int))) ∧
        (br (lti (xori (nth x1 (Int.toNat x0) (Ty.dflt Ty.int)) (42240 : Int)) (1 : Int))
         (K (.tup [.one (.dat (Ty.list (Ty.list Ty.int)) x4), .one (.dat Ty.int (-(1 : Int)))]) [])
         (br (lti (4 : Int) (xori (nth x1 (Int.toNat x0) (Ty.dflt Ty.int)) (42240 : Int)))
           (K (.tup [.one (.dat (Ty.list (Ty.list Ty.int)) x4), .one (.dat Ty.int (-(1 : Int)))]) [])
           (br (lti (((len x1) : Nat) : Int) (w64 ((w64 (x0 + (xori (nth x1 (Int.toNat x0) (Ty.dflt Ty.int)) (42240 : Int)))) + (1 : Int))))
             (K (.tup [.one (.dat (Ty.list (Ty.list Ty.int)) x4), .one (.dat Ty.int (-(1 : Int)))]) [])
             ((((0 : Int) ≤ (w64 (x0 + (1 : Int)))) ∧ (((w64 (x0 + (1 : Int))) ≤ (w64 ((w64 (x0 + (1 : Int))) + (xori (nth x1 (Int.toNat x0) (Ty.dflt Ty.int)) (42240 : Int))))) ∧ ((w64 ((w64 (x0 + (1 : Int))) + (xori (nth x1 (Int.toNat x0) (Ty.dflt Ty.int)) (42240 : Int)))) ≤ (((len x1) : Nat) : Int)))) ∧
              ((((len (slc x1 (Int.toNat (w64 (x0 + (1 : Int)))) (Int.toNat (w64 ((w64 (x0 + (1 : Int))) + (xori (nth x1 (Int.toNat x0) (Ty.dflt Ty.int)) (42240 : Int))))))) * 8) ≤ 140737488355328) ∧
              (((((len x4) + (len ((slc x1 (Int.toNat (w64 (x0 + (1 : Int)))) (Int.toNat (w64 ((w64 (x0 + (1 : Int))) + (xori (nth x1 (Int.toNat x0) (Ty.dflt Ty.int)) (42240 : Int)))))) :: []))) * 24) ≤ 140737488355328) ∧
              (rec log_scan_L0 (log_scan_S0 (w64 (x0 + (w64 ((xori (nth x1 (Int.toNat x0) (Ty.dflt Ty.int)) (42240 : Int)) + (1 : Int))))) x1 x2 x3 (cat x4 ((slc x1 (Int.toNat (w64 (x0 + (1 : Int)))) (Int.toNat (w64 ((w64 (x0 + (1 : Int))) + (xori (nth x1 (Int.toNat x0) (Ty.dflt Ty.int)) (42240 : Int)))))) :: [])))))))))))
       ((((0 : Int) ≤ (min x0 (((len x1) : Nat) : Int))) ∧ (((min x0 (((len x1) : Nat) : Int)) ≤ (((len x1) : Nat) : Int)) ∧ ((((len x1) : Nat) : Int) ≤ (((len x1) : Nat) : Int)))) ∧
        (rec log_scan_L1 (log_scan_S1 (0 : Int) (((len (slc x1 (Int.toNat (min x0 (((len x1) : Nat) : Int))) (Int.toNat (((len x1) : Nat) : Int)))) : Nat) : Int) (slc x1 (Int.toNat (min x0 (((len x1) : Nat) : Int))) (Int.toNat (((len x1) : Nat) : Int))) x0 x2 x3 x4)))))
     ((((0 : Int) ≤ (min x0 (((len x1) : Nat) : Int))) ∧ (((min x0 (((len x1) : Nat) : Int)) ≤ (((len x1) : Nat) : Int)) ∧ ((((len x1) : Nat) : Int) ≤ (((len x1) : Nat) : Int)))) ∧
      (rec log_scan_L1 (log_scan_S1 (0 : Int) (((len (slc x1 (Int.toNat (min x0 (((len x1) : Nat) : Int))) (Int.toNat (((len x1) : Nat) : Int)))) : Nat) : Int) (slc x1 (Int.toNat (min x0 (((len x1) : Nat) : Int))) (Int.toNat (((len x1) : Nat) : Int))) x0 x2 x3 x4)))) := by kernel_rfl
theorem log_scan_w0 (x0 : Int) (x1 : (List Int)) (x2 : Int) (x3 : Int) (x4 : (List (List Int))) (m : Nat) (K : V → List Blk → Prop) : goD Γ_log_scan tab fn_log_scan 0 K (m + 1) log_scan_L0 (log_scan_S0 x0 x1 x2 x3 x4) = segD Γ_log_scan tab fn_log_scan 0 K (goD Γ_log_scan tab fn_log_scan 0 K m) (.code (Code.sub (bodyOf fn_log_scan) [1, 1, 1, 0, 0, 0]) :: log_scan_L0) (log_scan_S0 x0 x1 x2 x3 x4) := rfl
theorem log_scan_vc1 (x0 : Int) (x1 : Int) (x2 : (List Int)) (x3 : Int) (x4 : Int) (x5 : Int) (x6 : (List (List Int))) (rec : List It → St → Prop) (K : V → List Blk → Prop) : segD Γ_log_scan tab fn_log_scan 0 K rec (.code (Code.sub (bodyOf fn_log_scan) [1, 1, 1, 1, 0, 1, 0, 0]) :: log_scan_L1) (log_scan_S1 x0 x1 x2 x3 x4 x5 x6) = (
    br (lti x0 x1)
     ((((0 : Int) ≤ x0) ∧ (x0 < (((len x2) : Nat) : Int))) ∧
      (br (!(eqi (nth x2 (Int.toNat x0) (Ty.dflt Ty.int)) (65535 : Int)))
       (K (.tup [.one (.dat (Ty.list (Ty.list Ty.int)) x6), .one (.dat Ty.int (-(1 : Int)))]) [])
       (rec log_scan_L1 (log_scan_S1 (w64 (x0 + (1 : Int))) x1 x2 x3 x4 x5 x6))))
     (K (.tup [.one (.dat (Ty.list (Ty.list Ty.int)) x6), .one (.dat Ty.int (w64 ((w64 (x5 * (32 : Int))) + x3)))]) [])) := by kernel_rfl
theorem log_scan_w1 (x0 : Int) (x1 : Int) (x2 : (List Int)) (x3 : Int) (x4 : Int) (x5 : Int) (x6 : (List (List Int))) (m : Nat) (K : V → List Blk → Prop) : goD Γ_log_scan tab fn_log_scan 0 K (m + 1) log_scan_L1 (log_scan_S1 x0 x1 x2 x3 x4 x5 x6) = segD Γ_log_scan tab fn_log_scan 0 K (goD Γ_log_scan tab fn_log_scan 0 K m) (.code (Code.sub (bodyOf fn_log_scan) [1, 1, 1, 1, 0, 1, 0, 0]) :: log_scan_L1) (log_scan_S1 x0 x1 x2 x3 x4 x5 x6) := rfl

theorem clean_log_scan (x3 x4 x5 : Int) (x6 : List (List Int)) (K : V → List Blk → Prop) (t : List Int) (ht : t.length ≤ 32)
    (hK : K (.tup [.one (.dat (.list (.list .int)) x6), .one (.dat .int (if allClean t then w64 (w64 (x5 * 32) + x3) else -1))]) []) : ∀ (d k : Nat), t.length ≤ k + d → k ≤ t.length → allClean (t.take k) = true →
    goD Γ_log_scan tab fn_log_scan 0 K (d + 1) log_scan_L1 (log_scan_S1 (k : Int) (((len t) : Nat) : Int) t x3 x4 x5 x6)
  | 0, k, hk, hk2, he => by
    rw [log_scan_w1, log_scan_vc1 _ _ _ _ _ _ _ _ _]
    rw [List.take_of_length_le (by omega)] at he
    rw [if_pos he] at hK
    exact lt_f (by simp only [len]; omega) hK
  | d + 1, k, hk, hk2, he => by
    rw [log_scan_w1, log_scan_vc1 _ _ _ _ _ _ _ _ _, toNat_nat]
    by_cases c : k = t.length
    · rw [List.take_of_length_le (by omega)] at he
      rw [if_pos he] at hK
      exact lt_f (by simp only [len]; omega) hK
    refine lt_t (by simp only [len]; omega) ⟨⟨by omega, by simp only [len]; omega⟩, ne_s (fun hne => ?_) (fun heq => ?_)⟩
    · rw [if_neg (by rw [show allClean t = false from all_false (k := k) (by omega) (Ty.dflt Ty.int) (by simpa using hne)]; simp)] at hK
      exact hK
    · rw [w64_succ (by omega)]
      exact clean_log_scan x3 x4 x5 x6 K t ht hK d (k + 1) (by omega) (by omega) (all_take_step (by omega) (Ty.dflt Ty.int) he (by simpa using heq))
theorem exit_log_scan (s : List Int) (sec : Nat) (hsec : sec ≤ 1) (hl : s.length = 32) (K : V → List Blk → Prop) (k : Nat) (hk : k ≤ 32) (acc : List (List Int)) (M : Nat)
    (hK : K (.tup [.one (.dat (.list (.list .int)) acc), .one (.dat .int (if allClean (s.drop k) then 32 * (sec : Int) + k else -1))]) []) :
    goD Γ_log_scan tab fn_log_scan 0 K (M + 33) log_scan_L1 (log_scan_S1 (0 : Int) (((len (slc s (Int.toNat (min (k : Int) (((len s) : Nat) : Int))) (Int.toNat (((len s) : Nat) : Int)))) : Nat) : Int) (slc s (Int.toNat (min (k : Int) (((len s) : Nat) : Int))) (Int.toNat (((len s) : Nat) : Int))) (k : Int) 0 (sec : Int) acc) := by
  rw [show Int.toNat (min (k : Int) (((len s) : Nat) : Int)) = k by simp only [len]; omega, show Int.toNat (((len s) : Nat) : Int) = s.length from rfl, slc_drop]
  refine clean_log_scan _ _ _ _ K (s.drop k) (by simp; omega) ?_ (M + 32) 0 (by simp; omega) (by omega) rfl
  rw [w64_id (n := (sec : Int) * 32) (by omega) (by omega), w64_id (by omega) (by omega), show (sec : Int) * 32 + (k : Int) = 32 * (sec : Int) + k by omega]
  exact hK
theorem loop_log_scan (s : List Int) (sec : Nat) (hsec : sec ≤ 1) (hl : s.length = 32) (hok : okWords s = true) (K : V → List Blk → Prop) : ∀ (m k : Nat) (acc : List (List Int)), k ≤ 32 → 32 ≤ m + k → acc.length ≤ k →
    K (.tup [.one (.dat (.list (.list .int)) (acc ++ (scanL m (s.drop k)).1)), .one (.dat .int (match (scanL m (s.drop k)).2 with | some n => 32 * (sec : Int) + k + n | none => -1))]) [] →
    goD Γ_log_scan tab fn_log_scan 0 K (m + 34) log_scan_L0 (log_scan_S0 (k : Int) s 0 (sec : Int) acc)
  | 0, k, acc, hk, hm, ha, hK => by
    have : k = 32 := by omega
    subst this
    rw [show 0 + 34 = 33 + 1 by omega, log_scan_w0, log_scan_vc0 _ _ _ _ _ _ _]
    simp only [scanL, List.append_nil] at hK
    refine lt_f (by simp only [len]; omega) ⟨⟨by simp only [len]; omega, by simp only [len]; omega, by omega⟩, exit_log_scan s sec hsec hl K 32 (by omega) acc 0 ?_⟩
    rw [List.drop_of_length_le (by omega)]
    simpa [allClean] using hK
  | m + 1, k, acc, hk, hm, ha, hK => by
    rw [show m + 1 + 34 = (m + 34) + 1 by omega, log_scan_w0, log_scan_vc0 _ _ _ _ _ _ _, toNat_nat]
    by_cases c : k = 32
    · subst c
      rw [List.drop_of_length_le (by omega)] at hK
      simp only [scanL, List.append_nil] at hK
      refine lt_f (by simp only [len]; omega) ⟨⟨by simp only [len]; omega, by simp only [len]; omega, by omega⟩, exit_log_scan s sec hsec hl K 32 (by omega) acc (m + 1) ?_⟩
      rw [List.drop_of_length_le (by omega)]
      simpa [allClean] using hK
    rw [drop_step (by omega) (Ty.dflt Ty.int)] at hK
    obtain ⟨x, hx⟩ : ∃ x, nth s k (Ty.dflt Ty.int) = x := ⟨_, rfl⟩
    have hxo : okWord x = true := hx ▸ okWords_at hok k (by omega)
    rw [hx] at hK ⊢
    simp only [scanL] at hK
    refine lt_t (by simp only [len]; omega) ⟨⟨by omega, by simp only [len]; omega⟩, ne_s (fun hne => ?_) (fun heq => ?_)⟩
    case refine_2 =>
      rw [if_pos heq] at hK
      refine ⟨⟨by simp only [len]; omega, by simp only [len]; omega, by omega⟩, exit_log_scan s sec hsec hl K k hk acc (m + 1) ?_⟩
      rw [drop_step (by omega) (Ty.dflt Ty.int), hx]
      have e : allClean (x :: s.drop (k + 1)) = allClean (s.drop (k + 1)) := by simp [allClean, heq]
      rw [e]
      cases hc : allClean (s.drop (k + 1))
      · simpa [hc] using hK
      · simpa [hc] using hK
    rw [if_neg hne] at hK
    obtain ⟨g1, g2, g3, g4⟩ := xori_head hxo
    have none' : headN x = 0 → K (.tup [.one (.dat (.list (.list .int)) acc), .one (.dat .int (-1))]) [] := fun h => by
      rw [if_pos h] at hK
      simpa using hK
    refine ⟨⟨by omega, by simp only [len]; omega⟩, lt_s (fun h1 => none' (g3 (.inl h1))) (fun h1 => lt_s (fun h2 => none' (g3 (.inr h2))) (fun h2 => ?_))⟩
    obtain ⟨e1, e2, e3⟩ := g4 h1 h2
    rw [if_neg e2] at hK
    rw [e1]
    obtain ⟨n, hn⟩ : ∃ n, headN x = n := ⟨_, rfl⟩
    rw [hn] at hK e2 e3 ⊢
    rw [w64_id (n := (k : Int) + (n : Int)) (by omega) (by omega), w64_id (n := (k : Int) + (n : Int) + 1) (by omega) (by omega), w64_id (n := (k : Int) + 1) (by omega) (by omega), w64_id (n := (k : Int) + 1 + (n : Int)) (by omega) (by omega), w64_id (n := (n : Int) + 1) (by omega) (by omega), w64_id (n := (k : Int) + ((n : Int) + 1)) (by omega) (by omega)]
    have ld : (s.drop (k + 1)).length = 31 - k := by simp; omega
    refine lt_s (fun h3 => ?_) (fun h3 => ?_)
    · rw [if_neg (by simp only [len] at h3; omega)] at hK
      simpa using hK
    · simp only [len] at h3
      rw [if_pos (by omega)] at hK
      rw [show Int.toNat ((k : Int) + 1) = k + 1 by omega, show Int.toNat ((k : Int) + 1 + (n : Int)) = k + 1 + n by omega, show (k : Int) + ((n : Int) + 1) = ((k + 1 + n : Nat) : Int) by omega]
      have es : slc s (k + 1) (k + 1 + n) = (s.drop (k + 1)).take n := by simp [slc, List.take_drop]
      rw [es]
      refine ⟨⟨by omega, by omega, by simp only [len]; omega⟩, by simp only [len, List.length_take]; omega, by simp only [len, List.length_cons, List.length_nil]; omega, ?_⟩
      refine loop_log_scan s sec hsec hl hok K m (k + 1 + n) _ (by omega) (by omega) (by simp only [cat, List.length_append, List.length_cons, List.length_nil]; omega) ?_
      rw [List.drop_drop] at hK
      have hK' := hK
      simp only [cat, List.append_assoc, List.cons_append, List.nil_append] at hK' ⊢
      cases hsc : (scanL m (s.drop (k + 1 + n))).2 with
      | none => simpa [hsc] using hK'
      | some p =>
        simp only [hsc, Option.map] at hK'
        rw [show 32 * (sec : Int) + (k : Int) + ((p + n + 1 : Nat) : Int) = 32 * (sec : Int) + ((k + 1 + n : Nat) : Int) + (p : Int) by omega] at hK'
        exact hK'
set_option maxHeartbeats 4000000 in
theorem run_log_scan (ws : List Int) (fu sector : Int) (hp : 0 ≤ sector ∧ sector ≤ 1 ∧ 64 ≤ len ws ∧ len ws ≤ 192 ∧ okWords ws = true) (K : V → List Blk → Prop) (hK : K (.tup [.one (.dat (.list (.list .int)) (scanS ws sector.toNat).1), .one (.dat .int (nextI sector.toNat (scanS ws sector.toNat).2))]) []) : ∃ m, goD Γ_log_scan tab fn_log_scan 0 K m [.code (bodyOf fn_log_scan)] (initSt [.agg [.dat (.list .int) ws, .dat .int fu], .one (.dat .int sector)] []) := by
  obtain ⟨h0, h1, h2, h3, hok⟩ := hp
  obtain ⟨sec, rfl⟩ := Int.eq_ofNat_of_zero_le h0
  refine ⟨32 + 34 + 1, ?_⟩
  rw [log_scan_w, log_scan_vc _ _ _ _ _]
  rw [w64_id (n := (sec : Int) * 32) (by omega) (by omega), w64_id (n := (sec : Int) + 1) (by omega) (by omega), w64_id (by omega) (by omega)]
  simp only [len] at h2 h3 ⊢
  refine ⟨⟨by omega, by omega, by omega⟩, ?_⟩
  rw [show Int.toNat ((sec : Int) * 32) = 32 * sec by omega, show Int.toNat (((sec : Int) + 1) * 32) = 32 * sec + 32 by omega]
  refine loop_log_scan (slc ws (32 * sec) (32 * sec + 32)) sec (by omega) (slc_len _ _ _ (by omega)) (slc_ok hok _ _) K 32 1 [] (by omega) (by omega) (by simp) ?_
  rw [toNat_nat] at hK
  unfold scanS sectorW at hK
  rw [List.nil_append]
  cases hsc : (scanL 32 ((slc ws (32 * sec) (32 * sec + 32)).drop 1)).2 with
  | none =>
    simp only [hsc, nextI] at hK
    exact hK
  | some p =>
    simp only [hsc, nextI] at hK
    exact hK
theorem sound_log_scan : SoundC Try.prog tab n_log_scan c_log_scan := soundC_of ok_log_scan hf_log_scan hB_log_scan (by
  intro vs bs p v bs' h hp
  unfold c_log_scan at h
  split at h
  · cases h
    exact ⟨by kernel_rfl, rfl, .inl (run_log_scan _ _ _ hp.1 _ ⟨rfl, rfl⟩)⟩
  · cases h)

def c_log_Records : Contract := fun vs bs => match vs, bs with
  | [.agg [.dat (.list .int) ws, .dat .int fu]], [] => some (none, .tup [.one (.dat (.list (.list .int)) (recordsF ⟨ws, fu⟩).1), .one (.dat .int (recordsF ⟨ws, fu⟩).2)], [])
  | _, _ => none
def Γ_log_Records : Ctx := [(n_log_Check, c_log_Check), (n_log_live, c_log_live), (n_log_scan, c_log_scan)]
theorem ok_log_Records : Ok Try.prog tab Γ_log_Records := (((ok_nil.consC hf_log_scan hB_log_scan sound_log_scan).consC hf_log_live hB_log_live sound_log_live).consC hf_log_Check hB_log_Check sound_log_Check)
theorem log_Records_vc (ws : List Int) (fu : Int) (rec : List It → St → Prop) (K : V → List Blk → Prop) v0 (hv0 : v0 = (checkLog (⟨ws, fu⟩ : Flash))) v1 (hv1 : v1 = (okWords ws)) v2 (hv2 : v2 = (liveS ws)) v3 (hv3 : v3 = (scanS ws (Int.toNat ((v2 : Nat) : Int)))) : segD Γ_log_Records tab fn_log_Records 0 K rec [.code (bodyOf fn_log_Records)] (initSt [.agg [.dat (Ty.list Ty.int) ws, .dat Ty.int fu]] []) = (
    br (!(eqi v0 (0 : Int)))
     (K (.tup [.one (.dat (Ty.list (Ty.list Ty.int)) []), .one (.dat Ty.int v0)]) [])
     (((64 ≤ (len ws)) ∧ (v1 = true)) ∧
      ((((0 : Int) ≤ ((v2 : Nat) : Int)) ∧ ((((v2 : Nat) : Int) ≤ (1 : Int)) ∧ ((64 ≤ (len ws)) ∧ (((len ws) ≤ 192) ∧ (v1 = true))))) ∧
      (K (.tup [.one (.dat (Ty.list (Ty.list Ty.int)) (v3).fst), .one (.dat Ty.int (0 : Int))]) [])))) := by subst hv3; subst hv2; subst hv1; subst hv0; kernel_rfl
theorem log_Records_w (ws : List Int) (fu : Int) (m : Nat) (K : V → List Blk → Prop) : goD Γ_log_Records tab fn_log_Records 0 K (m + 1) [.code (bodyOf fn_log_Records)] (initSt [.agg [.dat (Ty.list Ty.int) ws, .dat Ty.int fu]] []) = segD Γ_log_Records tab fn_log_Records 0 K (goD Γ_log_Records tab fn_log_Records 0 K m) [.code (bodyOf fn_log_Records)] (initSt [.agg [.dat (Ty.list Ty.int) ws, .dat Ty.int fu]] []) := rfl

set_option maxHeartbeats 4000000 in
theorem run_log_Records (ws : List Int) (fu : Int) (K : V → List Blk → Prop) (hK : K (.tup [.one (.dat (.list (.list .int)) (recordsF ⟨ws, fu⟩).1), .one (.dat .int (recordsF ⟨ws, fu⟩).2)]) []) : ∃ m, goD Γ_log_Records tab fn_log_Records 0 K m [.code (bodyOf fn_log_Records)] (initSt [.agg [.dat (.list .int) ws, .dat .int fu]] []) := by
  refine ⟨1, ?_⟩
  rw [log_Records_w, log_Records_vc _ _ _ _ _ rfl _ rfl _ rfl _ rfl]
  unfold recordsF at hK
  refine ne_s (fun h => ?_) (fun h => ?_)
  · rw [if_neg h] at hK; exact hK
  rw [if_pos h] at hK
  obtain ⟨k1, k2, k3, k4⟩ := checkLog_ok h
  obtain ⟨c1, c2, c3, c4⟩ := checkFlash_ok k1
  obtain ⟨c5, c6⟩ := okLen_le c1
  have := liveS_le ws
  exact ⟨⟨k2, c4⟩, ⟨by omega, by omega, k2, c6, c4⟩, hK⟩
theorem sound_log_Records : SoundC Try.prog tab n_log_Records c_log_Records := soundC_of ok_log_Records hf_log_Records hB_log_Records (by
  intro vs bs p v bs' h hp
  unfold c_log_Records at h
  split at h
  · cases h
    exact ⟨by kernel_rfl, rfl, .inl (run_log_Records _ _ _ ⟨rfl, rfl⟩)⟩
  · cases h)

def c_log_check_1 : Contract := fun vs bs => match vs, bs with
  | [.one (.dat .int w)], [] => some (none, .one (.dat .bool (!okWord w)), [])
  | _, _ => none
def Γ_log_check_1 : Ctx := []
theorem ok_log_check_1 : Ok Try.prog tab Γ_log_check_1 := ok_nil
theorem log_check_1_vc (w : Int) (rec : List It → St → Prop) (K : V → List Blk → Prop) : segD Γ_log_check_1 tab fn_log_check_1 0 K rec [.code (bodyOf fn_log_check_1)] (initSt [.one (.dat Ty.int w)] []) = (
    br (lti w (0 : Int))
     (K (.one (.dat Ty.bool true)) [])
     (K (.one (.dat Ty.bool (lti (65535 : Int) w))) [])) := by kernel_rfl
theorem log_check_1_w (w : Int) (m : Nat) (K : V → List Blk → Prop) : goD Γ_log_check_1 tab fn_log_check_1 0 K (m + 1) [.code (bodyOf fn_log_check_1)] (initSt [.one (.dat Ty.int w)] []) = segD Γ_log_check_1 tab fn_log_check_1 0 K (goD Γ_log_check_1 tab fn_log_check_1 0 K m) [.code (bodyOf fn_log_check_1)] (initSt [.one (.dat Ty.int w)] []) := rfl

set_option maxHeartbeats 4000000 in
theorem run_log_check_1 (w : Int) (K : V → List Blk → Prop) (hK : K (.one (.dat .bool (!okWord w))) []) : ∃ m, goD Γ_log_check_1 tab fn_log_check_1 0 K m [.code (bodyOf fn_log_check_1)] (initSt [.one (.dat .int w)] []) := by
  refine ⟨1, ?_⟩
  rw [log_check_1_w, log_check_1_vc _ _ _]
  refine lt_s (fun h => ?_) (fun h => ?_)
  · rw [show (!okWord w) = true from by simp [okWord]; omega] at hK; exact hK
  · rw [show (!okWord w) = lti 65535 w from by simp [okWord, lti, h]; by_cases h2 : w ≤ 65535 <;> simp [h2] <;> omega] at hK; exact hK
theorem sound_log_check_1 : SoundC Try.prog tab n_log_check_1 c_log_check_1 := soundC_of ok_log_check_1 hf_log_check_1 hB_log_check_1 (by
  intro vs bs p v bs' h hp
  unfold c_log_check_1 at h
  split at h
  · cases h
    exact ⟨by kernel_rfl, rfl, .inl (run_log_check_1 _ _ ⟨rfl, rfl⟩)⟩
  · cases h)

def c_slices_IndexFunc_Record : Contract := fun vs bs => match vs, bs with
  | [.one (.dat (.list .int) l), .one (.fn f [])], [] => (match Nat.beq f n_log_check_1 with | true => some (some (Sm l), .one (.dat .int (firstBad l)), []) | false => none)
  | _, _ => none
def Γ_slices_IndexFunc_Record : Ctx := [(n_log_check_1, c_log_check_1)]
theorem ok_slices_IndexFunc_Record : Ok Try.prog tab Γ_slices_IndexFunc_Record := (ok_nil.consC hf_log_check_1 hB_log_check_1 sound_log_check_1)
noncomputable def slices_IndexFunc_Record_0_L0 : List It := [.inLoop [8, 7, 4, 0, 1] (Code.sub (bodyOf fn_slices_IndexFunc_Record) [1, 0, 1, 0, 0]), .inBlock 0, .code (Code.sub (bodyOf fn_slices_IndexFunc_Record) [1, 1])]
def slices_IndexFunc_Record_0_S0 (x0 : Int) (x1 : Int) (x2 : Int) (x3 : (List Int)) : St := ⟨[(8, .one (.dat Ty.int x0)), (7, .one (.dat Ty.int x1)), (4, .one (.dat Ty.int x2)), (0, .one (.dat (Ty.list Ty.int) x3)), (1, .one (.fn n_log_check_1 []))], [], 0⟩
theorem slices_IndexFunc_Record_0_vc (l : List Int) (rec : List It → St → Prop) (K : V → List Blk → Prop) : segD Γ_slices_IndexFunc_Record tab fn_slices_IndexFunc_Record 0 K rec [.code (bodyOf fn_slices_IndexFunc_Record)] (initSt [.one (.dat (Ty.list Ty.int) l), .one (.fn n_log_check_1 [])] []) = (
    rec slices_IndexFunc_Record_0_L0 (slices_IndexFunc_Record_0_S0 (0 : Int) (((len l) : Nat) : Int) (0 : Int) l)) := by kernel_rfl
theorem slices_IndexFunc_Record_0_w (l : List Int) (m : Nat) (K : V → List Blk → Prop) : goD Γ_slices_IndexFunc_Record tab fn_slices_IndexFunc_Record 0 K (m + 1) [.code (bodyOf fn_slices_IndexFunc_Record)] (initSt [.one (.dat (Ty.list Ty.int) l), .one (.fn n_log_check_1 [])] []) = segD Γ_slices_IndexFunc_Record tab fn_slices_IndexFunc_Record 0 K (goD Γ_slices_IndexFunc_Record tab fn_slices_IndexFunc_Record 0 K m) [.code (bodyOf fn_slices_IndexFunc_Record)] (initSt [.one (.dat (Ty.list Ty.int) l), .one (.fn n_log_check_1 [])] []) := rfl
theorem slices_IndexFunc_Record_0_vc0 (x0 : Int) (x1 : Int) (x2 : Int) (x3 : (List Int)) (rec : List It → St → Prop) (K : V → List Blk → Prop) v0 (hv0 : v0 = (okWord (nth x3 (Int.toNat x0) (Ty.dflt Ty.int)))) : segD Γ_slices_IndexFunc_Record tab fn_slices_IndexFunc_Record 0 K rec (.code (Code.sub (bodyOf fn_slices_IndexFunc_Record) [1, 0, 1, 0, 0]) :: slices_IndexFunc_Record_0_L0) (slices_IndexFunc_Record_0_S0 x0 x1 x2 x3) = (
    br (lti x0 x1)
     ((((0 : Int) ≤ x0) ∧ (x0 < (((len x3) : Nat) : Int))) ∧
      (br (!v0)
       (K (.one (.dat Ty.int x0)) [])
       (rec slices_IndexFunc_Record_0_L0 (slices_IndexFunc_Record_0_S0 (w64 (x0 + (1 : Int))) x1 x2 x3))))
     (K (.one (.dat Ty.int (-(1 : Int)))) [])) := by subst hv0; kernel_rfl
theorem slices_IndexFunc_Record_0_w0 (x0 : Int) (x1 : Int) (x2 : Int) (x3 : (List Int)) (m : Nat) (K : V → List Blk → Prop) : goD Γ_slices_IndexFunc_Record tab fn_slices_IndexFunc_Record 0 K (m + 1) slices_IndexFunc_Record_0_L0 (slices_IndexFunc_Record_0_S0 x0 x1 x2 x3) = segD Γ_slices_IndexFunc_Record tab fn_slices_IndexFunc_Record 0 K (goD Γ_slices_IndexFunc_Record tab fn_slices_IndexFunc_Record 0 K m) (.code (Code.sub (bodyOf fn_slices_IndexFunc_Record) [1, 0, 1, 0, 0]) :: slices_IndexFunc_Record_0_L0) (slices_IndexFunc_Record_0_S0 x0 x1 x2 x3) := rfl

theorem loop_slices_IndexFunc_Record_0 (l : List Int) (hs : Sm l) (K : V → List Blk → Prop) : ∀ (d k : Nat), k + d = l.length → K (.one (.dat .int (firstBadFrom k (l.drop k)))) [] →
    goD Γ_slices_IndexFunc_Record tab fn_slices_IndexFunc_Record 0 K (d + 1) slices_IndexFunc_Record_0_L0 (slices_IndexFunc_Record_0_S0 (k : Int) (((len l) : Nat) : Int) 0 l)
  | 0, k, hk, hK => by
    rw [slices_IndexFunc_Record_0_w0, slices_IndexFunc_Record_0_vc0 _ _ _ _ _ _ _ rfl]
    refine lt_f (by simp only [len]; omega) ?_
    rw [List.drop_of_length_le (by omega)] at hK
    exact hK
  | d + 1, k, hk, hK => by
    have hs' := hs
    unfold Sm at hs'
    rw [slices_IndexFunc_Record_0_w0, slices_IndexFunc_Record_0_vc0 _ _ _ _ _ _ _ rfl]
    rw [drop_step (by omega) (Ty.dflt Ty.int)] at hK
    simp only [firstBadFrom] at hK
    refine lt_t (by simp only [len]; omega) ⟨⟨by omega, by simp only [len]; omega⟩, nt_s (fun h => ?_) (fun h => ?_)⟩
    · rw [toNat_nat] at h
      rw [if_neg (by rw [h]; simp)] at hK
      exact hK
    · rw [toNat_nat] at h
      rw [if_pos h] at hK
      rw [w64_succ (by omega)]
      exact loop_slices_IndexFunc_Record_0 l hs K d (k + 1) (by omega) hK
set_option maxHeartbeats 4000000 in
theorem run_slices_IndexFunc_Record_0 (l : List Int) (hp : Sm l) (K : V → List Blk → Prop) (hK : K (.one (.dat .int (firstBad l))) []) : ∃ m, goD Γ_slices_IndexFunc_Record tab fn_slices_IndexFunc_Record 0 K m [.code (bodyOf fn_slices_IndexFunc_Record)] (initSt [.one (.dat (.list .int) l), .one (.fn n_log_check_1 [])] []) := by
  refine ⟨l.length + 2, ?_⟩
  rw [slices_IndexFunc_Record_0_w, slices_IndexFunc_Record_0_vc _ _ _]
  exact loop_slices_IndexFunc_Record_0 l hp K l.length 0 (by omega) hK
theorem sound_slices_IndexFunc_Record : SoundC Try.prog tab n_slices_IndexFunc_Record c_slices_IndexFunc_Record := soundC_of ok_slices_IndexFunc_Record hf_slices_IndexFunc_Record hB_slices_IndexFunc_Record (by
  intro vs bs p v bs' h hp
  unfold c_slices_IndexFunc_Record at h
  split at h
  · split at h
    · rename_i hfn
      have hfn := Nat.eq_of_beq_eq_true hfn
      subst hfn
      cases h
      exact ⟨by kernel_rfl, rfl, .inl (run_slices_IndexFunc_Record_0 _ hp.1 _ ⟨rfl, rfl⟩)⟩
    · cases h
  · cases h)

def c_slices_ContainsFunc_Record : Contract := fun vs bs => match vs, bs with
  | [.one (.dat (.list .int) l), .one (.fn f [])], [] => (match Nat.beq f n_log_check_1 with | true => some (some (Sm l), .one (.dat .bool (!okWords l)), []) | false => none)
  | _, _ => none
def Γ_slices_ContainsFunc_Record : Ctx := [(n_slices_IndexFunc_Record, c_slices_IndexFunc_Record), (n_log_check_1, c_log_check_1)]
theorem ok_slices_ContainsFunc_Record : Ok Try.prog tab Γ_slices_ContainsFunc_Record := ((ok_nil.consC hf_log_check_1 hB_log_check_1 sound_log_check_1).consC hf_slices_IndexFunc_Record hB_slices_IndexFunc_Record sound_slices_IndexFunc_Record)
theorem slices_ContainsFunc_Record_0_vc (l : List Int) (rec : List It → St → Prop) (K : V → List Blk → Prop) v0 (hv0 : v0 = (firstBad l)) : segD Γ_slices_ContainsFunc_Record tab fn_slices_ContainsFunc_Record 0 K rec [.code (bodyOf fn_slices_ContainsFunc_Record)] (initSt [.one (.dat (Ty.list Ty.int) l), .one (.fn n_log_check_1 [])] []) = (
    ((List.length l) ≤ 140737488355328) ∧
    (K (.one (.dat Ty.bool (lei (0 : Int) v0))) [])) := by subst hv0; kernel_rfl
theorem slices_ContainsFunc_Record_0_w (l : List Int) (m : Nat) (K : V → List Blk → Prop) : goD Γ_slices_ContainsFunc_Record tab fn_slices_ContainsFunc_Record 0 K (m + 1) [.code (bodyOf fn_slices_ContainsFunc_Record)] (initSt [.one (.dat (Ty.list Ty.int) l), .one (.fn n_log_check_1 [])] []) = segD Γ_slices_ContainsFunc_Record tab fn_slices_ContainsFunc_Record 0 K (goD Γ_slices_ContainsFunc_Record tab fn_slices_ContainsFunc_Record 0 K m) [.code (bodyOf fn_slices_ContainsFunc_Record)] (initSt [.one (.dat (Ty.list Ty.int) l), .one (.fn n_log_check_1 [])] []) := rfl

theorem firstBad_slices_ContainsFunc_Record : ∀ (l : List Int) (k : Int), 0 ≤ k → lei 0 (firstBadFrom k l) = !okWords l
  | [], k, hk => by simp [firstBadFrom, okWords, lei]
  | w :: l, k, hk => by
    simp only [firstBadFrom, okWords, List.all_cons]
    cases h : okWord w with
    | true => simpa [okWords] using firstBad_slices_ContainsFunc_Record l (k + 1) (by omega)
    | false => simp [lei, hk]
set_option maxHeartbeats 4000000 in
theorem run_slices_ContainsFunc_Record_0 (l : List Int) (hp : Sm l) (K : V → List Blk → Prop) (hK : K (.one (.dat .bool (!okWords l))) []) : ∃ m, goD Γ_slices_ContainsFunc_Record tab fn_slices_ContainsFunc_Record 0 K m [.code (bodyOf fn_slices_ContainsFunc_Record)] (initSt [.one (.dat (.list .int) l), .one (.fn n_log_check_1 [])] []) := by
  refine ⟨1, ?_⟩
  rw [slices_ContainsFunc_Record_0_w, slices_ContainsFunc_Record_0_vc _ _ _ _ rfl]
  refine ⟨hp, ?_⟩
  rw [show lei 0 (firstBad l) = !okWords l from firstBad_slices_ContainsFunc_Record l 0 (by omega)]
  exact hK
theorem sound_slices_ContainsFunc_Record : SoundC Try.prog tab n_slices_ContainsFunc_Record c_slices_ContainsFunc_Record := soundC_of ok_slices_ContainsFunc_Record hf_slices_ContainsFunc_Record hB_slices_ContainsFunc_Record (by
  intro vs bs p v bs' h hp
  unfold c_slices_ContainsFunc_Record at h
  split at h
  · split at h
    · rename_i hfn
      have hfn := Nat.eq_of_beq_eq_true hfn
      subst hfn
      cases h
      exact ⟨by kernel_rfl, rfl, .inl (run_slices_ContainsFunc_Record_0 _ hp.1 _ ⟨rfl, rfl⟩)⟩
    · cases h
  · cases h)

def c_log_check : Contract := fun vs bs => match vs, bs with
  | [.one (.dat (.list .int) l)], [] => some (some (Sm l), .one (.dat .int (checkRec l)), [])
  | _, _ => none
def Γ_log_check : Ctx := [(n_slices_ContainsFunc_Record, c_slices_ContainsFunc_Record), (n_log_check_1, c_log_check_1)]
theorem ok_log_check : Ok Try.prog tab Γ_log_check := ((ok_nil.consC hf_log_check_1 hB_log_check_1 sound_log_check_1).consC hf_slices_ContainsFunc_Record hB_slices_ContainsFunc_Record sound_slices_ContainsFunc_Record)
theorem log_check_vc (l : List Int) (rec : List It → St → Prop) (K : V → List Blk → Prop) v0 (hv0 : v0 = (okWords l)) : segD Γ_log_check tab fn_log_check 0 K rec [.code (bodyOf fn_log_check)] (initSt [.one (.dat (Ty.list Ty.int) l)] []) = (
    br (eqi (((len l) : Nat) : Int) (0 : Int))
     (K (.one (.dat Ty.int (2 : Int))) [])
     (br (lti (4 : Int) (((len l) : Nat) : Int))
       (K (.one (.dat Ty.int (2 : Int))) [])
       (((List.length l) ≤ 140737488355328) ∧
        (br (!v0)
         (K (.one (.dat Ty.int (3 : Int))) [])
         (K (.one (.dat Ty.int (0 : Int))) []))))) := by subst hv0; kernel_rfl
theorem log_check_w (l : List Int) (m : Nat) (K : V → List Blk → Prop) : goD Γ_log_check tab fn_log_check 0 K (m + 1) [.code (bodyOf fn_log_check)] (initSt [.one (.dat (Ty.list Ty.int) l)] []) = segD Γ_log_check tab fn_log_check 0 K (goD Γ_log_check tab fn_log_check 0 K m) [.code (bodyOf fn_log_check)] (initSt [.one (.dat (Ty.list Ty.int) l)] []) := rfl

set_option maxHeartbeats 4000000 in
theorem run_log_check (l : List Int) (hp : Sm l) (K : V → List Blk → Prop) (hK : K (.one (.dat .int (checkRec l))) []) : ∃ m, goD Γ_log_check tab fn_log_check 0 K m [.code (bodyOf fn_log_check)] (initSt [.one (.dat (.list .int) l)] []) := by
  refine ⟨1, ?_⟩
  rw [log_check_w, log_check_vc _ _ _ _ rfl]
  unfold checkRec at hK
  refine eq_s (fun h => ?_) (fun h => lt_s (fun h2 => ?_) (fun h2 => ⟨hp, nt_s (fun h3 => ?_) (fun h3 => ?_)⟩))
  · rw [if_neg (by simp only [len] at h; omega)] at hK; exact hK
  · rw [if_neg (by simp only [len] at h2; omega)] at hK; exact hK
  · rw [if_pos (by simp only [len] at h h2; omega), if_neg (by rw [h3]; simp)] at hK; exact hK
  · rw [if_pos (by simp only [len] at h h2; omega), if_pos h3] at hK; exact hK
theorem sound_log_check : SoundC Try.prog tab n_log_check c_log_check := soundC_of ok_log_check hf_log_check hB_log_check (by
  intro vs bs p v bs' h hp
  unfold c_log_check at h
  split at h
  · cases h
    exact ⟨by kernel_rfl, rfl, .inl (run_log_check _ hp.1 _ ⟨rfl, rfl⟩)⟩
  · cases h)

def c_slices_Clone_LRecord : Contract := fun vs bs => match vs, bs with
  | [.one (.dat (.list (.list .int)) l)], [] => some (some (len l * 24 ≤ 140737488355328), .one (.own 0), [.arr (.list .int) l])
  | _, _ => none
def Γ_slices_Clone_LRecord : Ctx := []
theorem ok_slices_Clone_LRecord : Ok Try.prog tab Γ_slices_Clone_LRecord := ok_nil
theorem slices_Clone_LRecord_vc (l : List (List Int)) (rec : List It → St → Prop) (K : V → List Blk → Prop) : segO Γ_slices_Clone_LRecord tab fn_slices_Clone_LRecord 0 K rec [.code (bodyOf fn_slices_Clone_LRecord)] (initSt [.one (.dat (Ty.list (Ty.list Ty.int)) l)] []) = (
    (∀ bn : Bool, (((bn = true) → ((len l) = 0)) → br bn
       (K (.one (.own 0)) [.arr (Ty.list Ty.int) []])
       ((((0 + (len l)) * 24) ≤ 140737488355328) ∧
        (K (.one (.own 0)) [.arr (Ty.list Ty.int) (cat [] l)]))))) := by kernel_rfl
theorem slices_Clone_LRecord_w (l : List (List Int)) (m : Nat) (K : V → List Blk → Prop) : goO Γ_slices_Clone_LRecord tab fn_slices_Clone_LRecord 0 K (m + 1) [.code (bodyOf fn_slices_Clone_LRecord)] (initSt [.one (.dat (Ty.list (Ty.list Ty.int)) l)] []) = segO Γ_slices_Clone_LRecord tab fn_slices_Clone_LRecord 0 K (goO Γ_slices_Clone_LRecord tab fn_slices_Clone_LRecord 0 K m) [.code (bodyOf fn_slices_Clone_LRecord)] (initSt [.one (.dat (Ty.list (Ty.list Ty.int)) l)] []) := rfl

set_option maxHeartbeats 4000000 in
theorem run_slices_Clone_LRecord (l : List (List Int)) (hp : len l * 24 ≤ 140737488355328) (K : V → List Blk → Prop) (hK : K (.one (.own 0)) [.arr (.list .int) l]) : ∃ m, goO Γ_slices_Clone_LRecord tab fn_slices_Clone_LRecord 0 K m [.code (bodyOf fn_slices_Clone_LRecord)] (initSt [.one (.dat (.list (.list .int)) l)] []) := by
  refine ⟨1, ?_⟩
  rw [slices_Clone_LRecord_w, slices_Clone_LRecord_vc _ _ _]
  intro bn hb
  refine br_split (fun h => ?_) (fun h => ⟨by simp only [len] at hp ⊢; omega, hK⟩)
  have : l = [] := List.length_eq_zero_iff.1 (hb h)
  subst this
  exact hK
theorem sound_slices_Clone_LRecord : SoundC Try.prog tab n_slices_Clone_LRecord c_slices_Clone_LRecord := soundC_of ok_slices_Clone_LRecord hf_slices_Clone_LRecord hB_slices_Clone_LRecord (by
  intro vs bs p v bs' h hp
  unfold c_slices_Clone_LRecord at h
  split at h
  · cases h
    exact ⟨by kernel_rfl, rfl, .inr (run_slices_Clone_LRecord _ hp.1 _ ⟨rfl, rfl⟩)⟩
  · cases h)

def c_log_head : Contract := fun vs bs => match vs, bs with
  | [.one (.dat .int n)], [] => some (some (0 ≤ n ∧ n ≤ 255), .one (.dat .int (42240 + n)), [])
  | _, _ => none
def Γ_log_head : Ctx := []
theorem ok_log_head : Ok Try.prog tab Γ_log_head := ok_nil
theorem log_head_vc (n : Int) (rec : List It → St → Prop) (K : V → List Blk → Prop) : segD Γ_log_head tab fn_log_head 0 K rec [.code (bodyOf fn_log_head)] (initSt [.one (.dat Ty.int n)] []) = (
    K (.one (.dat Ty.int (ori (42240 : Int) n))) []) := by kernel_rfl
theorem log_head_w (n : Int) (m : Nat) (K : V → List Blk → Prop) : goD Γ_log_head tab fn_log_head 0 K (m + 1) [.code (bodyOf fn_log_head)] (initSt [.one (.dat Ty.int n)] []) = segD Γ_log_head tab fn_log_head 0 K (goD Γ_log_head tab fn_log_head 0 K m) [.code (bodyOf fn_log_head)] (initSt [.one (.dat Ty.int n)] []) := rfl

set_option maxHeartbeats 4000000 in
theorem run_log_head (n : Int) (hp : 0 ≤ n ∧ n ≤ 255) (K : V → List Blk → Prop) (hK : K (.one (.dat .int (42240 + n))) []) : ∃ m, goD Γ_log_head tab fn_log_head 0 K m [.code (bodyOf fn_log_head)] (initSt [.one (.dat .int n)] []) := by
  refine ⟨1, ?_⟩
  rw [log_head_w, log_head_vc _ _ _, ori_head hp.1 hp.2]
  exact hK
theorem sound_log_head : SoundC Try.prog tab n_log_head c_log_head := soundC_of ok_log_head hf_log_head hB_log_head (by
  intro vs bs p v bs' h hp
  unfold c_log_head at h
  split at h
  · cases h
    exact ⟨by kernel_rfl, rfl, .inl (run_log_head _ hp.1 _ ⟨rfl, rfl⟩)⟩
  · cases h)

def c_log_words : Contract := fun vs bs => match vs, bs with
  | [.one (.dat (.list .int) l)], [] => some (some (len l ≤ 255), .one (.dat (.list .int) (recW l)), [])
  | _, _ => none
def Γ_log_words : Ctx := [(n_log_head, c_log_head)]
theorem ok_log_words : Ok Try.prog tab Γ_log_words := (ok_nil.consC hf_log_head hB_log_head sound_log_head)
theorem log_words_vc (l : List Int) (rec : List It → St → Prop) (K : V → List Blk → Prop) : segD Γ_log_words tab fn_log_words 0 K rec [.code (bodyOf fn_log_words)] (initSt [.one (.dat (Ty.list Ty.int) l)] []) = (
    (((0 : Int) ≤ (((len l) : Nat) : Int)) ∧ ((((len l) : Nat) : Int) ≤ (255 : Int))) ∧
    (((((len (((42240 : Int) + (((len l) : Nat) : Int)) :: [])) + (len l)) * 8) ≤ 140737488355328) ∧
    (K (.one (.dat (Ty.list Ty.int) (cat (((42240 : Int) + (((len l) : Nat) : Int)) :: []) l))) []))) := by kernel_rfl
theorem log_words_w (l : List Int) (m : Nat) (K : V → List Blk → Prop) : goD Γ_log_words tab fn_log_words 0 K (m + 1) [.code (bodyOf fn_log_words)] (initSt [.one (.dat (Ty.list Ty.int) l)] []) = segD Γ_log_words tab fn_log_words 0 K (goD Γ_log_words tab fn_log_words 0 K m) [.code (bodyOf fn_log_words)] (initSt [.one (.dat (Ty.list Ty.int) l)] []) := rfl

set_option maxHeartbeats 4000000 in
theorem run_log_words (l : List Int) (hp : len l ≤ 255) (K : V → List Blk → Prop) (hK : K (.one (.dat (.list .int) (recW l))) []) : ∃ m, goD Γ_log_words tab fn_log_words 0 K m [.code (bodyOf fn_log_words)] (initSt [.one (.dat (.list .int) l)] []) := by
  refine ⟨1, ?_⟩
  rw [log_words_w, log_words_vc _ _ _]
  exact ⟨⟨by omega, by omega⟩, by simp only [len, List.length_cons, List.length_nil] at hp ⊢; omega, hK⟩
theorem sound_log_words : SoundC Try.prog tab n_log_words c_log_words := soundC_of ok_log_words hf_log_words hB_log_words (by
  intro vs bs p v bs' h hp
  unfold c_log_words at h
  split at h
  · cases h
    exact ⟨by kernel_rfl, rfl, .inl (run_log_words _ hp.1 _ ⟨rfl, rfl⟩)⟩
  · cases h)

def c_log_Append : Contract := fun vs bs => match vs, bs with
  | [.agg [.dat (.list .int) ws, .dat .int fu], .one (.dat (.list .int) r), .one (.dat (.list (.list .int)) keep)], [] => some (some (Sm r ∧ len keep * 24 ≤ 140737488351232 ∧ smR keep = true), .tup [.agg [.dat (.list .int) (appendF ⟨ws, fu⟩ r keep).1.words, .dat .int (appendF ⟨ws, fu⟩ r keep).1.fuel], .one (.dat .int (appendF ⟨ws, fu⟩ r keep).2)], [])
  | _, _ => none
def Γ_log_Append : Ctx := [(n_log_Check, c_log_Check), (n_log_check, c_log_check), (n_slices_Clone_LRecord, c_slices_Clone_LRecord), (n_log_words, c_log_words), (n_log_live, c_log_live), (n_flash_Copy, c_flash_Copy), (n_log_scan, (weakC c_log_scan)), (n_flash_Burn, (orC c_flash_Burn c_flash_Burn_b)), (n_flash_Wipe, c_flash_Wipe)]
theorem ok_log_Append : Ok Try.prog tab Γ_log_Append := (((((((((ok_nil.consC hf_flash_Wipe hB_flash_Wipe sound_flash_Wipe).consC hf_flash_Burn hB_flash_Burn (soundC_or sound_flash_Burn sound_flash_Burn_b)).consC hf_log_scan hB_log_scan (soundC_weak sound_log_scan)).consC hf_flash_Copy hB_flash_Copy sound_flash_Copy).consC hf_log_live hB_log_live sound_log_live).consC hf_log_words hB_log_words sound_log_words).consC hf_slices_Clone_LRecord hB_slices_Clone_LRecord sound_slices_Clone_LRecord).consC hf_log_check hB_log_check sound_log_check).consC hf_log_Check hB_log_Check sound_log_Check)
noncomputable def log_Append_L0 : List It := [.inLoop [40, 39, 38, 10, 7, 6, 3, 1] (Code.sub (bodyOf fn_log_Append) [1, 1, 1, 1, 0, 1, 0, 0]), .inBlock 0, .code (Code.sub (bodyOf fn_log_Append) [1, 1, 1, 1, 1])]
def log_Append_S0 (x0 : Int) (x1 : Int) (x2 : Int) (x3 : (List Int)) (x4 : (List (List Int))) (x5 : (List Int)) (x6 : Int) (x7 : (List Int)) (x8 : Int) (x9 : (List Int)) : St := ⟨[(40, .one (.dat Ty.int x0)), (39, .one (.dat Ty.int x1)), (38, .one (.own 0)), (10, .one (.own 1)), (7, .one (.dat Ty.int x2)), (6, .one (.ptr 2 0)), (3, .one (.ptr 3 0)), (1, .one (.dat (Ty.list Ty.int) x3))], [(0, .arr (Ty.list Ty.int) x4), (1, .arr Ty.int x5), (2, .box [.own 4, .dat Ty.int x6]), (3, .box [.dat (Ty.list Ty.int) x7, .dat Ty.int x8]), (4, .arr Ty.int x9)], 5⟩
theorem log_Append_vc (ws : List Int) (fu : Int) (r : List Int) (keep : List (List Int)) (rec : List It → St → Prop) (K : V → List Blk → Prop) v0 (hv0 : v0 = (checkLog (⟨ws, fu⟩ : Flash))) v1 (hv1 : v1 = (checkRec r)) : segD Γ_log_Append tab fn_log_Append 0 K rec [.code (bodyOf fn_log_Append)] (initSt [.agg [.dat (Ty.list Ty.int) ws, .dat Ty.int fu], .one (.dat (Ty.list Ty.int) r), .one (.dat (Ty.list (Ty.list Ty.int)) keep)] []) = (
    br (!(eqi v0 (0 : Int)))
     (K (.tup [.agg [.dat (Ty.list Ty.int) [], .dat Ty.int (0 : Int)], .one (.dat Ty.int v0)]) [])
     (((List.length r) ≤ 140737488355328) ∧
      (br (!(eqi v1 (0 : Int)))
       (K (.tup [.agg [.dat (Ty.list Ty.int) [], .dat Ty.int (0 : Int)], .one (.dat Ty.int v1)]) [])
       ((((len keep) * 24) ≤ 140737488355328) ∧
        (((((len keep) + (len (r :: []))) * 24) ≤ 140737488355328) ∧
        (rec log_Append_L0 (log_Append_S0 (0 : Int) (((len (cat keep (r :: []))) : Nat) : Int) (0 : Int) r (cat keep (r :: [])) [] (0 : Int) ws fu []))))))) := by subst hv1; subst hv0; kernel_rfl
theorem log_Append_w (ws : List Int) (fu : Int) (r : List Int) (keep : List (List Int)) (m : Nat) (K : V → List Blk → Prop) : goD Γ_log_Append tab fn_log_Append 0 K (m + 1) [.code (bodyOf fn_log_Append)] (initSt [.agg [.dat (Ty.list Ty.int) ws, .dat Ty.int fu], .one (.dat (Ty.list Ty.int) r), .one (.dat (Ty.list (Ty.list Ty.int)) keep)] []) = segD Γ_log_Append tab fn_log_Append 0 K (goD Γ_log_Append tab fn_log_Append 0 K m) [.code (bodyOf fn_log_Append)] (initSt [.agg [.dat (Ty.list Ty.int) ws, .dat Ty.int fu], .one (.dat (Ty.list Ty.int) r), .one (.dat (Ty.list (Ty.list Ty.int)) keep)] []) := rfl
theorem log_Append_vc0 (x0 : Int) (x1 : Int) (x2 : Int) (x3 : (List Int)) (x4 : (List (List Int))) (x5 : (List Int)) (x6 : Int) (x7 : (List Int)) (x8 : Int) (x9 : (List Int)) (rec : List It → St → Prop) (K : V → List Blk → Prop) v0 (hv0 : v0 = (checkRec (nth x4 (Int.toNat x0) (Ty.dflt (Ty.list Ty.int))))) v1 (hv1 : v1 = (recW (nth x4 (Int.toNat x0) (Ty.dflt (Ty.list Ty.int))))) v2 (hv2 : v2 = (okWords x7)) v3 (hv3 : v3 = (liveS x7)) v4 (hv4 : v4 = (scanS x7 (Int.toNat ((v3 : Nat) : Int)))) v5 (hv5 : v5 = (nextI (Int.toNat ((v3 : Nat) : Int)) (v4).snd)) v6 (hv6 : v6 = (recW x3)) v7 (hv7 : v7 = (burnCh (w64 (v5 + (1 : Int))) x3)) v8 (hv8 : v8 = (doCh (⟨x7, x8⟩ : Flash) v7)) v9 (hv9 : v9 = (burnCh v5 ((nth v6 (Int.toNat (0 : Int)) (Ty.dflt Ty.int)) :: []))) v10 (hv10 : v10 = (doCh (⟨((v8).fst).words, ((v8).fst).fuel⟩ : Flash) v9)) v11 (hv11 : v11 = (liveG x7)) v12 (hv12 : v12 = (wipeCh (w64 ((1 : Int) - ((v3 : Nat) : Int))))) v13 (hv13 : v13 = (doCh (⟨x7, x8⟩ : Flash) v12)) v14 (hv14 : v14 = (burnCh (w64 ((w64 ((w64 ((1 : Int) - ((v3 : Nat) : Int))) * (32 : Int))) + (1 : Int))) x5)) v15 (hv15 : v15 = (doCh (⟨((v13).fst).words, ((v13).fst).fuel⟩ : Flash) v14)) v16 (hv16 : v16 = (burnCh (w64 ((w64 ((1 : Int) - ((v3 : Nat) : Int))) * (32 : Int))) ((w64 (v11 + (1 : Int))) :: []))) v17 (hv17 : v17 = (doCh (⟨((v15).fst).words, ((v15).fst).fuel⟩ : Flash) v16)) : segD Γ_log_Append tab fn_log_Append 0 K rec (.code (Code.sub (bodyOf fn_log_Append) [1, 1, 1, 1, 0, 1, 0, 0]) :: log_Append_L0) (log_Append_S0 x0 x1 x2 x3 x4 x5 x6 x7 x8 x9) = (
    br (lti x0 x1)
     ((((0 : Int) ≤ x0) ∧ (x0 < (((len x4) : Nat) : Int))) ∧
      (((Int.toNat x0) < (len x4)) ∧
      (((List.length (nth x4 (Int.toNat x0) (Ty.dflt (Ty.list Ty.int)))) ≤ 140737488355328) ∧
      (br (!(eqi v0 (0 : Int)))
       (K (.tup [.agg [.dat (Ty.list Ty.int) [], .dat Ty.int (0 : Int)], .one (.dat Ty.int v0)]) [])
       (((len (nth x4 (Int.toNat x0) (Ty.dflt (Ty.list Ty.int)))) ≤ 255) ∧
        (((((len x5) + (len v1)) * 8) ≤ 140737488355328) ∧
        (br (lti (31 : Int) (((len (cat x5 v1)) : Nat) : Int))
         (K (.tup [.agg [.dat (Ty.list Ty.int) [], .dat Ty.int (0 : Int)], .one (.dat Ty.int (8 : Int))]) [])
         (rec log_Append_L0 (log_Append_S0 (w64 (x0 + (1 : Int))) x1 x2 x3 x4 (cat x5 v1) x6 x7 x8 x9)))))))))
     (((64 ≤ (len x7)) ∧ (v2 = true)) ∧
      ((((len x7) * 8) ≤ 140737488355328) ∧
      (((len x3) ≤ 255) ∧
      ((((0 : Int) ≤ ((v3 : Nat) : Int)) ∧ ((((v3 : Nat) : Int) ≤ (1 : Int)) ∧ ((64 ≤ (len x7)) ∧ (((len x7) ≤ 192) ∧ (v2 = true))))) ∧
      (br (lei (0 : Int) v5)
       (br (lei (w64 (v5 + (((len v6) : Nat) : Int))) (w64 ((w64 (((v3 : Nat) : Int) + (1 : Int))) * (32 : Int))))
         ((((-(1 : Int)) ≤ x8) ∧ ((x8 ≤ (100000 : Int)) ∧ (((0 : Int) ≤ (w64 (v5 + (1 : Int)))) ∧ ((((w64 (v5 + (1 : Int))) + (((len x3) : Nat) : Int)) ≤ (((len x7) : Nat) : Int)) ∧ ((len x7) ≤ 192))))) ∧
          (br (!(v8).snd)
           (K (.tup [.agg [.dat (Ty.list Ty.int) ((v8).fst).words, .dat Ty.int ((v8).fst).fuel], .one (.dat Ty.int (7 : Int))]) [])
           ((((0 : Int) ≤ (0 : Int)) ∧ ((0 : Int) < (((len v6) : Nat) : Int))) ∧
            ((((-(1 : Int)) ≤ ((v8).fst).fuel) ∧ ((((v8).fst).fuel ≤ (100000 : Int)) ∧ (((0 : Int) ≤ v5) ∧ (((v5 + (((len ((nth v6 (Int.toNat (0 : Int)) (Ty.dflt Ty.int)) :: [])) : Nat) : Int)) ≤ (((len ((v8).fst).words) : Nat) : Int)) ∧ ((len ((v8).fst).words) ≤ 192))))) ∧
            (br (!(v10).snd)
             (K (.tup [.agg [.dat (Ty.list Ty.int) ((v10).fst).words, .dat Ty.int ((v10).fst).fuel], .one (.dat Ty.int (7 : Int))]) [])
             (K (.tup [.agg [.dat (Ty.list Ty.int) ((v10).fst).words, .dat Ty.int ((v10).fst).fuel], .one (.dat Ty.int (0 : Int))]) []))))))
         (br (eqi v11 (60000 : Int))
           (K (.tup [.agg [.dat (Ty.list Ty.int) [], .dat Ty.int (0 : Int)], .one (.dat Ty.int (8 : Int))]) [])
           ((((-(1 : Int)) ≤ x8) ∧ ((x8 ≤ (100000 : Int)) ∧ (((0 : Int) ≤ (w64 ((1 : Int) - ((v3 : Nat) : Int)))) ∧ (((((w64 ((1 : Int) - ((v3 : Nat) : Int))) + (1 : Int)) * (32 : Int)) ≤ (((len x7) : Nat) : Int)) ∧ ((len x7) ≤ 192))))) ∧
            (br (!(v13).snd)
             (K (.tup [.agg [.dat (Ty.list Ty.int) ((v13).fst).words, .dat Ty.int ((v13).fst).fuel], .one (.dat Ty.int (7 : Int))]) [])
             ((((-(1 : Int)) ≤ ((v13).fst).fuel) ∧ ((((v13).fst).fuel ≤ (100000 : Int)) ∧ (((0 : Int) ≤ (w64 ((w64 ((w64 ((1 : Int) - ((v3 : Nat) : Int))) * (32 : Int))) + (1 : Int)))) ∧ ((((w64 ((w64 ((w64 ((1 : Int) - ((v3 : Nat) : Int))) * (32 : Int))) + (1 : Int))) + (((len x5) : Nat) : Int)) ≤ (((len ((v13).fst).words) : Nat) : Int)) ∧ ((len ((v13).fst).words) ≤ 192))))) ∧
              (br (!(v15).snd)
               (K (.tup [.agg [.dat (Ty.list Ty.int) ((v15).fst).words, .dat Ty.int ((v15).fst).fuel], .one (.dat Ty.int (7 : Int))]) [])
               ((((-(1 : Int)) ≤ ((v15).fst).fuel) ∧ ((((v15).fst).fuel ≤ (100000 : Int)) ∧ (((0 : Int) ≤ (w64 ((w64 ((1 : Int) - ((v3 : Nat) : Int))) * (32 : Int)))) ∧ ((((w64 ((w64 ((1 : Int) - ((v3 : Nat) : Int))) * (32 : Int))) + (((len ((w64 (v11 + (1 : Int))) :: [])) : Nat) : Int)) ≤ (((len ((v15).fst).words) : Nat) : Int)) ∧ ((len ((v15).fst).words) ≤ 192))))) ∧
                (br (!(v17).snd)
                 (K (.tup [.agg [.dat (Ty.list Ty.int) ((v17).fst).words, .dat Ty.int ((v17).fst).fuel], .one (.dat Ty.int (7 : Int))]) [])
                 (K (.tup [.agg [.dat (Ty.list Ty.int) ((v17).fst).words, .dat Ty.int ((v17).fst).fuel], .one (.dat Ty.int (0 : Int))]) [])))))))))
       (br (eqi v11 (60000 : Int))
         (K (.tup [.agg [.dat (Ty.list Ty.int) [], .dat Ty.int (0 : Int)], .one (.dat Ty.int (8 : Int))]) [])
         ((((-(1 : Int)) ≤ x8) ∧ ((x8 ≤ (100000 : Int)) ∧ (((0 : Int) ≤ (w64 ((1 : Int) - ((v3 : Nat) : Int)))) ∧ (((((w64 ((1 : Int) - ((v3 : Nat) : Int))) + (1 : Int)) * (32 : Int)) ≤ (((len x7) : Nat) : Int)) ∧ ((len x7) ≤ 192))))) ∧
          (br (!(v13).snd)
           (K (.tup [.agg [.dat (Ty.list Ty.int) ((v13).fst).words, .dat Ty.int ((v13).fst).fuel], .one (.dat Ty.int (7 : Int))]) [])
           ((((-(1 : Int)) ≤ ((v13).fst).fuel) ∧ ((((v13).fst).fuel ≤ (100000 : Int)) ∧ (((0 : Int) ≤ (w64 ((w64 ((w64 ((1 : Int) - ((v3 : Nat) : Int))) * (32 : Int))) + (1 : Int)))) ∧ ((((w64 ((w64 ((w64 ((1 : Int) - ((v3 : Nat) : Int))) * (32 : Int))) + (1 : Int))) + (((len x5) : Nat) : Int)) ≤ (((len ((v13).fst).words) : Nat) : Int)) ∧ ((len ((v13).fst).words) ≤ 192))))) ∧
            (br (!(v15).snd)
             (K (.tup [.agg [.dat (Ty.list Ty.int) ((v15).fst).words, .dat Ty.int ((v15).fst).fuel], .one (.dat Ty.int (7 : Int))]) [])
             ((((-(1 : Int)) ≤ ((v15).fst).fuel) ∧ ((((v15).fst).fuel ≤ (100000 : Int)) ∧ (((0 : Int) ≤ (w64 ((w64 ((1 : Int) - ((v3 : Nat) : Int))) * (32 : Int)))) ∧ ((((w64 ((w64 ((1 : Int) - ((v3 : Nat) : Int))) * (32 : Int))) + (((len ((w64 (v11 + (1 : Int))) :: [])) : Nat) : Int)) ≤ (((len ((v15).fst).words) : Nat) : Int)) ∧ ((len ((v15).fst).words) ≤ 192))))) ∧
              (br (!(v17).snd)
               (K (.tup [.agg [.dat (Ty.list Ty.int) ((v17).fst).words, .dat Ty.int ((v17).fst).fuel], .one (.dat Ty.int (7 : Int))]) [])
               (K (.tup [.agg [.dat (Ty.list Ty.int) ((v17).fst).words, .dat Ty.int ((v17).fst).fuel], .one (.dat Ty.int (0 : Int))]) [])))))))))))))) := by subst hv17; subst hv16; subst hv15; subst hv14; subst hv13; subst hv12; subst hv11; subst hv10; subst hv9; subst hv8; subst hv7; subst hv6; subst hv5; subst hv4; subst hv3; subst hv2; subst hv1; subst hv0; kernel_rfl
theorem log_Append_w0 (x0 : Int) (x1 : Int) (x2 : Int) (x3 : (List Int)) (x4 : (List (List Int))) (x5 : (List Int)) (x6 : Int) (x7 : (List Int)) (x8 : Int) (x9 : (List Int)) (m : Nat) (K : V → List Blk → Prop) : goD Γ_log_Append tab fn_log_Append 0 K (m + 1) log_Append_L0 (log_Append_S0 x0 x1 x2 x3 x4 x5 x6 x7 x8 x9) = segD Γ_log_Append tab fn_log_Append 0 K (goD Γ_log_Append tab fn_log_Append 0 K m) (.code (Code.sub (bodyOf fn_log_Append) [1, 1, 1, 1, 0, 1, 0, 0]) :: log_Append_L0) (log_Append_S0 x0 x1 x2 x3 x4 x5 x6 x7 x8 x9) := rfl

theorem loop_log_Append (ws r : List Int) (fu : Int) (rs : List (List Int)) (hl : rs.length ≤ 5864062014806) (hs : smR rs = true) (K : V → List Blk → Prop)
    (hbad : ∀ e, e ≠ 0 → gather 0 rs = e → K (.tup [.agg [.dat (.list .int) [], .dat .int 0], .one (.dat .int e)]) [])
    (hend : ∀ M, gather 0 rs = 0 → (allW rs).length ≤ 31 → goD Γ_log_Append tab fn_log_Append 0 K (M + 1) log_Append_L0 (log_Append_S0 (rs.length : Int) (((len rs) : Nat) : Int) 0 r rs (allW rs) 0 ws fu [])) :
    ∀ (d k : Nat), rs.length ≤ k + d → k ≤ rs.length → (allW (rs.take k)).length ≤ 31 → gather 0 rs = gather (allW (rs.take k)).length (rs.drop k) →
    goD Γ_log_Append tab fn_log_Append 0 K (d + 1) log_Append_L0 (log_Append_S0 (k : Int) (((len rs) : Nat) : Int) 0 r rs (allW (rs.take k)) 0 ws fu [])
  | 0, k, hk, hk2, ha, hg => by
    have : k = rs.length := by omega
    subst this
    rw [List.take_length] at ha hg ⊢
    rw [List.drop_length] at hg
    exact hend 0 hg ha
  | d + 1, k, hk, hk2, ha, hg => by
    by_cases c : k = rs.length
    · subst c
      rw [List.take_length] at ha hg ⊢
      rw [List.drop_length] at hg
      exact hend (d + 1) hg ha
    have ht := take_step (l := rs) (k := k) (by omega) (Ty.dflt (.list .int))
    rw [drop_step (by omega) (Ty.dflt (.list .int))] at hg
    have hm : nth rs k (Ty.dflt (.list .int)) ∈ rs := by
      have : k < rs.length := by omega
      simp [nth, List.getD_eq_getElem?_getD, this]
    have hsm := List.all_eq_true.1 hs _ hm
    simp only [decide_eq_true_eq] at hsm
    rw [log_Append_w0, log_Append_vc0 _ _ _ _ _ _ _ _ _ _ _ _ _ rfl _ rfl _ rfl _ rfl _ rfl _ rfl _ rfl _ rfl _ rfl _ rfl _ rfl _ rfl _ rfl _ rfl _ rfl _ rfl _ rfl _ rfl, toNat_nat]
    obtain ⟨x, hx⟩ : ∃ x, nth rs k (Ty.dflt (.list .int)) = x := ⟨_, rfl⟩
    rw [hx] at ht hg hsm ⊢
    simp only [gather] at hg
    refine lt_t (by simp only [len]; omega) ⟨⟨by omega, by simp only [len]; omega⟩, by simp only [len]; omega, hsm, ne_s (fun h1 => ?_) (fun h1 => ?_)⟩
    · rw [if_neg h1] at hg
      exact hbad _ h1 hg
    · rw [if_pos h1] at hg
      obtain ⟨r1, r2, r3⟩ := checkRec_ok h1
      refine ⟨by simp only [len]; omega, by simp only [len, recW_len]; omega, lt_s (fun h2 => ?_) (fun h2 => ?_)⟩
      · simp only [len, cat, List.length_append, recW_len] at h2
        rw [if_neg (by omega)] at hg
        exact hbad 8 (by decide) hg
      · simp only [len, cat, List.length_append, recW_len] at h2
        rw [if_pos (by omega)] at hg
        rw [w64_succ (by omega)]
        have e : cat (allW (rs.take k)) (recW x) = allW (rs.take (k + 1)) := by rw [ht, allW_snoc]; rfl
        have el : (allW (rs.take (k + 1))).length = (allW (rs.take k)).length + 1 + x.length := by rw [ht, allW_snoc, List.length_append, recW_len]; omega
        rw [e]
        exact loop_log_Append ws r fu rs hl hs K hbad hend d (k + 1) (by omega) (by omega) (by rw [el]; omega) (by rw [hg, el])
theorem there_log_Append (ws al : List Int) (fu g : Int) (s : Nat) (hs : s ≤ 1) (h64 : 64 ≤ ws.length) (h192 : ws.length ≤ 192) (f1 : -1 ≤ fu) (f2 : fu ≤ 100000) (hg0 : 0 ≤ g) (hg1 : g ≤ 65535) (hal : al.length ≤ 31) (P : Flash × Int → Prop)
    (hP : P (power (doCh ⟨ws, fu⟩ (wipeCh ((1 - s : Nat) : Int) ++ burnCh (32 * ((1 - s : Nat) : Int) + 1) al ++ burnCh (32 * ((1 - s : Nat) : Int)) [g + 1])))) :
    let o := w64 (1 - (s : Int))
    let a := doCh ⟨ws, fu⟩ (wipeCh o)
    let b := doCh ⟨a.1.words, a.1.fuel⟩ (burnCh (w64 (w64 (o * 32) + 1)) al)
    let c := doCh ⟨b.1.words, b.1.fuel⟩ (burnCh (w64 (o * 32)) [w64 (g + 1)])
    (0 ≤ o ∧ (o + 1) * 32 ≤ (ws.length : Int)) ∧
    (a.2 = false → P (a.1, 7)) ∧ ((-1 ≤ a.1.fuel ∧ a.1.fuel ≤ 100000 ∧ 0 ≤ w64 (w64 (o * 32) + 1) ∧ w64 (w64 (o * 32) + 1) + (al.length : Int) ≤ (a.1.words.length : Int) ∧ a.1.words.length ≤ 192) ∧
    (a.2 = true → b.2 = false → P (b.1, 7)) ∧ ((-1 ≤ b.1.fuel ∧ b.1.fuel ≤ 100000 ∧ 0 ≤ w64 (o * 32) ∧ w64 (o * 32) + 1 ≤ (b.1.words.length : Int) ∧ b.1.words.length ≤ 192) ∧
    (a.2 = true → b.2 = true → P (c.1, powerE c.2)))) := by
  intro o a b c
  have eo : o = ((1 - s : Nat) : Int) := by show w64 (1 - (s : Int)) = _; rw [w64_id (by omega) (by omega)]; omega
  have e1 : w64 (o * 32) = 32 * ((1 - s : Nat) : Int) := by rw [eo, w64_id (by omega) (by omega)]; omega
  have e2 : w64 (w64 (o * 32) + 1) = 32 * ((1 - s : Nat) : Int) + 1 := by rw [e1, w64_id (by omega) (by omega)]
  have e3 : w64 (g + 1) = g + 1 := w64_id (by omega) (by omega)
  have fa := doCh_fuel ⟨ws, fu⟩ (wipeCh o) f1 f2
  have la : a.1.words.length = ws.length := doCh_len ⟨ws, fu⟩ (wipeCh o)
  have fb := doCh_fuel a.1 (burnCh (w64 (w64 (o * 32) + 1)) al) fa.1 fa.2
  have lb : b.1.words.length = a.1.words.length := doCh_len a.1 (burnCh (w64 (w64 (o * 32) + 1)) al)
  rw [doCh_append, doCh_append] at hP
  have ea : doCh ⟨ws, fu⟩ (wipeCh ((1 - s : Nat) : Int)) = a := by rw [← eo]
  have eb : doCh a.1 (burnCh (32 * ((1 - s : Nat) : Int) + 1) al) = b := by rw [← e2]
  have ec : doCh b.1 (burnCh (32 * ((1 - s : Nat) : Int)) [g + 1]) = c := by rw [← e1, ← e3]
  rw [ea, eb] at hP
  refine ⟨by omega, fun h => ?_, ⟨fa.1, fa.2, by omega, by omega, by omega⟩, fun h h' => ?_, ⟨fb.1, fb.2, by omega, by omega, by omega⟩, fun h h' => ?_⟩
  · rw [if_neg (by simp [h]), if_neg (by simp [h])] at hP
    simpa [power, h, powerE] using hP
  · rw [if_pos h, if_neg (by simp [h'])] at hP
    simpa [power, h', powerE] using hP
  · rw [if_pos h, if_pos h', ec] at hP
    exact hP
set_option maxHeartbeats 4000000 in
theorem run_log_Append (ws : List Int) (fu : Int) (r : List Int) (keep : List (List Int)) (hp : Sm r ∧ len keep * 24 ≤ 140737488351232 ∧ smR keep = true) (K : V → List Blk → Prop) (hK : K (.tup [.agg [.dat (.list .int) (appendF ⟨ws, fu⟩ r keep).1.words, .dat .int (appendF ⟨ws, fu⟩ r keep).1.fuel], .one (.dat .int (appendF ⟨ws, fu⟩ r keep).2)]) []) : ∃ m, goD Γ_log_Append tab fn_log_Append 0 K m [.code (bodyOf fn_log_Append)] (initSt [.agg [.dat (.list .int) ws, .dat .int fu], .one (.dat (.list .int) r), .one (.dat (.list (.list .int)) keep)] []) := by
  obtain ⟨hr, hk, hsm⟩ := hp
  refine ⟨(keep ++ [r]).length + 1 + 1, ?_⟩
  rw [log_Append_w, log_Append_vc _ _ _ _ _ _ _ rfl _ rfl]
  unfold appendF appendE at hK
  simp only [len] at hk
  refine ne_s (fun h => ?_) (fun h => ?_)
  · rw [if_neg h, if_neg h] at hK; exact hK
  rw [if_pos h] at hK
  refine ⟨hr, ne_s (fun h2 => ?_) (fun h2 => ?_)⟩
  · rw [if_neg h2, if_neg h2] at hK; exact hK
  rw [if_pos h2] at hK
  obtain ⟨k1, k2, k3, k4⟩ := checkLog_ok h
  obtain ⟨c1, c2, c3, c4⟩ := checkFlash_ok k1
  obtain ⟨c5, c6⟩ := okLen_le c1
  simp only at k2 k3 k4 c2 c3 c4 c5 c6
  obtain ⟨r1, r2, r3⟩ := checkRec_ok h2
  have hlen : (keep ++ [r]).length = keep.length + 1 := by simp
  obtain ⟨rs, hrs⟩ : ∃ rs, keep ++ [r] = rs := ⟨_, rfl⟩
  have hsr : smR rs = true := by
    rw [← hrs]; unfold smR at hsm ⊢; rw [List.all_append, hsm]
    simp only [List.all_cons, List.all_nil, Bool.and_true, Bool.true_and, decide_eq_true_eq]; omega
  rw [hrs] at hlen ⊢
  refine ⟨by simp only [len]; omega, by simp only [len, List.length_cons, List.length_nil]; omega, ?_⟩
  rw [show cat keep [r] = rs from hrs]
  rw [hrs] at hK
  have e0 : allW (rs.take 0) = [] := by simp [allW]
  have l0 : (allW (rs.take 0)).length = 0 := by rw [e0]; rfl
  refine loop_log_Append ws r fu rs (by omega) hsr K (fun e he hg => ?_) (fun M hg hal => ?_) rs.length 0 (by omega) (by omega) (by omega) (by rw [l0, List.drop_zero])
  · rw [hg, if_neg he] at hK; exact hK
  rw [hg, if_pos rfl] at hK
  rw [log_Append_w0, log_Append_vc0 _ _ _ _ _ _ _ _ _ _ _ _ _ rfl _ rfl _ rfl _ rfl _ rfl _ rfl _ rfl _ rfl _ rfl _ rfl _ rfl _ rfl _ rfl _ rfl _ rfl _ rfl _ rfl _ rfl, toNat_nat]
  unfold appendCh at hK
  have hls := liveS_le ws
  have hgr := genOf_range c4 (liveS ws)
  have hg1 : liveG ws = genOf ws (liveS ws) := rfl
  have es : ∀ s : Nat, Int.toNat (s : Int) = s := fun _ => rfl
  simp only [hrs] at hK
  obtain ⟨s, hs⟩ : ∃ s, liveS ws = s := ⟨_, rfl⟩
  rw [hs] at hK hls ⊢
  obtain ⟨g, hgg⟩ : ∃ g, liveG ws = g := ⟨_, rfl⟩
  rw [hgg] at hK hg1 k3 k4 ⊢
  rw [w64_id (n := (s : Int) + 1) (by omega) (by omega), w64_id (n := ((s : Int) + 1) * 32) (by omega) (by omega)]
  have e6 : (((len (recW r)) : Nat) : Int) = (r.length : Int) + 1 := by simp only [len, recW_len]; omega
  have e7 : nth (recW r) (Int.toNat (0 : Int)) (Ty.dflt Ty.int) = 42240 + (r.length : Int) := rfl
  rw [e6, e7, es s]
  simp only [len]
  have hthere := fun (hP : K (.tup [.agg [.dat (.list .int) (power (doCh ⟨ws, fu⟩ (thereCh (1 - s) rs (g + 1)))).1.words, .dat .int (power (doCh ⟨ws, fu⟩ (thereCh (1 - s) rs (g + 1)))).1.fuel], .one (.dat .int (power (doCh ⟨ws, fu⟩ (thereCh (1 - s) rs (g + 1)))).2)]) []) =>
    there_log_Append ws (allW rs) fu g s hls k2 c6 c2 c3 (by omega) (by omega) hal (fun x => K (.tup [.agg [.dat (.list .int) x.1.words, .dat .int x.1.fuel], .one (.dat .int x.2)]) []) hP
  refine lt_f (by omega) ⟨⟨k2, c4⟩, by omega, by omega, ⟨by omega, by omega, k2, c6, c4⟩, ?_⟩
  cases hsc : (scanS ws s).2 with
  | none =>
    rw [hsc] at hK
    simp only [room, Bool.false_eq_true, if_false] at hK
    simp only [nextI]
    refine br_f (lei_false.2 (by omega)) (eq_s (fun h5 => ?_) (fun h5 => ?_))
    · rw [if_pos h5] at hK; exact hK
    · rw [if_neg h5] at hK
      obtain ⟨t1, t2, t3, t4, t5, t6⟩ := hthere hK
      refine ⟨⟨c2, c3, t1.1, t1.2, c6⟩, nt_s t2 (fun q1 => ⟨t3, nt_s (t4 q1) (fun q2 => ⟨t5, nt_s (fun q3 => ?_) (fun q3 => ?_)⟩)⟩)⟩
      · have := t6 q1 q2; rw [q3] at this; exact this
      · have := t6 q1 q2; rw [q3] at this; exact this
  | some a =>
    have ha := scanS_le (by omega) hsc
    rw [hsc] at hK
    simp only [nextI]
    rw [w64_id (n := 32 * (s : Int) + 1 + a + ((r.length : Int) + 1)) (by omega) (by omega), w64_id (n := 32 * (s : Int) + 1 + a + 1) (by omega) (by omega)]
    refine br_t (lei_true.2 (by omega)) (br_split (fun h5 => ?_) (fun h5 => ?_))
    · rw [lei_true] at h5
      rw [if_pos (show room r.length (some a) = true from by simp only [room, decide_eq_true_eq]; omega)] at hK
      simp only [Option.getD_some, hereCh] at hK
      rw [show ((32 * s + 1 + a : Nat) : Int) = 32 * (s : Int) + 1 + a by omega, doCh_append] at hK
      obtain ⟨f1, f2⟩ := doCh_fuel ⟨ws, fu⟩ (burnCh (32 * (s : Int) + 1 + a + 1) r) c2 c3
      have l1 := doCh_len ⟨ws, fu⟩ (burnCh (32 * (s : Int) + 1 + a + 1) r)
      simp only at l1
      refine ⟨⟨c2, c3, by omega, by omega, c6⟩, nt_s (fun q1 => ?_) (fun q1 => ⟨⟨by omega, by omega⟩, ⟨f1, f2, by omega, by simp only [List.length_cons, List.length_nil]; omega, by omega⟩, nt_s (fun q2 => ?_) (fun q2 => ?_)⟩)⟩
      · rw [if_neg (by simp [q1])] at hK
        simpa only [power, q1, powerE] using hK
      · rw [if_pos q1] at hK
        simp only [power] at hK
        rw [show (doCh (doCh ⟨ws, fu⟩ (burnCh (32 * (s : Int) + 1 + a + 1) r)).1 (burnCh (32 * (s : Int) + 1 + a) [42240 + (r.length : Int)])).2 = false from q2] at hK
        exact hK
      · rw [if_pos q1] at hK
        simp only [power] at hK
        rw [show (doCh (doCh ⟨ws, fu⟩ (burnCh (32 * (s : Int) + 1 + a + 1) r)).1 (burnCh (32 * (s : Int) + 1 + a) [42240 + (r.length : Int)])).2 = true from q2] at hK
        exact hK
    · rw [lei_false] at h5
      rw [if_neg (show ¬ room r.length (some a) = true from by simp only [room, decide_eq_true_eq]; omega)] at hK
      refine eq_s (fun h5 => ?_) (fun h5 => ?_)
      · rw [if_pos h5] at hK; exact hK
      · rw [if_neg h5] at hK
        obtain ⟨t1, t2, t3, t4, t5, t6⟩ := hthere hK
        refine ⟨⟨c2, c3, t1.1, t1.2, c6⟩, nt_s t2 (fun q1 => ⟨t3, nt_s (t4 q1) (fun q2 => ⟨t5, nt_s (fun q3 => ?_) (fun q3 => ?_)⟩)⟩)⟩
        · have := t6 q1 q2; rw [q3] at this; exact this
        · have := t6 q1 q2; rw [q3] at this; exact this
theorem sound_log_Append : SoundC Try.prog tab n_log_Append c_log_Append := soundC_of ok_log_Append hf_log_Append hB_log_Append (by
  intro vs bs p v bs' h hp
  unfold c_log_Append at h
  split at h
  · cases h
    exact ⟨by kernel_rfl, rfl, .inl (run_log_Append _ _ _ _ hp.1 _ ⟨rfl, rfl⟩)⟩
  · cases h)

def c_ref_IsWord : Contract := fun vs bs => match vs, bs with
  | [.one (.dat .int w)], [] => some (none, .one (.dat .bool (okWord w)), [])
  | _, _ => none
def Γ_ref_IsWord : Ctx := []
theorem ok_ref_IsWord : Ok Try.prog tab Γ_ref_IsWord := ok_nil
theorem ref_IsWord_vc (w : Int) (rec : List It → St → Prop) (K : V → List Blk → Prop) : segD Γ_ref_IsWord tab fn_ref_IsWord 0 K rec [.code (bodyOf fn_ref_IsWord)] (initSt [.one (.dat Ty.int w)] []) = (
    br (lei (0 : Int) w)
     (K (.one (.dat Ty.bool (lei w (65535 : Int)))) [])
     (K (.one (.dat Ty.bool false)) [])) := by kernel_rfl
theorem ref_IsWord_w (w : Int) (m : Nat) (K : V → List Blk → Prop) : goD Γ_ref_IsWord tab fn_ref_IsWord 0 K (m + 1) [.code (bodyOf fn_ref_IsWord)] (initSt [.one (.dat Ty.int w)] []) = segD Γ_ref_IsWord tab fn_ref_IsWord 0 K (goD Γ_ref_IsWord tab fn_ref_IsWord 0 K m) [.code (bodyOf fn_ref_IsWord)] (initSt [.one (.dat Ty.int w)] []) := rfl

set_option maxHeartbeats 4000000 in
theorem run_ref_IsWord (w : Int) (K : V → List Blk → Prop) (hK : K (.one (.dat .bool (okWord w))) []) : ∃ m, goD Γ_ref_IsWord tab fn_ref_IsWord 0 K m [.code (bodyOf fn_ref_IsWord)] (initSt [.one (.dat .int w)] []) := by
  refine ⟨1, ?_⟩
  rw [ref_IsWord_w, ref_IsWord_vc _ _ _]
  refine br_split (fun h => ?_) (fun h => ?_)
  · rw [show okWord w = lei w 65535 from by rw [lei_true] at h; simp [okWord, lei, h]] at hK; exact hK
  · rw [show okWord w = false from by rw [lei_false] at h; simp [okWord]; omega] at hK; exact hK
theorem sound_ref_IsWord : SoundC Try.prog tab n_ref_IsWord c_ref_IsWord := soundC_of ok_ref_IsWord hf_ref_IsWord hB_ref_IsWord (by
  intro vs bs p v bs' h hp
  unfold c_ref_IsWord at h
  split at h
  · cases h
    exact ⟨by kernel_rfl, rfl, .inl (run_ref_IsWord _ _ ⟨rfl, rfl⟩)⟩
  · cases h)

def c_ref_allWords_1 : Contract := fun vs bs => match vs, bs with
  | [.one (.dat .int w)], [] => some (none, .one (.dat .bool (!okWord w)), [])
  | _, _ => none
def Γ_ref_allWords_1 : Ctx := [(n_ref_IsWord, c_ref_IsWord)]
theorem ok_ref_allWords_1 : Ok Try.prog tab Γ_ref_allWords_1 := (ok_nil.consC hf_ref_IsWord hB_ref_IsWord sound_ref_IsWord)
theorem ref_allWords_1_vc (w : Int) (rec : List It → St → Prop) (K : V → List Blk → Prop) v0 (hv0 : v0 = (okWord w)) : segD Γ_ref_allWords_1 tab fn_ref_allWords_1 0 K rec [.code (bodyOf fn_ref_allWords_1)] (initSt [.one (.dat Ty.int w)] []) = (
    K (.one (.dat Ty.bool (!v0))) []) := by subst hv0; kernel_rfl
theorem ref_allWords_1_w (w : Int) (m : Nat) (K : V → List Blk → Prop) : goD Γ_ref_allWords_1 tab fn_ref_allWords_1 0 K (m + 1) [.code (bodyOf fn_ref_allWords_1)] (initSt [.one (.dat Ty.int w)] []) = segD Γ_ref_allWords_1 tab fn_ref_allWords_1 0 K (goD Γ_ref_allWords_1 tab fn_ref_allWords_1 0 K m) [.code (bodyOf fn_ref_allWords_1)] (initSt [.one (.dat Ty.int w)] []) := rfl

set_option maxHeartbeats 4000000 in
theorem run_ref_allWords_1 (w : Int) (K : V → List Blk → Prop) (hK : K (.one (.dat .bool (!okWord w))) []) : ∃ m, goD Γ_ref_allWords_1 tab fn_ref_allWords_1 0 K m [.code (bodyOf fn_ref_allWords_1)] (initSt [.one (.dat .int w)] []) := by
  refine ⟨1, ?_⟩
  rw [ref_allWords_1_w, ref_allWords_1_vc _ _ _ _ rfl]
  exact hK
theorem sound_ref_allWords_1 : SoundC Try.prog tab n_ref_allWords_1 c_ref_allWords_1 := soundC_of ok_ref_allWords_1 hf_ref_allWords_1 hB_ref_allWords_1 (by
  intro vs bs p v bs' h hp
  unfold c_ref_allWords_1 at h
  split at h
  · cases h
    exact ⟨by kernel_rfl, rfl, .inl (run_ref_allWords_1 _ _ ⟨rfl, rfl⟩)⟩
  · cases h)

def c_slices_IndexFunc_Lint : Contract := fun vs bs => match vs, bs with
  | [.one (.dat (.list .int) l), .one (.fn f [])], [] => (match Nat.beq f n_ref_allWords_1 with | true => some (some (Sm l), .one (.dat .int (firstBad l)), []) | false => none)
  | _, _ => none
def Γ_slices_IndexFunc_Lint : Ctx := [(n_ref_allWords_1, c_ref_allWords_1)]
theorem ok_slices_IndexFunc_Lint : Ok Try.prog tab Γ_slices_IndexFunc_Lint := (ok_nil.consC hf_ref_allWords_1 hB_ref_allWords_1 sound_ref_allWords_1)
noncomputable def slices_IndexFunc_Lint_1_L0 : List It := [.inLoop [8, 7, 4, 0, 1] (Code.sub (bodyOf fn_slices_IndexFunc_Lint) [1, 0, 1, 0, 0]), .inBlock 0, .code (Code.sub (bodyOf fn_slices_IndexFunc_Lint) [1, 1])]
def slices_IndexFunc_Lint_1_S0 (x0 : Int) (x1 : Int) (x2 : Int) (x3 : (List Int)) : St := ⟨[(8, .one (.dat Ty.int x0)), (7, .one (.dat Ty.int x1)), (4, .one (.dat Ty.int x2)), (0, .one (.dat (Ty.list Ty.int) x3)), (1, .one (.fn n_ref_allWords_1 []))], [], 0⟩
theorem slices_IndexFunc_Lint_1_vc (l : List Int) (rec : List It → St → Prop) (K : V → List Blk → Prop) : segD Γ_slices_IndexFunc_Lint tab fn_slices_IndexFunc_Lint 0 K rec [.code (bodyOf fn_slices_IndexFunc_Lint)] (initSt [.one (.dat (Ty.list Ty.int) l), .one (.fn n_ref_allWords_1 [])] []) = (
    rec slices_IndexFunc_Lint_1_L0 (slices_IndexFunc_Lint_1_S0 (0 : Int) (((len l) : Nat) : Int) (0 : Int) l)) := by kernel_rfl
theorem slices_IndexFunc_Lint_1_w (l : List Int) (m : Nat) (K : V → List Blk → Prop) : goD Γ_slices_IndexFunc_Lint tab fn_slices_IndexFunc_Lint 0 K (m + 1) [.code (bodyOf fn_slices_IndexFunc_Lint)] (initSt [.one (.dat (Ty.list Ty.int) l), .one (.fn n_ref_allWords_1 [])] []) = segD Γ_slices_IndexFunc_Lint tab fn_slices_IndexFunc_Lint 0 K (goD Γ_slices_IndexFunc_Lint tab fn_slices_IndexFunc_Lint 0 K m) [.code (bodyOf fn_slices_IndexFunc_Lint)] (initSt [.one (.dat (Ty.list Ty.int) l), .one (.fn n_ref_allWords_1 [])] []) := rfl
theorem slices_IndexFunc_Lint_1_vc0 (x0 : Int) (x1 : Int) (x2 : Int) (x3 : (List Int)) (rec : List It → St → Prop) (K : V → List Blk → Prop) v0 (hv0 : v0 = (okWord (nth x3 (Int.toNat x0) (Ty.dflt Ty.int)))) : segD Γ_slices_IndexFunc_Lint tab fn_slices_IndexFunc_Lint 0 K rec (.code (Code.sub (bodyOf fn_slices_IndexFunc_Lint) [1, 0, 1, 0, 0]) :: slices_IndexFunc_Lint_1_L0) (slices_IndexFunc_Lint_1_S0 x0 x1 x2 x3) = (
    br (lti x0 x1)
     ((((0 : Int) ≤ x0) ∧ (x0 < (((len x3) : Nat) : Int))) ∧
      (br (!v0)
       (K (.one (.dat Ty.int x0)) [])
       (rec slices_IndexFunc_Lint_1_L0 (slices_IndexFunc_Lint_1_S0 (w64 (x0 + (1 : Int))) x1 x2 x3))))
     (K (.one (.dat Ty.int (-(1 : Int)))) [])) := by subst hv0; kernel_rfl
theorem slices_IndexFunc_Lint_1_w0 (x0 : Int) (x1 : Int) (x2 : Int) (x3 : (List Int)) (m : Nat) (K : V → List Blk → Prop) : goD Γ_slices_IndexFunc_Lint tab fn_slices_IndexFunc_Lint 0 K (m + 1) slices_IndexFunc_Lint_1_L0 (slices_IndexFunc_Lint_1_S0 x0 x1 x2 x3) = segD Γ_slices_IndexFunc_Lint tab fn_slices_IndexFunc_Lint 0 K (goD Γ_slices_IndexFunc_Lint tab fn_slices_IndexFunc_Lint 0 K m) (.code (Code.sub (bodyOf fn_slices_IndexFunc_Lint) [1, 0, 1, 0, 0]) :: slices_IndexFunc_Lint_1_L0) (slices_IndexFunc_Lint_1_S0 x0 x1 x2 x3) := rfl

theorem loop_slices_IndexFunc_Lint_1 (l : List Int) (hs : Sm l) (K : V → List Blk → Prop) : ∀ (d k : Nat), k + d = l.length → K (.one (.dat .int (firstBadFrom k (l.drop k)))) [] →
    goD Γ_slices_IndexFunc_Lint tab fn_slices_IndexFunc_Lint 0 K (d + 1) slices_IndexFunc_Lint_1_L0 (slices_IndexFunc_Lint_1_S0 (k : Int) (((len l) : Nat) : Int) 0 l)
  | 0, k, hk, hK => by
    rw [slices_IndexFunc_Lint_1_w0, slices_IndexFunc_Lint_1_vc0 _ _ _ _ _ _ _ rfl]
    refine lt_f (by simp only [len]; omega) ?_
    rw [List.drop_of_length_le (by omega)] at hK
    exact hK
  | d + 1, k, hk, hK => by
    have hs' := hs
    unfold Sm at hs'
    rw [slices_IndexFunc_Lint_1_w0, slices_IndexFunc_Lint_1_vc0 _ _ _ _ _ _ _ rfl]
    rw [drop_step (by omega) (Ty.dflt Ty.int)] at hK
    simp only [firstBadFrom] at hK
    refine lt_t (by simp only [len]; omega) ⟨⟨by omega, by simp only [len]; omega⟩, nt_s (fun h => ?_) (fun h => ?_)⟩
    · rw [toNat_nat] at h
      rw [if_neg (by rw [h]; simp)] at hK
      exact hK
    · rw [toNat_nat] at h
      rw [if_pos h] at hK
      rw [w64_succ (by omega)]
      exact loop_slices_IndexFunc_Lint_1 l hs K d (k + 1) (by omega) hK
set_option maxHeartbeats 4000000 in
theorem run_slices_IndexFunc_Lint_1 (l : List Int) (hp : Sm l) (K : V → List Blk → Prop) (hK : K (.one (.dat .int (firstBad l))) []) : ∃ m, goD Γ_slices_IndexFunc_Lint tab fn_slices_IndexFunc_Lint 0 K m [.code (bodyOf fn_slices_IndexFunc_Lint)] (initSt [.one (.dat (.list .int) l), .one (.fn n_ref_allWords_1 [])] []) := by
  refine ⟨l.length + 2, ?_⟩
  rw [slices_IndexFunc_Lint_1_w, slices_IndexFunc_Lint_1_vc _ _ _]
  exact loop_slices_IndexFunc_Lint_1 l hp K l.length 0 (by omega) hK
theorem sound_slices_IndexFunc_Lint : SoundC Try.prog tab n_slices_IndexFunc_Lint c_slices_IndexFunc_Lint := soundC_of ok_slices_IndexFunc_Lint hf_slices_IndexFunc_Lint hB_slices_IndexFunc_Lint (by
  intro vs bs p v bs' h hp
  unfold c_slices_IndexFunc_Lint at h
  split at h
  · split at h
    · rename_i hfn
      have hfn := Nat.eq_of_beq_eq_true hfn
      subst hfn
      cases h
      exact ⟨by kernel_rfl, rfl, .inl (run_slices_IndexFunc_Lint_1 _ hp.1 _ ⟨rfl, rfl⟩)⟩
    · cases h
  · cases h)

def c_slices_ContainsFunc_Lint : Contract := fun vs bs => match vs, bs with
  | [.one (.dat (.list .int) l), .one (.fn f [])], [] => (match Nat.beq f n_ref_allWords_1 with | true => some (some (Sm l), .one (.dat .bool (!okWords l)), []) | false => none)
  | _, _ => none
def Γ_slices_ContainsFunc_Lint : Ctx := [(n_slices_IndexFunc_Lint, c_slices_IndexFunc_Lint), (n_ref_allWords_1, c_ref_allWords_1)]
theorem ok_slices_ContainsFunc_Lint : Ok Try.prog tab Γ_slices_ContainsFunc_Lint := ((ok_nil.consC hf_ref_allWords_1 hB_ref_allWords_1 sound_ref_allWords_1).consC hf_slices_IndexFunc_Lint hB_slices_IndexFunc_Lint sound_slices_IndexFunc_Lint)
theorem slices_ContainsFunc_Lint_1_vc (l : List Int) (rec : List It → St → Prop) (K : V → List Blk → Prop) v0 (hv0 : v0 = (firstBad l)) : segD Γ_slices_ContainsFunc_Lint tab fn_slices_ContainsFunc_Lint 0 K rec [.code (bodyOf fn_slices_ContainsFunc_Lint)] (initSt [.one (.dat (Ty.list Ty.int) l), .one (.fn n_ref_allWords_1 [])] []) = (
    ((List.length l) ≤ 140737488355328) ∧
    (K (.one (.dat Ty.bool (lei (0 : Int) v0))) [])) := by subst hv0; kernel_rfl
theorem slices_ContainsFunc_Lint_1_w (l : List Int) (m : Nat) (K : V → List Blk → Prop) : goD Γ_slices_ContainsFunc_Lint tab fn_slices_ContainsFunc_Lint 0 K (m + 1) [.code (bodyOf fn_slices_ContainsFunc_Lint)] (initSt [.one (.dat (Ty.list Ty.int) l), .one (.fn n_ref_allWords_1 [])] []) = segD Γ_slices_ContainsFunc_Lint tab fn_slices_ContainsFunc_Lint 0 K (goD Γ_slices_ContainsFunc_Lint tab fn_slices_ContainsFunc_Lint 0 K m) [.code (bodyOf fn_slices_ContainsFunc_Lint)] (initSt [.one (.dat (Ty.list Ty.int) l), .one (.fn n_ref_allWords_1 [])] []) := rfl

theorem firstBad_slices_ContainsFunc_Lint : ∀ (l : List Int) (k : Int), 0 ≤ k → lei 0 (firstBadFrom k l) = !okWords l
  | [], k, hk => by simp [firstBadFrom, okWords, lei]
  | w :: l, k, hk => by
    simp only [firstBadFrom, okWords, List.all_cons]
    cases h : okWord w with
    | true => simpa [okWords] using firstBad_slices_ContainsFunc_Lint l (k + 1) (by omega)
    | false => simp [lei, hk]
set_option maxHeartbeats 4000000 in
theorem run_slices_ContainsFunc_Lint_1 (l : List Int) (hp : Sm l) (K : V → List Blk → Prop) (hK : K (.one (.dat .bool (!okWords l))) []) : ∃ m, goD Γ_slices_ContainsFunc_Lint tab fn_slices_ContainsFunc_Lint 0 K m [.code (bodyOf fn_slices_ContainsFunc_Lint)] (initSt [.one (.dat (.list .int) l), .one (.fn n_ref_allWords_1 [])] []) := by
  refine ⟨1, ?_⟩
  rw [slices_ContainsFunc_Lint_1_w, slices_ContainsFunc_Lint_1_vc _ _ _ _ rfl]
  refine ⟨hp, ?_⟩
  rw [show lei 0 (firstBad l) = !okWords l from firstBad_slices_ContainsFunc_Lint l 0 (by omega)]
  exact hK
theorem sound_slices_ContainsFunc_Lint : SoundC Try.prog tab n_slices_ContainsFunc_Lint c_slices_ContainsFunc_Lint := soundC_of ok_slices_ContainsFunc_Lint hf_slices_ContainsFunc_Lint hB_slices_ContainsFunc_Lint (by
  intro vs bs p v bs' h hp
  unfold c_slices_ContainsFunc_Lint at h
  split at h
  · split at h
    · rename_i hfn
      have hfn := Nat.eq_of_beq_eq_true hfn
      subst hfn
      cases h
      exact ⟨by kernel_rfl, rfl, .inl (run_slices_ContainsFunc_Lint_1 _ hp.1 _ ⟨rfl, rfl⟩)⟩
    · cases h
  · cases h)

def c_ref_allWords : Contract := fun vs bs => match vs, bs with
  | [.one (.dat (.list .int) l)], [] => some (some (Sm l), .one (.dat .bool (okWords l)), [])
  | _, _ => none
def Γ_ref_allWords : Ctx := [(n_slices_ContainsFunc_Lint, c_slices_ContainsFunc_Lint), (n_ref_allWords_1, c_ref_allWords_1)]
theorem ok_ref_allWords : Ok Try.prog tab Γ_ref_allWords := ((ok_nil.consC hf_ref_allWords_1 hB_ref_allWords_1 sound_ref_allWords_1).consC hf_slices_ContainsFunc_Lint hB_slices_ContainsFunc_Lint sound_slices_ContainsFunc_Lint)
theorem ref_allWords_vc (l : List Int) (rec : List It → St → Prop) (K : V → List Blk → Prop) v0 (hv0 : v0 = (okWords l)) : segD Γ_ref_allWords tab fn_ref_allWords 0 K rec [.code (bodyOf fn_ref_allWords)] (initSt [.one (.dat (Ty.list Ty.int) l)] []) = (
    ((List.length l) ≤ 140737488355328) ∧
    (K (.one (.dat Ty.bool (!(!v0)))) [])) := by subst hv0; kernel_rfl
theorem ref_allWords_w (l : List Int) (m : Nat) (K : V → List Blk → Prop) : goD Γ_ref_allWords tab fn_ref_allWords 0 K (m + 1) [.code (bodyOf fn_ref_allWords)] (initSt [.one (.dat (Ty.list Ty.int) l)] []) = segD Γ_ref_allWords tab fn_ref_allWords 0 K (goD Γ_ref_allWords tab fn_ref_allWords 0 K m) [.code (bodyOf fn_ref_allWords)] (initSt [.one (.dat (Ty.list Ty.int) l)] []) := rfl

set_option maxHeartbeats 4000000 in
theorem run_ref_allWords (l : List Int) (hp : Sm l) (K : V → List Blk → Prop) (hK : K (.one (.dat .bool (okWords l))) []) : ∃ m, goD Γ_ref_allWords tab fn_ref_allWords 0 K m [.code (bodyOf fn_ref_allWords)] (initSt [.one (.dat (.list .int) l)] []) := by
  refine ⟨1, ?_⟩
  rw [ref_allWords_w, ref_allWords_vc _ _ _ _ rfl]
  refine ⟨hp, ?_⟩
  rw [Bool.not_not]
  exact hK
theorem sound_ref_allWords : SoundC Try.prog tab n_ref_allWords c_ref_allWords := soundC_of ok_ref_allWords hf_ref_allWords hB_ref_allWords (by
  intro vs bs p v bs' h hp
  unfold c_ref_allWords at h
  split at h
  · cases h
    exact ⟨by kernel_rfl, rfl, .inl (run_ref_allWords _ hp.1 _ ⟨rfl, rfl⟩)⟩
  · cases h)

def c_ref_CheckFlash : Contract := fun vs bs => match vs, bs with
  | [.agg [.dat (.list .int) ws, .dat .int fu]], [] => some (some (Sm ws), .one (.dat .int (checkFlash ⟨ws, fu⟩)), [])
  | _, _ => none
def Γ_ref_CheckFlash : Ctx := [(n_ref_allWords, c_ref_allWords)]
theorem ok_ref_CheckFlash : Ok Try.prog tab Γ_ref_CheckFlash := (ok_nil.consC hf_ref_allWords hB_ref_allWords sound_ref_allWords)
theorem ref_CheckFlash_vc (ws : List Int) (fu : Int) (rec : List It → St → Prop) (K : V → List Blk → Prop) v0 (hv0 : v0 = (okWords ws)) : segD Γ_ref_CheckFlash tab fn_ref_CheckFlash 0 K rec [.code (bodyOf fn_ref_CheckFlash)] (initSt [.agg [.dat (Ty.list Ty.int) ws, .dat Ty.int fu]] []) = (
    br (!(eqi (((len ws) : Nat) : Int) (32 : Int)))
     (br (!(eqi (((len ws) : Nat) : Int) (64 : Int)))
       (br (!(eqi (((len ws) : Nat) : Int) (96 : Int)))
         (br (!(eqi (((len ws) : Nat) : Int) (128 : Int)))
           (br (!(eqi (((len ws) : Nat) : Int) (160 : Int)))
             (br (!(eqi (((len ws) : Nat) : Int) (192 : Int)))
               (K (.one (.dat Ty.int (4 : Int))) [])
               (br (lti fu (-(1 : Int)))
                 (K (.one (.dat Ty.int (3 : Int))) [])
                 (br (lti (100000 : Int) fu)
                   (K (.one (.dat Ty.int (3 : Int))) [])
                   (((List.length ws) ≤ 140737488355328) ∧
                    (br (!v0)
                     (K (.one (.dat Ty.int (3 : Int))) [])
                     (K (.one (.dat Ty.int (0 : Int))) []))))))
             (br (lti fu (-(1 : Int)))
               (K (.one (.dat Ty.int (3 : Int))) [])
               (br (lti (100000 : Int) fu)
                 (K (.one (.dat Ty.int (3 : Int))) [])
                 (((List.length ws) ≤ 140737488355328) ∧
                  (br (!v0)
                   (K (.one (.dat Ty.int (3 : Int))) [])
                   (K (.one (.dat Ty.int (0 : Int))) []))))))
           (br (lti fu (-(1 : Int)))
             (K (.one (.dat Ty.int (3 : Int))) [])
             (br (lti (100000 : Int) fu)
               (K (.one (.dat Ty.int (3 : Int))) [])
               (((List.length ws) ≤ 140737488355328) ∧
                (br (!v0)
                 (K (.one (.dat Ty.int (3 : Int))) [])
                 (K (.one (.dat Ty.int (0 : Int))) []))))))
         (br (lti fu (-(1 : Int)))
           (K (.one (.dat Ty.int (3 : Int))) [])
           (br (lti (100000 : Int) fu)
             (K (.one (.dat Ty.int (3 : Int))) [])
             (((List.length ws) ≤ 140737488355328) ∧
              (br (!v0)
               (K (.one (.dat Ty.int (3 : Int))) [])
               (K (.one (.dat Ty.int (0 : Int))) []))))))
       (br (lti fu (-(1 : Int)))
         (K (.one (.dat Ty.int (3 : Int))) [])
         (br (lti (100000 : Int) fu)
           (K (.one (.dat Ty.int (3 : Int))) [])
           (((List.length ws) ≤ 140737488355328) ∧
            (br (!v0)
             (K (.one (.dat Ty.int (3 : Int))) [])
             (K (.one (.dat Ty.int (0 : Int))) []))))))
     (br (lti fu (-(1 : Int)))
       (K (.one (.dat Ty.int (3 : Int))) [])
       (br (lti (100000 : Int) fu)
         (K (.one (.dat Ty.int (3 : Int))) [])
         (((List.length ws) ≤ 140737488355328) ∧
          (br (!v0)
           (K (.one (.dat Ty.int (3 : Int))) [])
           (K (.one (.dat Ty.int (0 : Int))) [])))))) := by subst hv0; kernel_rfl
theorem ref_CheckFlash_w (ws : List Int) (fu : Int) (m : Nat) (K : V → List Blk → Prop) : goD Γ_ref_CheckFlash tab fn_ref_CheckFlash 0 K (m + 1) [.code (bodyOf fn_ref_CheckFlash)] (initSt [.agg [.dat (Ty.list Ty.int) ws, .dat Ty.int fu]] []) = segD Γ_ref_CheckFlash tab fn_ref_CheckFlash 0 K (goD Γ_ref_CheckFlash tab fn_ref_CheckFlash 0 K m) [.code (bodyOf fn_ref_CheckFlash)] (initSt [.agg [.dat (Ty.list Ty.int) ws, .dat Ty.int fu]] []) := rfl

set_option maxHeartbeats 4000000 in
theorem run_ref_CheckFlash (ws : List Int) (fu : Int) (hp : Sm ws) (K : V → List Blk → Prop) (hK : K (.one (.dat .int (checkFlash ⟨ws, fu⟩))) []) : ∃ m, goD Γ_ref_CheckFlash tab fn_ref_CheckFlash 0 K m [.code (bodyOf fn_ref_CheckFlash)] (initSt [.agg [.dat (.list .int) ws, .dat .int fu]] []) := by
  refine ⟨1, ?_⟩
  rw [ref_CheckFlash_w, ref_CheckFlash_vc _ _ _ _ _ rfl]
  have good : okLen ws.length = true → br (lti fu (-(1 : Int))) (K (.one (.dat Ty.int (3 : Int))) []) (br (lti (100000 : Int) fu) (K (.one (.dat Ty.int (3 : Int))) []) (((List.length ws) ≤ 140737488355328) ∧ (br (!(okWords ws)) (K (.one (.dat Ty.int (3 : Int))) []) (K (.one (.dat Ty.int (0 : Int))) [])))) := fun hl => by
    have three : (decide (-1 ≤ fu) && decide (fu ≤ 100000) && okWords ws) = false → K (.one (.dat .int 3)) [] := fun h => by
      rw [show checkFlash ⟨ws, fu⟩ = 3 from by simp [checkFlash, hl, h]] at hK; exact hK
    refine lt_s (fun h => three (by simp; omega)) (fun h => lt_s (fun h2 => three (by simp; omega)) (fun h2 => ⟨hp, nt_s (fun h3 => three (by simp [h3])) (fun h3 => ?_)⟩))
    rw [show checkFlash ⟨ws, fu⟩ = 0 from checkFlash_mk hl h h2 h3] at hK; exact hK
  simp only [len]
  refine ne_s (fun h1 => ne_s (fun h2 => ne_s (fun h3 => ne_s (fun h4 => ne_s (fun h5 => ne_s (fun h6 => ?_) (fun h => good ?_)) (fun h => good ?_)) (fun h => good ?_)) (fun h => good ?_)) (fun h => good ?_)) (fun h => good ?_)
  · rw [show checkFlash ⟨ws, fu⟩ = 4 from by
      have : okLen ws.length = false := by simp [okLen]; omega
      simp [checkFlash, this]] at hK
    exact hK
  all_goals (simp [okLen]; omega)
theorem sound_ref_CheckFlash : SoundC Try.prog tab n_ref_CheckFlash c_ref_CheckFlash := soundC_of ok_ref_CheckFlash hf_ref_CheckFlash hB_ref_CheckFlash (by
  intro vs bs p v bs' h hp
  unfold c_ref_CheckFlash at h
  split at h
  · cases h
    exact ⟨by kernel_rfl, rfl, .inl (run_ref_CheckFlash _ _ hp.1 _ ⟨rfl, rfl⟩)⟩
  · cases h)

def c_ref_generation : Contract := fun vs bs => match vs, bs with
  | [.agg [.dat (.list .int) ws, .dat .int _], .one (.dat .int sector)], [] => some (some (0 ≤ sector ∧ sector ≤ 1 ∧ 64 ≤ len ws), .one (.dat .int (genOf ws sector.toNat)), [])
  | _, _ => none
def Γ_ref_generation : Ctx := []
theorem ok_ref_generation : Ok Try.prog tab Γ_ref_generation := ok_nil
theorem ref_generation_vc (ws : List Int) (fu : Int) (sector : Int) (rec : List It → St → Prop) (K : V → List Blk → Prop) : segD Γ_ref_generation tab fn_ref_generation 0 K rec [.code (bodyOf fn_ref_generation)] (initSt [.agg [.dat (Ty.list Ty.int) ws, .dat Ty.int fu], .one (.dat Ty.int sector)] []) = (
    (((0 : Int) ≤ (w64 ((32 : Int) * sector))) ∧ ((w64 ((32 : Int) * sector)) < (((len ws) : Nat) : Int))) ∧
    (br (!(eqi (nth ws (Int.toNat (w64 ((32 : Int) * sector))) (Ty.dflt Ty.int)) (65535 : Int)))
     (K (.one (.dat Ty.int (nth ws (Int.toNat (w64 ((32 : Int) * sector))) (Ty.dflt Ty.int)))) [])
     (K (.one (.dat Ty.int (0 : Int))) []))) := by kernel_rfl
theorem ref_generation_w (ws : List Int) (fu : Int) (sector : Int) (m : Nat) (K : V → List Blk → Prop) : goD Γ_ref_generation tab fn_ref_generation 0 K (m + 1) [.code (bodyOf fn_ref_generation)] (initSt [.agg [.dat (Ty.list Ty.int) ws, .dat Ty.int fu], .one (.dat Ty.int sector)] []) = segD Γ_ref_generation tab fn_ref_generation 0 K (goD Γ_ref_generation tab fn_ref_generation 0 K m) [.code (bodyOf fn_ref_generation)] (initSt [.agg [.dat (Ty.list Ty.int) ws, .dat Ty.int fu], .one (.dat Ty.int sector)] []) := rfl

set_option maxHeartbeats 4000000 in
theorem run_ref_generation (ws : List Int) (fu sector : Int) (hp : 0 ≤ sector ∧ sector ≤ 1 ∧ 64 ≤ len ws) (K : V → List Blk → Prop) (hK : K (.one (.dat .int (genOf ws sector.toNat))) []) : ∃ m, goD Γ_ref_generation tab fn_ref_generation 0 K m [.code (bodyOf fn_ref_generation)] (initSt [.agg [.dat (.list .int) ws, .dat .int fu], .one (.dat .int sector)] []) := by
  obtain ⟨h0, h1, h2⟩ := hp
  obtain ⟨s, rfl⟩ := Int.eq_ofNat_of_zero_le h0
  refine ⟨1, ?_⟩
  rw [ref_generation_w, ref_generation_vc _ _ _ _ _, w64_id (n := 32 * (s : Int)) (by omega) (by omega), show Int.toNat (32 * (s : Int)) = 32 * s by omega]
  rw [toNat_nat] at hK
  unfold genOf at hK
  have e : nth ws (32 * s) (Ty.dflt Ty.int) = ws.getD (32 * s) 0 := rfl
  rw [e]
  refine ⟨⟨by omega, by omega⟩, ne_s (fun h => ?_) (fun h => ?_)⟩
  · rw [if_neg h] at hK; exact hK
  · rw [if_pos h] at hK; exact hK
theorem sound_ref_generation : SoundC Try.prog tab n_ref_generation c_ref_generation := soundC_of ok_ref_generation hf_ref_generation hB_ref_generation (by
  intro vs bs p v bs' h hp
  unfold c_ref_generation at h
  split at h
  · cases h
    exact ⟨by kernel_rfl, rfl, .inl (run_ref_generation _ _ _ hp.1 _ ⟨rfl, rfl⟩)⟩
  · cases h)

def c_ref_counts : Contract := fun vs bs => match vs, bs with
  | [.agg [.dat (.list .int) ws, .dat .int _]], [] => some (some (64 ≤ len ws), .tup [.one (.dat .int (liveS ws)), .one (.dat .int (liveG ws))], [])
  | _, _ => none
def Γ_ref_counts : Ctx := [(n_ref_generation, c_ref_generation)]
theorem ok_ref_counts : Ok Try.prog tab Γ_ref_counts := (ok_nil.consC hf_ref_generation hB_ref_generation sound_ref_generation)
theorem ref_counts_vc (ws : List Int) (fu : Int) (rec : List It → St → Prop) (K : V → List Blk → Prop) v0 (hv0 : v0 = (genOf ws (Int.toNat (1 : Int)))) v1 (hv1 : v1 = (genOf ws (Int.toNat (0 : Int)))) : segD Γ_ref_counts tab fn_ref_counts 0 K rec [.code (bodyOf fn_ref_counts)] (initSt [.agg [.dat (Ty.list Ty.int) ws, .dat Ty.int fu]] []) = (
    (((0 : Int) ≤ (0 : Int)) ∧ (((0 : Int) ≤ (1 : Int)) ∧ (64 ≤ (len ws)))) ∧
    ((((0 : Int) ≤ (1 : Int)) ∧ (((1 : Int) ≤ (1 : Int)) ∧ (64 ≤ (len ws)))) ∧
    (br (lei v0 v1)
     (K (.tup [.one (.dat Ty.int (0 : Int)), .one (.dat Ty.int v1)]) [])
     (K (.tup [.one (.dat Ty.int (1 : Int)), .one (.dat Ty.int v0)]) [])))) := by subst hv1; subst hv0; kernel_rfl
theorem ref_counts_w (ws : List Int) (fu : Int) (m : Nat) (K : V → List Blk → Prop) : goD Γ_ref_counts tab fn_ref_counts 0 K (m + 1) [.code (bodyOf fn_ref_counts)] (initSt [.agg [.dat (Ty.list Ty.int) ws, .dat Ty.int fu]] []) = segD Γ_ref_counts tab fn_ref_counts 0 K (goD Γ_ref_counts tab fn_ref_counts 0 K m) [.code (bodyOf fn_ref_counts)] (initSt [.agg [.dat (Ty.list Ty.int) ws, .dat Ty.int fu]] []) := rfl

set_option maxHeartbeats 4000000 in
theorem run_ref_counts (ws : List Int) (fu : Int) (hp : 64 ≤ len ws) (K : V → List Blk → Prop) (hK : K (.tup [.one (.dat .int (liveS ws)), .one (.dat .int (liveG ws))]) []) : ∃ m, goD Γ_ref_counts tab fn_ref_counts 0 K m [.code (bodyOf fn_ref_counts)] (initSt [.agg [.dat (.list .int) ws, .dat .int fu]] []) := by
  refine ⟨1, ?_⟩
  rw [ref_counts_w, ref_counts_vc _ _ _ _ _ rfl _ rfl]
  have e0 : genOf ws (Int.toNat (0 : Int)) = genOf ws 0 := rfl
  have e1 : genOf ws (Int.toNat (1 : Int)) = genOf ws 1 := rfl
  rw [e0, e1]
  unfold liveG liveS at hK
  refine ⟨⟨by omega, by omega, hp⟩, ⟨by omega, by omega, hp⟩, br_split (fun h => ?_) (fun h => ?_)⟩
  · rw [lei_true] at h
    rw [if_neg (by omega)] at hK; exact hK
  · rw [lei_false] at h
    rw [if_pos h] at hK; exact hK
theorem sound_ref_counts : SoundC Try.prog tab n_ref_counts c_ref_counts := soundC_of ok_ref_counts hf_ref_counts hB_ref_counts (by
  intro vs bs p v bs' h hp
  unfold c_ref_counts at h
  split at h
  · cases h
    exact ⟨by kernel_rfl, rfl, .inl (run_ref_counts _ _ hp.1 _ ⟨rfl, rfl⟩)⟩
  · cases h)

def c_ref_CheckLog : Contract := fun vs bs => match vs, bs with
  | [.agg [.dat (.list .int) ws, .dat .int fu]], [] => some (some (Sm ws), .one (.dat .int (checkLog ⟨ws, fu⟩)), [])
  | _, _ => none
def Γ_ref_CheckLog : Ctx := [(n_ref_CheckFlash, c_ref_CheckFlash), (n_ref_counts, c_ref_counts)]
theorem ok_ref_CheckLog : Ok Try.prog tab Γ_ref_CheckLog := ((ok_nil.consC hf_ref_counts hB_ref_counts sound_ref_counts).consC hf_ref_CheckFlash hB_ref_CheckFlash sound_ref_CheckFlash)
theorem ref_CheckLog_vc (ws : List Int) (fu : Int) (rec : List It → St → Prop) (K : V → List Blk → Prop) v0 (hv0 : v0 = (checkFlash (⟨ws, fu⟩ : Flash))) v1 (hv1 : v1 = (liveG ws)) : segD Γ_ref_CheckLog tab fn_ref_CheckLog 0 K rec [.code (bodyOf fn_ref_CheckLog)] (initSt [.agg [.dat (Ty.list Ty.int) ws, .dat Ty.int fu]] []) = (
    ((List.length ws) ≤ 140737488355328) ∧
    (br (!(eqi v0 (0 : Int)))
     (K (.one (.dat Ty.int v0)) [])
     (br (eqi (((len ws) : Nat) : Int) (32 : Int))
       (K (.one (.dat Ty.int (4 : Int))) [])
       ((64 ≤ (len ws)) ∧
        (br (eqi v1 (0 : Int))
         (K (.one (.dat Ty.int (5 : Int))) [])
         (br (lti (60000 : Int) v1)
           (K (.one (.dat Ty.int (5 : Int))) [])
           (K (.one (.dat Ty.int (0 : Int))) []))))))) := by subst hv1; subst hv0; kernel_rfl
theorem ref_CheckLog_w (ws : List Int) (fu : Int) (m : Nat) (K : V → List Blk → Prop) : goD Γ_ref_CheckLog tab fn_ref_CheckLog 0 K (m + 1) [.code (bodyOf fn_ref_CheckLog)] (initSt [.agg [.dat (Ty.list Ty.int) ws, .dat Ty.int fu]] []) = segD Γ_ref_CheckLog tab fn_ref_CheckLog 0 K (goD Γ_ref_CheckLog tab fn_ref_CheckLog 0 K m) [.code (bodyOf fn_ref_CheckLog)] (initSt [.agg [.dat (Ty.list Ty.int) ws, .dat Ty.int fu]] []) := rfl

set_option maxHeartbeats 4000000 in
theorem run_ref_CheckLog (ws : List Int) (fu : Int) (hp : Sm ws) (K : V → List Blk → Prop) (hK : K (.one (.dat .int (checkLog ⟨ws, fu⟩))) []) : ∃ m, goD Γ_ref_CheckLog tab fn_ref_CheckLog 0 K m [.code (bodyOf fn_ref_CheckLog)] (initSt [.agg [.dat (.list .int) ws, .dat .int fu]] []) := by
  refine ⟨1, ?_⟩
  rw [ref_CheckLog_w, ref_CheckLog_vc _ _ _ _ _ rfl _ rfl]
  unfold checkLog at hK
  refine ⟨hp, ne_s (fun h => ?_) (fun h => ?_)⟩
  · rw [if_neg h] at hK; exact hK
  rw [if_pos h] at hK
  obtain ⟨c1, _, _, c4⟩ := checkFlash_ok h
  simp only at c1 c4 hK
  have hn : ws.length = 32 ∨ 64 ≤ ws.length := by simp [okLen] at c1; omega
  have gr := genOf_range c4 (liveS ws)
  have gg : liveG ws = genOf ws (liveS ws) := rfl
  refine eq_s (fun h2 => ?_) (fun h2 => ?_)
  · rw [if_neg (by simp only [len] at h2; omega)] at hK; exact hK
  have h64 : 64 ≤ ws.length := by simp only [len] at h2; omega
  rw [if_pos h64] at hK
  refine ⟨h64, eq_s (fun h3 => ?_) (fun h3 => lt_s (fun h4 => ?_) (fun h4 => ?_))⟩
  · rw [if_neg (by omega)] at hK; exact hK
  · rw [if_neg (by omega)] at hK; exact hK
  · rw [if_pos (by omega)] at hK; exact hK
theorem sound_ref_CheckLog : SoundC Try.prog tab n_ref_CheckLog c_ref_CheckLog := soundC_of ok_ref_CheckLog hf_ref_CheckLog hB_ref_CheckLog (by
  intro vs bs p v bs' h hp
  unfold c_ref_CheckLog at h
  split at h
  · cases h
    exact ⟨by kernel_rfl, rfl, .inl (run_ref_CheckLog _ _ hp.1 _ ⟨rfl, rfl⟩)⟩
  · cases h)

def c_slices_Repeat_Lint : Contract := fun vs bs => match vs, bs with
  | [.one (.dat (.list .int) [x]), .one (.dat .int n)], [] => some (some (0 ≤ n ∧ n ≤ 1000000), .one (.dat (.list .int) (zeros n.toNat x)), [])
  | _, _ => none
def Γ_slices_Repeat_Lint : Ctx := [(n_math_bits_Mul, c_math_bits_Mul)]
theorem ok_slices_Repeat_Lint : Ok Try.prog tab Γ_slices_Repeat_Lint := (ok_nil.consC hf_math_bits_Mul hB_math_bits_Mul sound_math_bits_Mul)
noncomputable def slices_Repeat_Lint_L0 : List It := [.inLoop [8, 7, 4] (Code.sub (bodyOf fn_slices_Repeat_Lint) [1, 1, 1, 1, 1, 1, 0, 0, 0]), .inBlock 0, .code (Code.sub (bodyOf fn_slices_Repeat_Lint) [1, 1, 1, 1, 1, 1, 1])]
def slices_Repeat_Lint_S0 (x0 : Int) (x1 : (List Int)) (x2 : (List Int)) : St := ⟨[(8, .one (.dat Ty.int x0)), (7, .one (.own 0)), (4, .one (.own 1))], [(0, .arr Ty.int x1), (1, .arr Ty.int x2)], 2⟩
theorem slices_Repeat_Lint_vc (x : Int) (n : Int) (rec : List It → St → Prop) (K : V → List Blk → Prop) v0 (hv0 : v0 = (u64w (((len (x :: [])) : Nat) : Int))) v1 (hv1 : v1 = (inU64 v0)) v2 (hv2 : v2 = (u64w n)) v3 (hv3 : v3 = (inU64 v2)) : segD Γ_slices_Repeat_Lint tab fn_slices_Repeat_Lint 0 K rec [.code (bodyOf fn_slices_Repeat_Lint)] (initSt [.one (.dat (Ty.list Ty.int) (x :: [])), .one (.dat Ty.int n)] []) = (
    br (lti n (0 : Int))
     (False)
     (((v1 = true) ∧ (v3 = true)) ∧
      (br (lti (0 : Int) ((v0 * v2) / two64))
       (False)
       (br (lti (9223372036854775807 : Int) ((v0 * v2) % two64))
         (False)
         ((((0 : Int) ≤ (w64 ((v0 * v2) % two64))) ∧ ((((w64 ((v0 * v2) % two64)) * ((8 : Nat) : Int)) ≤ (140737488355328 : Int)) ∧ ((w64 ((v0 * v2) % two64)) ≤ (140737488355328 : Int)))) ∧
          (rec slices_Repeat_Lint_L0 (slices_Repeat_Lint_S0 (((min (len (zeros (Int.toNat (w64 ((v0 * v2) % two64))) (Ty.dflt Ty.int))) (len (x :: []))) : Nat) : Int) (put (zeros (Int.toNat (w64 ((v0 * v2) % two64))) (Ty.dflt Ty.int)) 0 (slc (x :: []) 0 (min (len (zeros (Int.toNat (w64 ((v0 * v2) % two64))) (Ty.dflt Ty.int))) (len (x :: []))))) []))))))) := by subst hv3; subst hv2; subst hv1; subst hv0; kernel_rfl
theorem slices_Repeat_Lint_w (x : Int) (n : Int) (m : Nat) (K : V → List Blk → Prop) : goD Γ_slices_Repeat_Lint tab fn_slices_Repeat_Lint 0 K (m + 1) [.code (bodyOf fn_slices_Repeat_Lint)] (initSt [.one (.dat (Ty.list Ty.int) (x :: [])), .one (.dat Ty.int n)] []) = segD Γ_slices_Repeat_Lint tab fn_slices_Repeat_Lint 0 K (goD Γ_slices_Repeat_Lint tab fn_slices_Repeat_Lint 0 K m) [.code (bodyOf fn_slices_Repeat_Lint)] (initSt [.one (.dat (Ty.list Ty.int) (x :: [])), .one (.dat Ty.int n)] []) := rfl
theorem slices_Repeat_Lint_vc0 (x0 : Int) (x1 : (List Int)) (x2 : (List Int)) (rec : List It → St → Prop) (K : V → List Blk → Prop) : segD Γ_slices_Repeat_Lint tab fn_slices_Repeat_Lint 0 K rec (.code (Code.sub (bodyOf fn_slices_Repeat_Lint) [1, 1, 1, 1, 1, 1, 0, 0, 0]) :: slices_Repeat_Lint_L0) (slices_Repeat_Lint_S0 x0 x1 x2) = (
    br (lti x0 (((len x1) : Nat) : Int))
     ((((0 : Int) ≤ x0) ∧ ((x0 ≤ (((len x1) : Nat) : Int)) ∧ ((((len x1) : Nat) : Int) ≤ (((len x1) : Nat) : Int)))) ∧
      ((((0 : Int) ≤ (0 : Int)) ∧ (((0 : Int) ≤ x0) ∧ (x0 ≤ (((len x1) : Nat) : Int)))) ∧
      (((((Int.toNat (0 : Int)) + (Int.toNat (x0 - (0 : Int)))) ≤ (len x1)) ∧ (((Int.toNat x0) + (Int.toNat ((((len x1) : Nat) : Int) - x0))) ≤ (len x1))) ∧
      (rec slices_Repeat_Lint_L0 (slices_Repeat_Lint_S0 (w64 (x0 + (((min (Int.toNat ((((len x1) : Nat) : Int) - x0)) (len (slc x1 (Int.toNat (0 : Int)) ((Int.toNat (0 : Int)) + (Int.toNat (x0 - (0 : Int))))))) : Nat) : Int))) (put x1 (Int.toNat x0) (slc (slc x1 (Int.toNat (0 : Int)) ((Int.toNat (0 : Int)) + (Int.toNat (x0 - (0 : Int))))) 0 (min (Int.toNat ((((len x1) : Nat) : Int) - x0)) (len (slc x1 (Int.toNat (0 : Int)) ((Int.toNat (0 : Int)) + (Int.toNat (x0 - (0 : Int))))))))) x2)))))
     (K (.one (.dat (Ty.list Ty.int) x1)) [])) := by kernel_rfl
theorem slices_Repeat_Lint_w0 (x0 : Int) (x1 : (List Int)) (x2 : (List Int)) (m : Nat) (K : V → List Blk → Prop) : goD Γ_slices_Repeat_Lint tab fn_slices_Repeat_Lint 0 K (m + 1) slices_Repeat_Lint_L0 (slices_Repeat_Lint_S0 x0 x1 x2) = segD Γ_slices_Repeat_Lint tab fn_slices_Repeat_Lint 0 K (goD Γ_slices_Repeat_Lint tab fn_slices_Repeat_Lint 0 K m) (.code (Code.sub (bodyOf fn_slices_Repeat_Lint) [1, 1, 1, 1, 1, 1, 0, 0, 0]) :: slices_Repeat_Lint_L0) (slices_Repeat_Lint_S0 x0 x1 x2) := rfl

theorem u64w_id {n : Int} (h1 : 0 ≤ n) (h2 : n < 18446744073709551616) : u64w n = n := by
  unfold u64w; rw [IntKind.wrap_u64]; omega
theorem inU64_of {n : Int} (h1 : 0 ≤ n) (h2 : n < 18446744073709551616) : inU64 n = true := by simp [inU64, h1, h2]
theorem put_rep (x : Int) (n k j : Nat) : put (List.replicate k x ++ List.replicate (n - k) 0) k (List.replicate j x) = List.replicate (k + j) x ++ List.replicate (n - (k + j)) 0 := by
  unfold put
  rw [List.take_left' (by simp), List.length_replicate]
  rw [show List.drop (k + j) (List.replicate k x ++ List.replicate (n - k) (0 : Int)) = List.replicate (n - (k + j)) 0 from by
    rw [List.drop_append, List.drop_of_length_le (by simp)]
    simp
    omega]
  rw [List.replicate_append_replicate]
theorem loop_slices_Repeat_Lint (x : Int) (n : Nat) (hn : n ≤ 1000000) (K : V → List Blk → Prop) (hK : K (.one (.dat (.list .int) (zeros n x))) []) : ∀ (d k : Nat), n ≤ k + d → k ≤ n → (0 < n → 0 < k) →
    goD Γ_slices_Repeat_Lint tab fn_slices_Repeat_Lint 0 K (d + 1) slices_Repeat_Lint_L0 (slices_Repeat_Lint_S0 (k : Int) (List.replicate k x ++ List.replicate (n - k) 0) [])
  | 0, k, hd, hk, hp => by
    rw [slices_Repeat_Lint_w0, slices_Repeat_Lint_vc0 _ _ _ _ _]
    have e : k = n := by omega
    subst e
    refine lt_f (by simp [len]) ?_
    simpa [zeros] using hK
  | d + 1, k, hd, hk, hp => by
    rw [slices_Repeat_Lint_w0, slices_Repeat_Lint_vc0 _ _ _ _ _]
    have hl : len (List.replicate k x ++ List.replicate (n - k) (0 : Int)) = n := by simp [len]; omega
    rw [hl]
    by_cases c : k < n
    · refine lt_t (by omega) ⟨⟨by omega, by omega, by omega⟩, ⟨by omega, by omega, by omega⟩, ⟨by omega, by omega⟩, ?_⟩
      have e1 : slc (List.replicate k x ++ List.replicate (n - k) (0 : Int)) (Int.toNat 0) (Int.toNat 0 + Int.toNat ((k : Int) - 0)) = List.replicate k x := by
        rw [show Int.toNat 0 + Int.toNat ((k : Int) - 0) = k by omega]
        unfold slc
        rw [List.take_left' (by simp)]
        simp
      rw [e1]
      have e2 : len (List.replicate k x) = k := by simp [len]
      rw [e2]
      generalize hj : min (Int.toNat ((n : Int) - (k : Int))) k = j
      have hj' : j = min (n - k) k := by omega
      have e3 : slc (List.replicate k x) 0 j = List.replicate j x := by
        unfold slc
        rw [List.take_replicate]
        simp
        omega
      rw [e3, toNat_nat, put_rep x n k j, w64_id (by omega) (by omega), show (k : Int) + (j : Int) = ((k + j : Nat) : Int) by omega]
      exact loop_slices_Repeat_Lint x n hn K hK d (k + j) (by have := hp (by omega); omega) (by omega) (fun h => by have := hp h; omega)
    · have e : k = n := by omega
      subst e
      refine lt_f (by omega) ?_
      simpa [zeros] using hK
set_option maxHeartbeats 4000000 in
theorem run_slices_Repeat_Lint (x n : Int) (hp : 0 ≤ n ∧ n ≤ 1000000) (K : V → List Blk → Prop) (hK : K (.one (.dat (.list .int) (zeros n.toNat x))) []) : ∃ m, goD Γ_slices_Repeat_Lint tab fn_slices_Repeat_Lint 0 K m [.code (bodyOf fn_slices_Repeat_Lint)] (initSt [.one (.dat (.list .int) [x]), .one (.dat .int n)] []) := by
  obtain ⟨h1, h2⟩ := hp
  refine ⟨n.toNat + 2, ?_⟩
  rw [slices_Repeat_Lint_w, slices_Repeat_Lint_vc _ _ _ _ _ rfl _ rfl _ rfl _ rfl]
  have e1 : u64w (((len (x :: [])) : Nat) : Int) = 1 := by simp only [len, List.length_cons, List.length_nil]; exact u64w_id (by omega) (by omega)
  rw [e1, u64w_id (n := n) h1 (by omega), Int.one_mul]
  have e2 : n / two64 = 0 := by unfold two64; omega
  have e3 : n % two64 = n := by unfold two64; omega
  rw [e2, e3, w64_id (by omega) (by omega)]
  refine lt_f h1 ⟨⟨inU64_of (by omega) (by omega), inU64_of h1 (by omega)⟩, lt_f (by omega) (lt_f (by omega) ⟨⟨h1, by omega, by omega⟩, ?_⟩)⟩
  obtain ⟨k, rfl⟩ := Int.eq_ofNat_of_zero_le h1
  rw [toNat_nat] at hK ⊢
  have e4 : len (zeros k (Ty.dflt Ty.int)) = k := by simp [len, zeros]
  rw [e4]
  have := loop_slices_Repeat_Lint x k (by omega) K hK k (min k 1) (by omega) (by omega) (by omega)
  have e5 : put (zeros k (Ty.dflt Ty.int)) 0 (slc (x :: []) 0 (min k (len (x :: [])))) = List.replicate (min k 1) x ++ List.replicate (k - min k 1) 0 := by
    have h := put_rep x k 0 (min k 1)
    rw [Nat.zero_add] at h
    rw [← h]
    have : slc (x :: []) 0 (min k (len (x :: []))) = List.replicate (min k 1) x := by
      simp only [len, List.length_cons, List.length_nil, slc]
      cases k with
      | zero => simp
      | succ k => rw [show min (k + 1) (0 + 1) = 1 by omega]; rfl
    rw [this]
    rfl
  rw [e5, show min k (len (x :: [])) = min k 1 from rfl]
  exact this
theorem sound_slices_Repeat_Lint : SoundC Try.prog tab n_slices_Repeat_Lint c_slices_Repeat_Lint := soundC_of ok_slices_Repeat_Lint hf_slices_Repeat_Lint hB_slices_Repeat_Lint (by
  intro vs bs p v bs' h hp
  unfold c_slices_Repeat_Lint at h
  split at h
  · cases h
    exact ⟨by kernel_rfl, rfl, .inl (run_slices_Repeat_Lint _ _ hp.1 _ ⟨rfl, rfl⟩)⟩
  · cases h)

def c_flash_New : Contract := fun vs bs => match vs, bs with
  | [.one (.dat .int n)], [] => some (none, .tup [.agg [.dat (.list .int) (newFlash n).1.words, .dat .int (newFlash n).1.fuel], .one (.dat .int (newFlash n).2)], [])
  | _, _ => none
def Γ_flash_New : Ctx := [(n_slices_Repeat_Lint, c_slices_Repeat_Lint)]
theorem ok_flash_New : Ok Try.prog tab Γ_flash_New := (ok_nil.consC hf_slices_Repeat_Lint hB_slices_Repeat_Lint sound_slices_Repeat_Lint)
theorem flash_New_vc (n : Int) (rec : List It → St → Prop) (K : V → List Blk → Prop) : segD Γ_flash_New tab fn_flash_New 0 K rec [.code (bodyOf fn_flash_New)] (initSt [.one (.dat Ty.int n)] []) = (
    br (lti n (1 : Int))
     (K (.tup [.agg [.dat (Ty.list Ty.int) [], .dat Ty.int (0 : Int)], .one (.dat Ty.int (3 : Int))]) [])
     (br (lti (6 : Int) n)
       (K (.tup [.agg [.dat (Ty.list Ty.int) [], .dat Ty.int (0 : Int)], .one (.dat Ty.int (3 : Int))]) [])
       ((((0 : Int) ≤ (w64 (n * (32 : Int)))) ∧ ((w64 (n * (32 : Int))) ≤ (1000000 : Int))) ∧
        (K (.tup [.agg [.dat (Ty.list Ty.int) (zeros (Int.toNat (w64 (n * (32 : Int)))) (65535 : Int)), .dat Ty.int (-(1 : Int))], .one (.dat Ty.int (0 : Int))]) [])))) := by kernel_rfl
theorem flash_New_w (n : Int) (m : Nat) (K : V → List Blk → Prop) : goD Γ_flash_New tab fn_flash_New 0 K (m + 1) [.code (bodyOf fn_flash_New)] (initSt [.one (.dat Ty.int n)] []) = segD Γ_flash_New tab fn_flash_New 0 K (goD Γ_flash_New tab fn_flash_New 0 K m) [.code (bodyOf fn_flash_New)] (initSt [.one (.dat Ty.int n)] []) := rfl

set_option maxHeartbeats 4000000 in
theorem run_flash_New (n : Int) (K : V → List Blk → Prop) (hK : K (.tup [.agg [.dat (.list .int) (newFlash n).1.words, .dat .int (newFlash n).1.fuel], .one (.dat .int (newFlash n).2)]) []) : ∃ m, goD Γ_flash_New tab fn_flash_New 0 K m [.code (bodyOf fn_flash_New)] (initSt [.one (.dat .int n)] []) := by
  refine ⟨1, ?_⟩
  rw [flash_New_w, flash_New_vc _ _ _]
  unfold newFlash at hK
  refine lt_s (fun h => ?_) (fun h => lt_s (fun h2 => ?_) (fun h2 => ?_))
  · rw [if_neg (by omega)] at hK; exact hK
  · rw [if_neg (by omega)] at hK; exact hK
  · rw [if_pos ⟨h, h2⟩] at hK
    rw [w64_id (by omega) (by omega)]
    exact ⟨⟨by omega, by omega⟩, hK⟩
theorem sound_flash_New : SoundC Try.prog tab n_flash_New c_flash_New := soundC_of ok_flash_New hf_flash_New hB_flash_New (by
  intro vs bs p v bs' h hp
  unfold c_flash_New at h
  split at h
  · cases h
    exact ⟨by kernel_rfl, rfl, .inl (run_flash_New _ _ ⟨rfl, rfl⟩)⟩
  · cases h)

def c_slices_Equal_Record : Contract := fun vs bs => match vs, bs with
  | [.one (.dat (.list .int) a), .one (.dat (.list .int) b)], [] => some (some (Sm a), .one (.dat .bool (eqIs a b)), [])
  | _, _ => none
def Γ_slices_Equal_Record : Ctx := []
theorem ok_slices_Equal_Record : Ok Try.prog tab Γ_slices_Equal_Record := ok_nil
noncomputable def slices_Equal_Record_L0 : List It := [.inLoop [13, 12, 4, 0, 1] (Code.sub (bodyOf fn_slices_Equal_Record) [1, 1, 0, 1, 0, 0]), .inBlock 0, .code (Code.sub (bodyOf fn_slices_Equal_Record) [1, 1, 1])]
def slices_Equal_Record_S0 (x0 : Int) (x1 : Int) (x2 : Bool) (x3 : (List Int)) (x4 : (List Int)) : St := ⟨[(13, .one (.dat Ty.int x0)), (12, .one (.dat Ty.int x1)), (4, .one (.dat Ty.bool x2)), (0, .one (.dat (Ty.list Ty.int) x3)), (1, .one (.dat (Ty.list Ty.int) x4))], [], 0⟩
theorem slices_Equal_Record_vc (a : List Int) (b : List Int) (rec : List It → St → Prop) (K : V → List Blk → Prop) : segD Γ_slices_Equal_Record tab fn_slices_Equal_Record 0 K rec [.code (bodyOf fn_slices_Equal_Record)] (initSt [.one (.dat (Ty.list Ty.int) a), .one (.dat (Ty.list Ty.int) b)] []) = (
    br (!(eqi (((len a) : Nat) : Int) (((len b) : Nat) : Int)))
     (K (.one (.dat Ty.bool false)) [])
     (rec slices_Equal_Record_L0 (slices_Equal_Record_S0 (0 : Int) (((len a) : Nat) : Int) false a b))) := by kernel_rfl
theorem slices_Equal_Record_w (a : List Int) (b : List Int) (m : Nat) (K : V → List Blk → Prop) : goD Γ_slices_Equal_Record tab fn_slices_Equal_Record 0 K (m + 1) [.code (bodyOf fn_slices_Equal_Record)] (initSt [.one (.dat (Ty.list Ty.int) a), .one (.dat (Ty.list Ty.int) b)] []) = segD Γ_slices_Equal_Record tab fn_slices_Equal_Record 0 K (goD Γ_slices_Equal_Record tab fn_slices_Equal_Record 0 K m) [.code (bodyOf fn_slices_Equal_Record)] (initSt [.one (.dat (Ty.list Ty.int) a), .one (.dat (Ty.list Ty.int) b)] []) := rfl
theorem slices_Equal_Record_vc0 (x0 : Int) (x1 : Int) (x2 : Bool) (x3 : (List Int)) (x4 : (List Int)) (rec : List It → St → Prop) (K : V → List Blk → Prop) : segD Γ_slices_Equal_Record tab fn_slices_Equal_Record 0 K rec (.code (Code.sub (bodyOf fn_slices_Equal_Record) [1, 1, 0, 1, 0, 0]) :: slices_Equal_Record_L0) (slices_Equal_Record_S0 x0 x1 x2 x3 x4) = (
    br (lti x0 x1)
     ((((0 : Int) ≤ x0) ∧ (x0 < (((len x3) : Nat) : Int))) ∧
      ((((0 : Int) ≤ x0) ∧ (x0 < (((len x4) : Nat) : Int))) ∧
      (br (!(eqi (nth x3 (Int.toNat x0) (Ty.dflt Ty.int)) (nth x4 (Int.toNat x0) (Ty.dflt Ty.int))))
       (K (.one (.dat Ty.bool false)) [])
       (rec slices_Equal_Record_L0 (slices_Equal_Record_S0 (w64 (x0 + (1 : Int))) x1 x2 x3 x4)))))
     (K (.one (.dat Ty.bool true)) [])) := by kernel_rfl
theorem slices_Equal_Record_w0 (x0 : Int) (x1 : Int) (x2 : Bool) (x3 : (List Int)) (x4 : (List Int)) (m : Nat) (K : V → List Blk → Prop) : goD Γ_slices_Equal_Record tab fn_slices_Equal_Record 0 K (m + 1) slices_Equal_Record_L0 (slices_Equal_Record_S0 x0 x1 x2 x3 x4) = segD Γ_slices_Equal_Record tab fn_slices_Equal_Record 0 K (goD Γ_slices_Equal_Record tab fn_slices_Equal_Record 0 K m) (.code (Code.sub (bodyOf fn_slices_Equal_Record) [1, 1, 0, 1, 0, 0]) :: slices_Equal_Record_L0) (slices_Equal_Record_S0 x0 x1 x2 x3 x4) := rfl

theorem loop_slices_Equal_Record (a b : List Int) (hl : a.length = b.length) (hs : Sm a) (K : V → List Blk → Prop) (hK : K (.one (.dat .bool (eqIs a b))) []) : ∀ (d k : Nat), k + d = a.length → a.take k = b.take k →
    goD Γ_slices_Equal_Record tab fn_slices_Equal_Record 0 K (d + 1) slices_Equal_Record_L0 (slices_Equal_Record_S0 (k : Int) (((len a) : Nat) : Int) false a b)
  | 0, k, hk, he => by
    rw [slices_Equal_Record_w0, slices_Equal_Record_vc0 _ _ _ _ _ _ _]
    refine lt_f (by simp only [len]; omega) ?_
    rw [List.take_of_length_le (by omega), List.take_of_length_le (by omega)] at he
    rw [show eqIs a b = true from by simp [eqIs, he]] at hK
    exact hK
  | d + 1, k, hk, he => by
    unfold Sm at hs
    rw [slices_Equal_Record_w0, slices_Equal_Record_vc0 _ _ _ _ _ _ _]
    refine lt_t (by simp only [len]; omega) ⟨⟨by omega, by simp only [len]; omega⟩, ⟨by omega, by simp only [len]; omega⟩, ne_s (fun hne => ?_) (fun heq => ?_)⟩
    · rw [show eqIs a b = false from by simp only [eqIs, decide_eq_false_iff_not]; rintro rfl; exact hne rfl] at hK
      exact hK
    · rw [w64_succ (by omega)]
      refine loop_slices_Equal_Record a b hl ‹Sm a› K hK d (k + 1) (by omega) ?_
      rw [take_step (by omega) (Ty.dflt Ty.int), take_step (by omega) (Ty.dflt Ty.int), he]
      rw [toNat_nat] at heq
      rw [heq]
set_option maxHeartbeats 4000000 in
theorem run_slices_Equal_Record (a b : List Int) (hp : Sm a) (K : V → List Blk → Prop) (hK : K (.one (.dat .bool (eqIs a b))) []) : ∃ m, goD Γ_slices_Equal_Record tab fn_slices_Equal_Record 0 K m [.code (bodyOf fn_slices_Equal_Record)] (initSt [.one (.dat (.list .int) a), .one (.dat (.list .int) b)] []) := by
  refine ⟨a.length + 2, ?_⟩
  rw [slices_Equal_Record_w, slices_Equal_Record_vc _ _ _ _]
  refine ne_s (fun h => ?_) (fun h => ?_)
  · rw [show eqIs a b = false from by simp only [eqIs, decide_eq_false_iff_not]; rintro rfl; exact h rfl] at hK
    exact hK
  · exact loop_slices_Equal_Record a b (by simp only [len] at h; omega) hp K hK a.length 0 (by omega) rfl
theorem sound_slices_Equal_Record : SoundC Try.prog tab n_slices_Equal_Record c_slices_Equal_Record := soundC_of ok_slices_Equal_Record hf_slices_Equal_Record hB_slices_Equal_Record (by
  intro vs bs p v bs' h hp
  unfold c_slices_Equal_Record at h
  split at h
  · cases h
    exact ⟨by kernel_rfl, rfl, .inl (run_slices_Equal_Record _ _ hp.1 _ ⟨rfl, rfl⟩)⟩
  · cases h)

def c_ref_SameRecords_1 : Contract := fun vs bs => match vs, bs with
  | [.one (.dat (.list .int) a), .one (.dat (.list .int) b)], [] => some (some (Sm a), .one (.dat .bool (eqIs a b)), [])
  | _, _ => none
def Γ_ref_SameRecords_1 : Ctx := [(n_slices_Equal_Record, c_slices_Equal_Record)]
theorem ok_ref_SameRecords_1 : Ok Try.prog tab Γ_ref_SameRecords_1 := (ok_nil.consC hf_slices_Equal_Record hB_slices_Equal_Record sound_slices_Equal_Record)
theorem ref_SameRecords_1_vc (a : List Int) (b : List Int) (rec : List It → St → Prop) (K : V → List Blk → Prop) v0 (hv0 : v0 = (eqIs a b)) : segD Γ_ref_SameRecords_1 tab fn_ref_SameRecords_1 0 K rec [.code (bodyOf fn_ref_SameRecords_1)] (initSt [.one (.dat (Ty.list Ty.int) a), .one (.dat (Ty.list Ty.int) b)] []) = (
    ((List.length a) ≤ 140737488355328) ∧
    (K (.one (.dat Ty.bool v0)) [])) := by subst hv0; kernel_rfl
theorem ref_SameRecords_1_w (a : List Int) (b : List Int) (m : Nat) (K : V → List Blk → Prop) : goD Γ_ref_SameRecords_1 tab fn_ref_SameRecords_1 0 K (m + 1) [.code (bodyOf fn_ref_SameRecords_1)] (initSt [.one (.dat (Ty.list Ty.int) a), .one (.dat (Ty.list Ty.int) b)] []) = segD Γ_ref_SameRecords_1 tab fn_ref_SameRecords_1 0 K (goD Γ_ref_SameRecords_1 tab fn_ref_SameRecords_1 0 K m) [.code (bodyOf fn_ref_SameRecords_1)] (initSt [.one (.dat (Ty.list Ty.int) a), .one (.dat (Ty.list Ty.int) b)] []) := rfl

set_option maxHeartbeats 4000000 in
theorem run_ref_SameRecords_1 (a b : List Int) (hp : Sm a) (K : V → List Blk → Prop) (hK : K (.one (.dat .bool (eqIs a b))) []) : ∃ m, goD Γ_ref_SameRecords_1 tab fn_ref_SameRecords_1 0 K m [.code (bodyOf fn_ref_SameRecords_1)] (initSt [.one (.dat (.list .int) a), .one (.dat (.list .int) b)] []) := by
  refine ⟨1, ?_⟩
  rw [ref_SameRecords_1_w, ref_SameRecords_1_vc _ _ _ _ _ rfl]
  exact ⟨hp, hK⟩
theorem sound_ref_SameRecords_1 : SoundC Try.prog tab n_ref_SameRecords_1 c_ref_SameRecords_1 := soundC_of ok_ref_SameRecords_1 hf_ref_SameRecords_1 hB_ref_SameRecords_1 (by
  intro vs bs p v bs' h hp
  unfold c_ref_SameRecords_1 at h
  split at h
  · cases h
    exact ⟨by kernel_rfl, rfl, .inl (run_ref_SameRecords_1 _ _ hp.1 _ ⟨rfl, rfl⟩)⟩
  · cases h)

def c_slices_EqualFunc_LRecord : Contract := fun vs bs => match vs, bs with
  | [.one (.dat (.list (.list .int)) a), .one (.dat (.list (.list .int)) b), .one (.fn f [])], [] => (match Nat.beq f n_ref_SameRecords_1 with | true => some (some (a.length ≤ 140737488355328 ∧ smR a = true), .one (.dat .bool (sameRecs a b)), []) | false => none)
  | _, _ => none
def Γ_slices_EqualFunc_LRecord : Ctx := [(n_ref_SameRecords_1, c_ref_SameRecords_1)]
theorem ok_slices_EqualFunc_LRecord : Ok Try.prog tab Γ_slices_EqualFunc_LRecord := (ok_nil.consC hf_ref_SameRecords_1 hB_ref_SameRecords_1 sound_ref_SameRecords_1)
noncomputable def slices_EqualFunc_LRecord_0_L0 : List It := [.inLoop [17, 16, 15, 6, 1, 2] (Code.sub (bodyOf fn_slices_EqualFunc_LRecord) [1, 1, 0, 1, 0, 0]), .inBlock 0, .code (Code.sub (bodyOf fn_slices_EqualFunc_LRecord) [1, 1, 1])]
def slices_EqualFunc_LRecord_0_S0 (x0 : Int) (x1 : Int) (x2 : (List (List Int))) (x3 : Bool) (x4 : (List (List Int))) : St := ⟨[(17, .one (.dat Ty.int x0)), (16, .one (.dat Ty.int x1)), (15, .one (.dat (Ty.list (Ty.list Ty.int)) x2)), (6, .one (.dat Ty.bool x3)), (1, .one (.dat (Ty.list (Ty.list Ty.int)) x4)), (2, .one (.fn n_ref_SameRecords_1 []))], [], 0⟩
theorem slices_EqualFunc_LRecord_0_vc (a : List (List Int)) (b : List (List Int)) (rec : List It → St → Prop) (K : V → List Blk → Prop) : segD Γ_slices_EqualFunc_LRecord tab fn_slices_EqualFunc_LRecord 0 K rec [.code (bodyOf fn_slices_EqualFunc_LRecord)] (initSt [.one (.dat (Ty.list (Ty.list Ty.int)) a), .one (.dat (Ty.list (Ty.list Ty.int)) b), .one (.fn n_ref_SameRecords_1 [])] []) = (
    br (!(eqi (((len a) : Nat) : Int) (((len b) : Nat) : Int)))
     (K (.one (.dat Ty.bool false)) [])
     (rec slices_EqualFunc_LRecord_0_L0 (slices_EqualFunc_LRecord_0_S0 (0 : Int) (((len a) : Nat) : Int) a false b))) := by kernel_rfl
theorem slices_EqualFunc_LRecord_0_w (a : List (List Int)) (b : List (List Int)) (m : Nat) (K : V → List Blk → Prop) : goD Γ_slices_EqualFunc_LRecord tab fn_slices_EqualFunc_LRecord 0 K (m + 1) [.code (bodyOf fn_slices_EqualFunc_LRecord)] (initSt [.one (.dat (Ty.list (Ty.list Ty.int)) a), .one (.dat (Ty.list (Ty.list Ty.int)) b), .one (.fn n_ref_SameRecords_1 [])] []) = segD Γ_slices_EqualFunc_LRecord tab fn_slices_EqualFunc_LRecord 0 K (goD Γ_slices_EqualFunc_LRecord tab fn_slices_EqualFunc_LRecord 0 K m) [.code (bodyOf fn_slices_EqualFunc_LRecord)] (initSt [.one (.dat (Ty.list (Ty.list Ty.int)) a), .one (.dat (Ty.list (Ty.list Ty.int)) b), .one (.fn n_ref_SameRecords_1 [])] []) := rfl
theorem slices_EqualFunc_LRecord_0_vc0 (x0 : Int) (x1 : Int) (x2 : (List (List Int))) (x3 : Bool) (x4 : (List (List Int))) (rec : List It → St → Prop) (K : V → List Blk → Prop) v0 (hv0 : v0 = (eqIs (nth x2 (Int.toNat x0) (Ty.dflt (Ty.list Ty.int))) (nth x4 (Int.toNat x0) (Ty.dflt (Ty.list Ty.int))))) : segD Γ_slices_EqualFunc_LRecord tab fn_slices_EqualFunc_LRecord 0 K rec (.code (Code.sub (bodyOf fn_slices_EqualFunc_LRecord) [1, 1, 0, 1, 0, 0]) :: slices_EqualFunc_LRecord_0_L0) (slices_EqualFunc_LRecord_0_S0 x0 x1 x2 x3 x4) = (
    br (lti x0 x1)
     ((((0 : Int) ≤ x0) ∧ (x0 < (((len x2) : Nat) : Int))) ∧
      ((((0 : Int) ≤ x0) ∧ (x0 < (((len x4) : Nat) : Int))) ∧
      (((List.length (nth x2 (Int.toNat x0) (Ty.dflt (Ty.list Ty.int)))) ≤ 140737488355328) ∧
      (br (!v0)
       (K (.one (.dat Ty.bool false)) [])
       (rec slices_EqualFunc_LRecord_0_L0 (slices_EqualFunc_LRecord_0_S0 (w64 (x0 + (1 : Int))) x1 x2 x3 x4))))))
     (K (.one (.dat Ty.bool true)) [])) := by subst hv0; kernel_rfl
theorem slices_EqualFunc_LRecord_0_w0 (x0 : Int) (x1 : Int) (x2 : (List (List Int))) (x3 : Bool) (x4 : (List (List Int))) (m : Nat) (K : V → List Blk → Prop) : goD Γ_slices_EqualFunc_LRecord tab fn_slices_EqualFunc_LRecord 0 K (m + 1) slices_EqualFunc_LRecord_0_L0 (slices_EqualFunc_LRecord_0_S0 x0 x1 x2 x3 x4) = segD Γ_slices_EqualFunc_LRecord tab fn_slices_EqualFunc_LRecord 0 K (goD Γ_slices_EqualFunc_LRecord tab fn_slices_EqualFunc_LRecord 0 K m) (.code (Code.sub (bodyOf fn_slices_EqualFunc_LRecord) [1, 1, 0, 1, 0, 0]) :: slices_EqualFunc_LRecord_0_L0) (slices_EqualFunc_LRecord_0_S0 x0 x1 x2 x3 x4) := rfl

theorem loop_slices_EqualFunc_LRecord_0 (a b : List (List Int)) (hl : a.length = b.length) (hs : a.length ≤ 140737488355328) (hr : smR a = true) (K : V → List Blk → Prop) (hK : K (.one (.dat .bool (sameRecs a b))) []) : ∀ (d k : Nat), k + d = a.length → a.take k = b.take k →
    goD Γ_slices_EqualFunc_LRecord tab fn_slices_EqualFunc_LRecord 0 K (d + 1) slices_EqualFunc_LRecord_0_L0 (slices_EqualFunc_LRecord_0_S0 (k : Int) (((len a) : Nat) : Int) a false b)
  | 0, k, hk, he => by
    rw [slices_EqualFunc_LRecord_0_w0, slices_EqualFunc_LRecord_0_vc0 _ _ _ _ _ _ _ _ rfl]
    refine lt_f (by simp only [len]; omega) ?_
    rw [List.take_of_length_le (by omega), List.take_of_length_le (by omega)] at he
    rw [show sameRecs a b = true from by simp [sameRecs, he]] at hK
    exact hK
  | d + 1, k, hk, he => by
    rw [slices_EqualFunc_LRecord_0_w0, slices_EqualFunc_LRecord_0_vc0 _ _ _ _ _ _ _ _ rfl, toNat_nat]
    have hm : nth a k (Ty.dflt (.list .int)) ∈ a := by
      have : k < a.length := by omega
      simp [nth, List.getD_eq_getElem?_getD, this]
    refine lt_t (by simp only [len]; omega) ⟨⟨by omega, by simp only [len]; omega⟩, ⟨by omega, by simp only [len]; omega⟩, by simpa using List.all_eq_true.1 hr _ hm, nt_s (fun hne => ?_) (fun heq => ?_)⟩
    · rw [show sameRecs a b = false from by
        simp only [eqIs, decide_eq_false_iff_not] at hne
        simp only [sameRecs, decide_eq_false_iff_not]; rintro rfl; exact hne rfl] at hK
      exact hK
    · rw [w64_succ (by omega)]
      simp only [eqIs, decide_eq_true_eq] at heq
      refine loop_slices_EqualFunc_LRecord_0 a b hl hs hr K hK d (k + 1) (by omega) ?_
      rw [take_step (by omega) (Ty.dflt (.list .int)), take_step (by omega) (Ty.dflt (.list .int)), he, heq]
set_option maxHeartbeats 4000000 in
theorem run_slices_EqualFunc_LRecord_0 (a b : List (List Int)) (hp : a.length ≤ 140737488355328 ∧ smR a = true) (K : V → List Blk → Prop) (hK : K (.one (.dat .bool (sameRecs a b))) []) : ∃ m, goD Γ_slices_EqualFunc_LRecord tab fn_slices_EqualFunc_LRecord 0 K m [.code (bodyOf fn_slices_EqualFunc_LRecord)] (initSt [.one (.dat (.list (.list .int)) a), .one (.dat (.list (.list .int)) b), .one (.fn n_ref_SameRecords_1 [])] []) := by
  refine ⟨a.length + 2, ?_⟩
  rw [slices_EqualFunc_LRecord_0_w, slices_EqualFunc_LRecord_0_vc _ _ _ _]
  refine ne_s (fun h => ?_) (fun h => ?_)
  · rw [show sameRecs a b = false from by simp only [sameRecs, decide_eq_false_iff_not]; rintro rfl; exact h rfl] at hK
    exact hK
  · exact loop_slices_EqualFunc_LRecord_0 a b (by simp only [len] at h; omega) hp.1 hp.2 K hK a.length 0 (by omega) rfl
theorem sound_slices_EqualFunc_LRecord : SoundC Try.prog tab n_slices_EqualFunc_LRecord c_slices_EqualFunc_LRecord := soundC_of ok_slices_EqualFunc_LRecord hf_slices_EqualFunc_LRecord hB_slices_EqualFunc_LRecord (by
  intro vs bs p v bs' h hp
  unfold c_slices_EqualFunc_LRecord at h
  split at h
  · split at h
    · rename_i hfn
      have hfn := Nat.eq_of_beq_eq_true hfn
      subst hfn
      cases h
      exact ⟨by kernel_rfl, rfl, .inl (run_slices_EqualFunc_LRecord_0 _ _ hp.1 _ ⟨rfl, rfl⟩)⟩
    · cases h
  · cases h)

def c_ref_SameRecords : Contract := fun vs bs => match vs, bs with
  | [.one (.dat (.list (.list .int)) a), .one (.dat (.list (.list .int)) b)], [] => some (some (a.length ≤ 140737488355328 ∧ smR a = true), .one (.dat .bool (sameRecs a b)), [])
  | _, _ => none
def Γ_ref_SameRecords : Ctx := [(n_slices_EqualFunc_LRecord, c_slices_EqualFunc_LRecord), (n_ref_SameRecords_1, c_ref_SameRecords_1)]
theorem ok_ref_SameRecords : Ok Try.prog tab Γ_ref_SameRecords := ((ok_nil.consC hf_ref_SameRecords_1 hB_ref_SameRecords_1 sound_ref_SameRecords_1).consC hf_slices_EqualFunc_LRecord hB_slices_EqualFunc_LRecord sound_slices_EqualFunc_LRecord)
theorem ref_SameRecords_vc (a : List (List Int)) (b : List (List Int)) (rec : List It → St → Prop) (K : V → List Blk → Prop) v0 (hv0 : v0 = (smR a)) v1 (hv1 : v1 = (sameRecs a b)) : segD Γ_ref_SameRecords tab fn_ref_SameRecords 0 K rec [.code (bodyOf fn_ref_SameRecords)] (initSt [.one (.dat (Ty.list (Ty.list Ty.int)) a), .one (.dat (Ty.list (Ty.list Ty.int)) b)] []) = (
    (((List.length a) ≤ 140737488355328) ∧ (v0 = true)) ∧
    (K (.one (.dat Ty.bool v1)) [])) := by subst hv1; subst hv0; kernel_rfl
theorem ref_SameRecords_w (a : List (List Int)) (b : List (List Int)) (m : Nat) (K : V → List Blk → Prop) : goD Γ_ref_SameRecords tab fn_ref_SameRecords 0 K (m + 1) [.code (bodyOf fn_ref_SameRecords)] (initSt [.one (.dat (Ty.list (Ty.list Ty.int)) a), .one (.dat (Ty.list (Ty.list Ty.int)) b)] []) = segD Γ_ref_SameRecords tab fn_ref_SameRecords 0 K (goD Γ_ref_SameRecords tab fn_ref_SameRecords 0 K m) [.code (bodyOf fn_ref_SameRecords)] (initSt [.one (.dat (Ty.list (Ty.list Ty.int)) a), .one (.dat (Ty.list (Ty.list Ty.int)) b)] []) := rfl

set_option maxHeartbeats 4000000 in
theorem run_ref_SameRecords (a b : List (List Int)) (hp : a.length ≤ 140737488355328 ∧ smR a = true) (K : V → List Blk → Prop) (hK : K (.one (.dat .bool (sameRecs a b))) []) : ∃ m, goD Γ_ref_SameRecords tab fn_ref_SameRecords 0 K m [.code (bodyOf fn_ref_SameRecords)] (initSt [.one (.dat (.list (.list .int)) a), .one (.dat (.list (.list .int)) b)] []) := by
  refine ⟨1, ?_⟩
  rw [ref_SameRecords_w, ref_SameRecords_vc _ _ _ _ _ rfl _ rfl]
  exact ⟨hp, hK⟩
theorem sound_ref_SameRecords : SoundC Try.prog tab n_ref_SameRecords c_ref_SameRecords := soundC_of ok_ref_SameRecords hf_ref_SameRecords hB_ref_SameRecords (by
  intro vs bs p v bs' h hp
  unfold c_ref_SameRecords at h
  split at h
  · cases h
    exact ⟨by kernel_rfl, rfl, .inl (run_ref_SameRecords _ _ hp.1 _ ⟨rfl, rfl⟩)⟩
  · cases h)

def c_law_logged : Contract := fun vs bs => match vs, bs with
  | [], [] => some (none, .one (.dat .bool true), [])
  | _, _ => none
def Γ_law_logged : Ctx := [(n_flash_New, c_flash_New), (n_log_Format, c_log_Format), (n_log_Append, c_log_Append), (n_log_Records, c_log_Records), (n_ref_SameRecords, c_ref_SameRecords)]
theorem ok_law_logged : Ok Try.prog tab Γ_law_logged := (((((ok_nil.consC hf_ref_SameRecords hB_ref_SameRecords sound_ref_SameRecords).consC hf_log_Records hB_log_Records sound_log_Records).consC hf_log_Append hB_log_Append sound_log_Append).consC hf_log_Format hB_log_Format sound_log_Format).consC hf_flash_New hB_flash_New sound_flash_New)
theorem law_logged_vc (rec : List It → St → Prop) (K : V → List Blk → Prop) v0 (hv0 : v0 = (smR [])) v1 (hv1 : v1 = (applyCh (zeros (Int.toNat ((2 : Int) * (32 : Int))) (65535 : Int)) formatCh)) v2 (hv2 : v2 = (liveS v1)) v3 (hv3 : v3 = (hereCh v2 0 ((5 : Int) :: []))) v4 (hv4 : v4 = (applyCh v1 v3)) v5 (hv5 : v5 = (liveS v4)) v6 (hv6 : v6 = (headN (fnwApp (some ((42240 : Int) + (((List.length ((5 : Int) :: [])) : Nat) : Int))) (List.getD (List.set v1 (Int.toNat ((((((32 * v2) + 1) + 0) : Nat) : Int) + (1 : Int))) (fnwApp (some (5 : Int)) (List.getD v1 (Int.toNat ((((((32 * v2) + 1) + 0) : Nat) : Int) + (1 : Int))) (0 : Int)))) (Int.toNat (((((32 * v2) + 1) + 0) : Nat) : Int)) (0 : Int))))) v7 (hv7 : v7 = (hereCh v5 ((0 + v6) + 1) ((6 : Int) :: ((7 : Int) :: [])))) v8 (hv8 : v8 = (applyCh v4 v7)) v9 (hv9 : v9 = (recsOf v8)) v10 (hv10 : v10 = (smR v9)) : segD Γ_law_logged tab fn_law_logged 0 K rec [.code (bodyOf fn_law_logged)] (initSt [] []) = (
    (((List.length ((5 : Int) :: [])) ≤ 140737488355328) ∧ (((0 * 24) ≤ 140737488351232) ∧ (v0 = true))) ∧
    ((((List.length ((6 : Int) :: ((7 : Int) :: []))) ≤ 140737488355328) ∧ (((0 * 24) ≤ 140737488351232) ∧ (v0 = true))) ∧
    ((((List.length v9) ≤ 140737488355328) ∧ (v10 = true)) ∧
    ((((0 : Int) ≤ (1 : Int)) ∧ ((1 : Int) < (((len v8) : Nat) : Int))) ∧
    (K (.one (.dat Ty.bool (eqi (nth v8 (Int.toNat (1 : Int)) (Ty.dflt Ty.int)) (42241 : Int)))) []))))) := by subst hv10; subst hv9; subst hv8; subst hv7; subst hv6; subst hv5; subst hv4; subst hv3; subst hv2; subst hv1; subst hv0; kernel_rfl
theorem law_logged_w (m : Nat) (K : V → List Blk → Prop) : goD Γ_law_logged tab fn_law_logged 0 K (m + 1) [.code (bodyOf fn_law_logged)] (initSt [] []) = segD Γ_law_logged tab fn_law_logged 0 K (goD Γ_law_logged tab fn_law_logged 0 K m) [.code (bodyOf fn_law_logged)] (initSt [] []) := rfl

set_option maxHeartbeats 4000000 in
theorem run_law_logged  (K : V → List Blk → Prop) (hK : K (.one (.dat .bool true)) []) : ∃ m, goD Γ_law_logged tab fn_law_logged 0 K m [.code (bodyOf fn_law_logged)] (initSt [] []) := by
  refine ⟨1, ?_⟩
  rw [law_logged_w, law_logged_vc _ _ _ rfl _ rfl _ rfl _ rfl _ rfl _ rfl _ rfl _ rfl _ rfl _ rfl _ rfl]
  refine ⟨⟨by decide, by decide, rfl⟩, ⟨by decide, by decide, rfl⟩, ⟨by decide +kernel, by decide +kernel⟩, ⟨by decide, by decide +kernel⟩, ?_⟩
  exact hK
theorem sound_law_logged : SoundC Try.prog tab n_law_logged c_law_logged := soundC_of ok_law_logged hf_law_logged hB_law_logged (by
  intro vs bs p v bs' h hp
  unfold c_law_logged at h
  split at h
  · cases h
    exact ⟨by kernel_rfl, rfl, .inl (run_law_logged  _ ⟨rfl, rfl⟩)⟩
  · cases h)

def c_slices_Equal_Lint : Contract := fun vs bs => match vs, bs with
  | [.one (.dat (.list .int) a), .one (.dat (.list .int) b)], [] => some (some (Sm a), .one (.dat .bool (eqIs a b)), [])
  | _, _ => none
def Γ_slices_Equal_Lint : Ctx := []
theorem ok_slices_Equal_Lint : Ok Try.prog tab Γ_slices_Equal_Lint := ok_nil
noncomputable def slices_Equal_Lint_L0 : List It := [.inLoop [13, 12, 4, 0, 1] (Code.sub (bodyOf fn_slices_Equal_Lint) [1, 1, 0, 1, 0, 0]), .inBlock 0, .code (Code.sub (bodyOf fn_slices_Equal_Lint) [1, 1, 1])]
def slices_Equal_Lint_S0 (x0 : Int) (x1 : Int) (x2 : Bool) (x3 : (List Int)) (x4 : (List Int)) : St := ⟨[(13, .one (.dat Ty.int x0)), (12, .one (.dat Ty.int x1)), (4, .one (.dat Ty.bool x2)), (0, .one (.dat (Ty.list Ty.int) x3)), (1, .one (.dat (Ty.list Ty.int) x4))], [], 0⟩
theorem slices_Equal_Lint_vc (a : List Int) (b : List Int) (rec : List It → St → Prop) (K : V → List Blk → Prop) : segD Γ_slices_Equal_Lint tab fn_slices_Equal_Lint 0 K rec [.code (bodyOf fn_slices_Equal_Lint)] (initSt [.one (.dat (Ty.list Ty.int) a), .one (.dat (Ty.list Ty.int) b)] []) = (
    br (!(eqi (((len a) : Nat) : Int) (((len b) : Nat) : Int)))
     (K (.one (.dat Ty.bool false)) [])
     (rec slices_Equal_Lint_L0 (slices_Equal_Lint_S0 (0 : Int) (((len a) : Nat) : Int) false a b))) := by kernel_rfl
theorem slices_Equal_Lint_w (a : List Int) (b : List Int) (m : Nat) (K : V → List Blk → Prop) : goD Γ_slices_Equal_Lint tab fn_slices_Equal_Lint 0 K (m + 1) [.code (bodyOf fn_slices_Equal_Lint)] (initSt [.one (.dat (Ty.list Ty.int) a), .one (.dat (Ty.list Ty.int) b)] []) = segD Γ_slices_Equal_Lint tab fn_slices_Equal_Lint 0 K (goD Γ_slices_Equal_Lint tab fn_slices_Equal_Lint 0 K m) [.code (bodyOf fn_slices_Equal_Lint)] (initSt [.one (.dat (Ty.list Ty.int) a), .one (.dat (Ty.list Ty.int) b)] []) := rfl
theorem slices_Equal_Lint_vc0 (x0 : Int) (x1 : Int) (x2 : Bool) (x3 : (List Int)) (x4 : (List Int)) (rec : List It → St → Prop) (K : V → List Blk → Prop) : segD Γ_slices_Equal_Lint tab fn_slices_Equal_Lint 0 K rec (.code (Code.sub (bodyOf fn_slices_Equal_Lint) [1, 1, 0, 1, 0, 0]) :: slices_Equal_Lint_L0) (slices_Equal_Lint_S0 x0 x1 x2 x3 x4) = (
    br (lti x0 x1)
     ((((0 : Int) ≤ x0) ∧ (x0 < (((len x3) : Nat) : Int))) ∧
      ((((0 : Int) ≤ x0) ∧ (x0 < (((len x4) : Nat) : Int))) ∧
      (br (!(eqi (nth x3 (Int.toNat x0) (Ty.dflt Ty.int)) (nth x4 (Int.toNat x0) (Ty.dflt Ty.int))))
       (K (.one (.dat Ty.bool false)) [])
       (rec slices_Equal_Lint_L0 (slices_Equal_Lint_S0 (w64 (x0 + (1 : Int))) x1 x2 x3 x4)))))
     (K (.one (.dat Ty.bool true)) [])) := by kernel_rfl
theorem slices_Equal_Lint_w0 (x0 : Int) (x1 : Int) (x2 : Bool) (x3 : (List Int)) (x4 : (List Int)) (m : Nat) (K : V → List Blk → Prop) : goD Γ_slices_Equal_Lint tab fn_slices_Equal_Lint 0 K (m + 1) slices_Equal_Lint_L0 (slices_Equal_Lint_S0 x0 x1 x2 x3 x4) = segD Γ_slices_Equal_Lint tab fn_slices_Equal_Lint 0 K (goD Γ_slices_Equal_Lint tab fn_slices_Equal_Lint 0 K m) (.code (Code.sub (bodyOf fn_slices_Equal_Lint) [1, 1, 0, 1, 0, 0]) :: slices_Equal_Lint_L0) (slices_Equal_Lint_S0 x0 x1 x2 x3 x4) := rfl

theorem loop_slices_Equal_Lint (a b : List Int) (hl : a.length = b.length) (hs : Sm a) (K : V → List Blk → Prop) (hK : K (.one (.dat .bool (eqIs a b))) []) : ∀ (d k : Nat), k + d = a.length → a.take k = b.take k →
    goD Γ_slices_Equal_Lint tab fn_slices_Equal_Lint 0 K (d + 1) slices_Equal_Lint_L0 (slices_Equal_Lint_S0 (k : Int) (((len a) : Nat) : Int) false a b)
  | 0, k, hk, he => by
    rw [slices_Equal_Lint_w0, slices_Equal_Lint_vc0 _ _ _ _ _ _ _]
    refine lt_f (by simp only [len]; omega) ?_
    rw [List.take_of_length_le (by omega), List.take_of_length_le (by omega)] at he
    rw [show eqIs a b = true from by simp [eqIs, he]] at hK
    exact hK
  | d + 1, k, hk, he => by
    unfold Sm at hs
    rw [slices_Equal_Lint_w0, slices_Equal_Lint_vc0 _ _ _ _ _ _ _]
    refine lt_t (by simp only [len]; omega) ⟨⟨by omega, by simp only [len]; omega⟩, ⟨by omega, by simp only [len]; omega⟩, ne_s (fun hne => ?_) (fun heq => ?_)⟩
    · rw [show eqIs a b = false from by simp only [eqIs, decide_eq_false_iff_not]; rintro rfl; exact hne rfl] at hK
      exact hK
    · rw [w64_succ (by omega)]
      refine loop_slices_Equal_Lint a b hl ‹Sm a› K hK d (k + 1) (by omega) ?_
      rw [take_step (by omega) (Ty.dflt Ty.int), take_step (by omega) (Ty.dflt Ty.int), he]
      rw [toNat_nat] at heq
      rw [heq]
set_option maxHeartbeats 4000000 in
theorem run_slices_Equal_Lint (a b : List Int) (hp : Sm a) (K : V → List Blk → Prop) (hK : K (.one (.dat .bool (eqIs a b))) []) : ∃ m, goD Γ_slices_Equal_Lint tab fn_slices_Equal_Lint 0 K m [.code (bodyOf fn_slices_Equal_Lint)] (initSt [.one (.dat (.list .int) a), .one (.dat (.list .int) b)] []) := by
  refine ⟨a.length + 2, ?_⟩
  rw [slices_Equal_Lint_w, slices_Equal_Lint_vc _ _ _ _]
  refine ne_s (fun h => ?_) (fun h => ?_)
  · rw [show eqIs a b = false from by simp only [eqIs, decide_eq_false_iff_not]; rintro rfl; exact h rfl] at hK
    exact hK
  · exact loop_slices_Equal_Lint a b (by simp only [len] at h; omega) hp K hK a.length 0 (by omega) rfl
theorem sound_slices_Equal_Lint : SoundC Try.prog tab n_slices_Equal_Lint c_slices_Equal_Lint := soundC_of ok_slices_Equal_Lint hf_slices_Equal_Lint hB_slices_Equal_Lint (by
  intro vs bs p v bs' h hp
  unfold c_slices_Equal_Lint at h
  split at h
  · cases h
    exact ⟨by kernel_rfl, rfl, .inl (run_slices_Equal_Lint _ _ hp.1 _ ⟨rfl, rfl⟩)⟩
  · cases h)

def c_ref_SameFlash : Contract := fun vs bs => match vs, bs with
  | [.agg [.dat (.list .int) ws, .dat .int fu], .agg [.dat (.list .int) us, .dat .int fv]], [] => some (some (Sm ws), .one (.dat .bool (sameFlash ⟨ws, fu⟩ ⟨us, fv⟩)), [])
  | _, _ => none
def Γ_ref_SameFlash : Ctx := [(n_slices_Equal_Lint, c_slices_Equal_Lint)]
theorem ok_ref_SameFlash : Ok Try.prog tab Γ_ref_SameFlash := (ok_nil.consC hf_slices_Equal_Lint hB_slices_Equal_Lint sound_slices_Equal_Lint)
theorem ref_SameFlash_vc (ws : List Int) (fu : Int) (us : List Int) (fv : Int) (rec : List It → St → Prop) (K : V → List Blk → Prop) v0 (hv0 : v0 = (eqIs ws us)) : segD Γ_ref_SameFlash tab fn_ref_SameFlash 0 K rec [.code (bodyOf fn_ref_SameFlash)] (initSt [.agg [.dat (Ty.list Ty.int) ws, .dat Ty.int fu], .agg [.dat (Ty.list Ty.int) us, .dat Ty.int fv]] []) = (
    br (eqi fu fv)
     (((List.length ws) ≤ 140737488355328) ∧
      (K (.one (.dat Ty.bool v0)) []))
     (K (.one (.dat Ty.bool false)) [])) := by subst hv0; kernel_rfl
theorem ref_SameFlash_w (ws : List Int) (fu : Int) (us : List Int) (fv : Int) (m : Nat) (K : V → List Blk → Prop) : goD Γ_ref_SameFlash tab fn_ref_SameFlash 0 K (m + 1) [.code (bodyOf fn_ref_SameFlash)] (initSt [.agg [.dat (Ty.list Ty.int) ws, .dat Ty.int fu], .agg [.dat (Ty.list Ty.int) us, .dat Ty.int fv]] []) = segD Γ_ref_SameFlash tab fn_ref_SameFlash 0 K (goD Γ_ref_SameFlash tab fn_ref_SameFlash 0 K m) [.code (bodyOf fn_ref_SameFlash)] (initSt [.agg [.dat (Ty.list Ty.int) ws, .dat Ty.int fu], .agg [.dat (Ty.list Ty.int) us, .dat Ty.int fv]] []) := rfl

set_option maxHeartbeats 4000000 in
theorem run_ref_SameFlash (ws : List Int) (fu : Int) (us : List Int) (fv : Int) (hp : Sm ws) (K : V → List Blk → Prop) (hK : K (.one (.dat .bool (sameFlash ⟨ws, fu⟩ ⟨us, fv⟩))) []) : ∃ m, goD Γ_ref_SameFlash tab fn_ref_SameFlash 0 K m [.code (bodyOf fn_ref_SameFlash)] (initSt [.agg [.dat (.list .int) ws, .dat .int fu], .agg [.dat (.list .int) us, .dat .int fv]] []) := by
  refine ⟨1, ?_⟩
  rw [ref_SameFlash_w, ref_SameFlash_vc _ _ _ _ _ _ _ rfl]
  refine eq_s (fun h => ⟨hp, ?_⟩) (fun h => ?_)
  · rw [show sameFlash ⟨ws, fu⟩ ⟨us, fv⟩ = eqIs ws us from by simp [sameFlash, h]] at hK; exact hK
  · rw [show sameFlash ⟨ws, fu⟩ ⟨us, fv⟩ = false from by simp [sameFlash, h]] at hK; exact hK
theorem sound_ref_SameFlash : SoundC Try.prog tab n_ref_SameFlash c_ref_SameFlash := soundC_of ok_ref_SameFlash hf_ref_SameFlash hB_ref_SameFlash (by
  intro vs bs p v bs' h hp
  unfold c_ref_SameFlash at h
  split at h
  · cases h
    exact ⟨by kernel_rfl, rfl, .inl (run_ref_SameFlash _ _ _ _ hp.1 _ ⟨rfl, rfl⟩)⟩
  · cases h)

def c_ref_Changed : Contract := fun vs bs => match vs, bs with
  | [.agg [.dat (.list .int) ws, .dat .int fu], .one (.dat (.list .change) cs)], [] => some (some (len ws ≤ 192 ∧ -1 ≤ fu ∧ fu ≤ 100000 ∧ len cs ≤ 1000 ∧ inPlaces ws.length cs = true), .tup [.agg [.dat (.list .int) (power (doCh ⟨ws, fu⟩ cs)).1.words, .dat .int (power (doCh ⟨ws, fu⟩ cs)).1.fuel], .one (.dat .int (power (doCh ⟨ws, fu⟩ cs)).2)], [])
  | _, _ => none
def Γ_ref_Changed : Ctx := [(n_ref_OwnFlash, c_ref_OwnFlash)]
theorem ok_ref_Changed : Ok Try.prog tab Γ_ref_Changed := (ok_nil.consC hf_ref_OwnFlash hB_ref_OwnFlash sound_ref_OwnFlash)
noncomputable def ref_Changed_L0 : List It := [.inLoop [31, 30, 29, 6, 5, 4, 2] (Code.sub (bodyOf fn_ref_Changed) [1, 1, 1, 1, 0, 1, 0, 0]), .inBlock 0, .code (Code.sub (bodyOf fn_ref_Changed) [1, 1, 1, 1, 1])]
def ref_Changed_S0 (x0 : Int) (x1 : Int) (x2 : (List Change)) (x3 : Int) (x4 : Int) (x5 : Int) (x6 : Int) (x7 : (List Int)) (x8 : (List Int)) : St := ⟨[(31, .one (.dat Ty.int x0)), (30, .one (.dat Ty.int x1)), (29, .one (.dat (Ty.list Ty.change) x2)), (6, .one (.dat Ty.int x3)), (5, .one (.dat Ty.int x4)), (4, .one (.ptr 0 0)), (2, .one (.ptr 1 0))], [(0, .box [.own 2, .dat Ty.int x5]), (1, .box [.own 3, .dat Ty.int x6]), (2, .arr Ty.int x7), (3, .arr Ty.int x8)], 4⟩
theorem ref_Changed_vc (ws : List Int) (fu : Int) (cs : List Change) (rec : List It → St → Prop) (K : V → List Blk → Prop) : segD Γ_ref_Changed tab fn_ref_Changed 0 K rec [.code (bodyOf fn_ref_Changed)] (initSt [.agg [.dat (Ty.list Ty.int) ws, .dat Ty.int fu], .one (.dat (Ty.list Ty.change) cs)] []) = (
    (((len ws) * 8) ≤ 140737488355328) ∧
    (br (lei (0 : Int) fu)
     (br (lti fu (((len cs) : Nat) : Int))
       ((((0 : Int) ≤ (0 : Int)) ∧ (((0 : Int) ≤ fu) ∧ (fu ≤ (((len cs) : Nat) : Int)))) ∧
        (rec ref_Changed_L0 (ref_Changed_S0 (0 : Int) (((len (slc cs (Int.toNat (0 : Int)) (Int.toNat fu))) : Nat) : Int) (slc cs (Int.toNat (0 : Int)) (Int.toNat fu)) (7 : Int) (0 : Int) (0 : Int) (w64 (fu - (((len (slc cs (Int.toNat (0 : Int)) (Int.toNat fu))) : Nat) : Int))) [] ws)))
       (rec ref_Changed_L0 (ref_Changed_S0 (0 : Int) (((len cs) : Nat) : Int) cs (0 : Int) (0 : Int) (0 : Int) (w64 (fu - (((len cs) : Nat) : Int))) [] ws)))
     (rec ref_Changed_L0 (ref_Changed_S0 (0 : Int) (((len cs) : Nat) : Int) cs (0 : Int) (0 : Int) (0 : Int) fu [] ws)))) := by kernel_rfl
theorem ref_Changed_w (ws : List Int) (fu : Int) (cs : List Change) (m : Nat) (K : V → List Blk → Prop) : goD Γ_ref_Changed tab fn_ref_Changed 0 K (m + 1) [.code (bodyOf fn_ref_Changed)] (initSt [.agg [.dat (Ty.list Ty.int) ws, .dat Ty.int fu], .one (.dat (Ty.list Ty.change) cs)] []) = segD Γ_ref_Changed tab fn_ref_Changed 0 K (goD Γ_ref_Changed tab fn_ref_Changed 0 K m) [.code (bodyOf fn_ref_Changed)] (initSt [.agg [.dat (Ty.list Ty.int) ws, .dat Ty.int fu], .one (.dat (Ty.list Ty.change) cs)] []) := rfl
theorem ref_Changed_vc0 (x0 : Int) (x1 : Int) (x2 : (List Change)) (x3 : Int) (x4 : Int) (x5 : Int) (x6 : Int) (x7 : (List Int)) (x8 : (List Int)) (rec : List It → St → Prop) (K : V → List Blk → Prop) : segD Γ_ref_Changed tab fn_ref_Changed 0 K rec (.code (Code.sub (bodyOf fn_ref_Changed) [1, 1, 1, 1, 0, 1, 0, 0]) :: ref_Changed_L0) (ref_Changed_S0 x0 x1 x2 x3 x4 x5 x6 x7 x8) = (
    br (lti x0 x1)
     ((((0 : Int) ≤ x0) ∧ (x0 < (((len x2) : Nat) : Int))) ∧
      ((((0 : Int) ≤ ((nth x2 (Int.toNat x0) (Ty.dflt Ty.change))).at_) ∧ (((nth x2 (Int.toNat x0) (Ty.dflt Ty.change))).at_ < (((len x8) : Nat) : Int))) ∧
      (((Int.toNat ((nth x2 (Int.toNat x0) (Ty.dflt Ty.change))).at_) < (len x8)) ∧
      ((((0 : Int) ≤ ((nth x2 (Int.toNat x0) (Ty.dflt Ty.change))).at_) ∧ (((nth x2 (Int.toNat x0) (Ty.dflt Ty.change))).at_ < (((len x8) : Nat) : Int))) ∧
      (((Int.toNat ((nth x2 (Int.toNat x0) (Ty.dflt Ty.change))).at_) < (len x8)) ∧
      (rec ref_Changed_L0 (ref_Changed_S0 (w64 (x0 + (1 : Int))) x1 x2 x3 x4 x5 x6 x7 (setAt x8 (Int.toNat ((nth x2 (Int.toNat x0) (Ty.dflt Ty.change))).at_) (fnwApp ((nth x2 (Int.toNat x0) (Ty.dflt Ty.change))).word (nth x8 (Int.toNat ((nth x2 (Int.toNat x0) (Ty.dflt Ty.change))).at_) (Ty.dflt Ty.int)))))))))))
     (K (.tup [.agg [.dat (Ty.list Ty.int) x8, .dat Ty.int x6], .one (.dat Ty.int x3)]) [])) := by kernel_rfl
theorem ref_Changed_w0 (x0 : Int) (x1 : Int) (x2 : (List Change)) (x3 : Int) (x4 : Int) (x5 : Int) (x6 : Int) (x7 : (List Int)) (x8 : (List Int)) (m : Nat) (K : V → List Blk → Prop) : goD Γ_ref_Changed tab fn_ref_Changed 0 K (m + 1) ref_Changed_L0 (ref_Changed_S0 x0 x1 x2 x3 x4 x5 x6 x7 x8) = segD Γ_ref_Changed tab fn_ref_Changed 0 K (goD Γ_ref_Changed tab fn_ref_Changed 0 K m) (.code (Code.sub (bodyOf fn_ref_Changed) [1, 1, 1, 1, 0, 1, 0, 0]) :: ref_Changed_L0) (ref_Changed_S0 x0 x1 x2 x3 x4 x5 x6 x7 x8) := rfl

set_option maxHeartbeats 4000000 in
theorem run_ref_Changed (ws : List Int) (fu : Int) (cs : List Change) (hp : len ws ≤ 192 ∧ -1 ≤ fu ∧ fu ≤ 100000 ∧ len cs ≤ 1000 ∧ inPlaces ws.length cs = true) (K : V → List Blk → Prop) (hK : K (.tup [.agg [.dat (.list .int) (power (doCh ⟨ws, fu⟩ cs)).1.words, .dat .int (power (doCh ⟨ws, fu⟩ cs)).1.fuel], .one (.dat .int (power (doCh ⟨ws, fu⟩ cs)).2)]) []) : ∃ m, goD Γ_ref_Changed tab fn_ref_Changed 0 K m [.code (bodyOf fn_ref_Changed)] (initSt [.agg [.dat (.list .int) ws, .dat .int fu], .one (.dat (.list .change) cs)] []) := by
  obtain ⟨h1, h2, h3, h4, h5⟩ := hp
  refine ⟨cs.length + 2, ?_⟩
  rw [ref_Changed_w, ref_Changed_vc _ _ _ _ _]
  simp only [len] at h1 h4 ⊢
  have sub : ∀ k, inPlaces ws.length (cs.take k) = true := fun k => List.all_eq_true.2 fun c hc => List.all_eq_true.1 h5 c (List.mem_of_mem_take hc)
  have more : ∀ (cs' : List Change) (e f : Int), cs'.length ≤ cs.length → inPlaces ws.length cs' = true → K (.tup [.agg [.dat (.list .int) (applyCh ws cs'), .dat .int f], .one (.dat .int e)]) [] →
      goD Γ_ref_Changed tab fn_ref_Changed 0 K (cs.length + 1) ref_Changed_L0 (ref_Changed_S0 0 (((List.length cs') : Nat) : Int) cs' e 0 0 f [] ws) := fun cs' e f hl hi hk => by
    have key : ∀ (d k : Nat) (ws : List Int), k + d ≥ cs'.length → inPlaces ws.length cs' = true → K (.tup [.agg [.dat (.list .int) (applyCh ws (cs'.drop k)), .dat .int f], .one (.dat .int e)]) [] → k ≤ cs'.length →
        goD Γ_ref_Changed tab fn_ref_Changed 0 K (d + 1) ref_Changed_L0 (ref_Changed_S0 (k : Int) (((List.length cs') : Nat) : Int) cs' e 0 0 f [] ws) := by
      intro d
      induction d with
      | zero =>
        intro k ws hk hi hK hle
        rw [ref_Changed_w0, ref_Changed_vc0 _ _ _ _ _ _ _ _ _ _ _]
        rw [List.drop_of_length_le (by omega)] at hK
        exact lt_f (by omega) hK
      | succ d ih =>
        intro k ws hk hi hK hle
        by_cases c : k = cs'.length
        · subst c
          rw [ref_Changed_w0, ref_Changed_vc0 _ _ _ _ _ _ _ _ _ _ _]
          rw [List.drop_of_length_le (Nat.le_refl _)] at hK
          exact lt_f (by omega) hK
        · rw [ref_Changed_w0, ref_Changed_vc0 _ _ _ _ _ _ _ _ _ _ _]
          rw [toNat_nat]
          have hm : nth cs' k (Ty.dflt Ty.change) ∈ cs' := by
            have : k < cs'.length := by omega
            simp [nth, List.getD_eq_getElem?_getD, this]
          have hpl := List.all_eq_true.1 hi _ hm
          simp only [Bool.and_eq_true, decide_eq_true_eq] at hpl
          refine lt_t (by omega) ⟨⟨by omega, by simp only [len]; omega⟩, ⟨hpl.1, hpl.2⟩, by simp only [len]; omega, ⟨hpl.1, hpl.2⟩, by simp only [len]; omega, ?_⟩
          rw [w64_succ (by omega)]
          refine ih (k + 1) _ (by omega) (by simpa [setAt] using hi) ?_ (by omega)
          rw [drop_step (by omega) (Ty.dflt Ty.change), applyCh_cons] at hK
          exact hK
    exact key cs.length 0 ws (by omega) hi hk (by omega)
  unfold power doCh at hK
  refine ⟨by omega, br_split (fun h => ?_) (fun h => ?_)⟩
  · rw [lei_true] at h
    simp only [if_neg (show ¬ fu < 0 by omega)] at hK
    refine lt_s (fun h6 => ⟨⟨by omega, h, by omega⟩, ?_⟩) (fun h6 => ?_)
    · rw [if_neg (by omega)] at hK
      have es : slc cs (Int.toNat 0) (Int.toNat fu) = cs.take fu.toNat := slc_take _ _
      have el : (cs.take fu.toNat).length = fu.toNat := by simp; omega
      rw [es, el, w64_id (by omega) (by omega), show fu - ((fu.toNat : Nat) : Int) = 0 by omega]
      have := more (cs.take fu.toNat) 7 0 (by simp; omega) (sub _) hK
      rw [el] at this
      exact this
    · rw [if_pos (by omega)] at hK
      rw [w64_id (by omega) (by omega)]
      exact more cs 0 _ (Nat.le_refl _) h5 hK
  · rw [lei_false] at h
    rw [if_pos h] at hK
    exact more cs 0 fu (Nat.le_refl _) h5 hK
theorem sound_ref_Changed : SoundC Try.prog tab n_ref_Changed c_ref_Changed := soundC_of ok_ref_Changed hf_ref_Changed hB_ref_Changed (by
  intro vs bs p v bs' h hp
  unfold c_ref_Changed at h
  split at h
  · cases h
    exact ⟨by kernel_rfl, rfl, .inl (run_ref_Changed _ _ _ hp.1 _ ⟨rfl, rfl⟩)⟩
  · cases h)

def c_ref_erases : Contract := fun vs bs => match vs, bs with
  | [.one (.dat .int sector)], [] => some (some (0 ≤ sector ∧ sector ≤ 10), .one (.own 0), [.arr .change (wipeCh sector)])
  | _, _ => none
def Γ_ref_erases : Ctx := []
theorem ok_ref_erases : Ok Try.prog tab Γ_ref_erases := ok_nil
noncomputable def ref_erases_L0 : List It := [.inLoop [5, 3, 2, 0] (Code.sub (bodyOf fn_ref_erases) [1, 1, 0, 1, 0, 0]), .inBlock 0, .code (Code.sub (bodyOf fn_ref_erases) [1, 1, 1])]
def ref_erases_S0 (x0 : Int) (x1 : Int) (x2 : (List Change)) (x3 : (List Change)) : St := ⟨[(5, .one (.dat Ty.int x0)), (3, .one (.own 0)), (2, .one (.own 1)), (0, .one (.dat Ty.int x1))], [(0, .arr Ty.change x2), (1, .arr Ty.change x3)], 2⟩
theorem ref_erases_vc (sector : Int) (rec : List It → St → Prop) (K : V → List Blk → Prop) : segO Γ_ref_erases tab fn_ref_erases 0 K rec [.code (bodyOf fn_ref_erases)] (initSt [.one (.dat Ty.int sector)] []) = (
    rec ref_erases_L0 (ref_erases_S0 (0 : Int) sector [] [])) := by kernel_rfl
theorem ref_erases_w (sector : Int) (m : Nat) (K : V → List Blk → Prop) : goO Γ_ref_erases tab fn_ref_erases 0 K (m + 1) [.code (bodyOf fn_ref_erases)] (initSt [.one (.dat Ty.int sector)] []) = segO Γ_ref_erases tab fn_ref_erases 0 K (goO Γ_ref_erases tab fn_ref_erases 0 K m) [.code (bodyOf fn_ref_erases)] (initSt [.one (.dat Ty.int sector)] []) := rfl
theorem ref_erases_vc0 (x0 : Int) (x1 : Int) (x2 : (List Change)) (x3 : (List Change)) (rec : List It → St → Prop) (K : V → List Blk → Prop) : segO Γ_ref_erases tab fn_ref_erases 0 K rec (.code (Code.sub (bodyOf fn_ref_erases) [1, 1, 0, 1, 0, 0]) :: ref_erases_L0) (ref_erases_S0 x0 x1 x2 x3) = (
    br (lti x0 (32 : Int))
     (((((len x2) + (len ((⟨(w64 ((w64 ((32 : Int) * x1)) + x0)), none⟩ : Change) :: []))) * 16) ≤ 140737488355328) ∧
      (rec ref_erases_L0 (ref_erases_S0 (w64 (x0 + (1 : Int))) x1 (cat x2 ((⟨(w64 ((w64 ((32 : Int) * x1)) + x0)), none⟩ : Change) :: [])) x3)))
     (K (.one (.own 0)) [.arr Ty.change x2])) := by kernel_rfl
theorem ref_erases_w0 (x0 : Int) (x1 : Int) (x2 : (List Change)) (x3 : (List Change)) (m : Nat) (K : V → List Blk → Prop) : goO Γ_ref_erases tab fn_ref_erases 0 K (m + 1) ref_erases_L0 (ref_erases_S0 x0 x1 x2 x3) = segO Γ_ref_erases tab fn_ref_erases 0 K (goO Γ_ref_erases tab fn_ref_erases 0 K m) (.code (Code.sub (bodyOf fn_ref_erases) [1, 1, 0, 1, 0, 0]) :: ref_erases_L0) (ref_erases_S0 x0 x1 x2 x3) := rfl

theorem wipe_snoc (a : Int) : ∀ n : Nat, wipeFrom a (n + 1) = wipeFrom a n ++ [⟨a + n, none⟩] := by
  intro n
  induction n generalizing a with
  | zero => simp [wipeFrom]
  | succ n ih =>
    rw [wipeFrom, ih (a + 1)]
    simp only [wipeFrom, List.cons_append]
    rw [show a + 1 + (n : Int) = a + ((n + 1 : Nat) : Int) by omega]
theorem loop_ref_erases (sector : Int) (h0 : 0 ≤ sector) (h1 : sector ≤ 10) (K : V → List Blk → Prop) (hK : K (.one (.own 0)) [.arr .change (wipeCh sector)]) : ∀ (d k : Nat), k + d = 32 →
    goO Γ_ref_erases tab fn_ref_erases 0 K (d + 1) ref_erases_L0 (ref_erases_S0 (k : Int) sector (wipeFrom (32 * sector) k) [])
  | 0, k, hk => by
    rw [ref_erases_w0, ref_erases_vc0 _ _ _ _ _ _]
    have : k = 32 := by omega
    subst this
    exact lt_f (by omega) hK
  | d + 1, k, hk => by
    rw [ref_erases_w0, ref_erases_vc0 _ _ _ _ _ _]
    refine lt_t (by omega) ⟨?_, ?_⟩
    · simp only [len, wipeFrom_len, List.length_cons, List.length_nil]; omega
    · rw [w64_id (n := 32 * sector) (by omega) (by omega), w64_id (n := 32 * sector + (k : Int)) (by omega) (by omega), w64_succ (by omega)]
      have := loop_ref_erases sector h0 h1 K hK d (k + 1) (by omega)
      rw [wipe_snoc] at this
      exact this
set_option maxHeartbeats 4000000 in
theorem run_ref_erases (sector : Int) (hp : 0 ≤ sector ∧ sector ≤ 10) (K : V → List Blk → Prop) (hK : K (.one (.own 0)) [.arr .change (wipeCh sector)]) : ∃ m, goO Γ_ref_erases tab fn_ref_erases 0 K m [.code (bodyOf fn_ref_erases)] (initSt [.one (.dat .int sector)] []) := by
  refine ⟨34, ?_⟩
  rw [ref_erases_w, ref_erases_vc _ _ _]
  exact loop_ref_erases sector hp.1 hp.2 K hK 32 0 rfl
theorem sound_ref_erases : SoundC Try.prog tab n_ref_erases c_ref_erases := soundC_of ok_ref_erases hf_ref_erases hB_ref_erases (by
  intro vs bs p v bs' h hp
  unfold c_ref_erases at h
  split at h
  · cases h
    exact ⟨by kernel_rfl, rfl, .inr (run_ref_erases _ hp.1 _ ⟨rfl, rfl⟩)⟩
  · cases h)

def c_ref_programs : Contract := fun vs bs => match vs, bs with
  | [.one (.dat .int at_), .one (.dat (.list .int) l)], [] => some (some (0 ≤ at_ ∧ at_ ≤ 1000 ∧ len l ≤ 1000), .one (.own 0), [.arr .change (burnCh at_ l)])
  | _, _ => none
def Γ_ref_programs : Ctx := []
theorem ok_ref_programs : Ok Try.prog tab Γ_ref_programs := ok_nil
noncomputable def ref_programs_L0 : List It := [.inLoop [10, 9, 8, 5, 4, 0] (Code.sub (bodyOf fn_ref_programs) [1, 1, 0, 1, 0, 0]), .inBlock 0, .code (Code.sub (bodyOf fn_ref_programs) [1, 1, 1])]
def ref_programs_S0 (x0 : Int) (x1 : Int) (x2 : (List Int)) (x3 : Int) (x4 : (List Change)) (x5 : (List Change)) : St := ⟨[(10, .one (.dat Ty.int x0)), (9, .one (.dat Ty.int x1)), (8, .one (.dat (Ty.list Ty.int) x2)), (5, .one (.own 0)), (4, .one (.own 1)), (0, .one (.dat Ty.int x3))], [(0, .arr Ty.change x4), (1, .arr Ty.change x5)], 2⟩
theorem ref_programs_vc (at_ : Int) (l : List Int) (rec : List It → St → Prop) (K : V → List Blk → Prop) : segO Γ_ref_programs tab fn_ref_programs 0 K rec [.code (bodyOf fn_ref_programs)] (initSt [.one (.dat Ty.int at_), .one (.dat (Ty.list Ty.int) l)] []) = (
    rec ref_programs_L0 (ref_programs_S0 (0 : Int) (((len l) : Nat) : Int) l at_ [] [])) := by kernel_rfl
theorem ref_programs_w (at_ : Int) (l : List Int) (m : Nat) (K : V → List Blk → Prop) : goO Γ_ref_programs tab fn_ref_programs 0 K (m + 1) [.code (bodyOf fn_ref_programs)] (initSt [.one (.dat Ty.int at_), .one (.dat (Ty.list Ty.int) l)] []) = segO Γ_ref_programs tab fn_ref_programs 0 K (goO Γ_ref_programs tab fn_ref_programs 0 K m) [.code (bodyOf fn_ref_programs)] (initSt [.one (.dat Ty.int at_), .one (.dat (Ty.list Ty.int) l)] []) := rfl
theorem ref_programs_vc0 (x0 : Int) (x1 : Int) (x2 : (List Int)) (x3 : Int) (x4 : (List Change)) (x5 : (List Change)) (rec : List It → St → Prop) (K : V → List Blk → Prop) : segO Γ_ref_programs tab fn_ref_programs 0 K rec (.code (Code.sub (bodyOf fn_ref_programs) [1, 1, 0, 1, 0, 0]) :: ref_programs_L0) (ref_programs_S0 x0 x1 x2 x3 x4 x5) = (
    br (lti x0 x1)
     ((((0 : Int) ≤ x0) ∧ (x0 < (((len x2) : Nat) : Int))) ∧
      (((((len x4) + (len ((⟨(w64 (x3 + x0)), (some (nth x2 (Int.toNat x0) (Ty.dflt Ty.int)))⟩ : Change) :: []))) * 16) ≤ 140737488355328) ∧
      (rec ref_programs_L0 (ref_programs_S0 (w64 (x0 + (1 : Int))) x1 x2 x3 (cat x4 ((⟨(w64 (x3 + x0)), (some (nth x2 (Int.toNat x0) (Ty.dflt Ty.int)))⟩ : Change) :: [])) x5))))
     (K (.one (.own 0)) [.arr Ty.change x4])) := by kernel_rfl
theorem ref_programs_w0 (x0 : Int) (x1 : Int) (x2 : (List Int)) (x3 : Int) (x4 : (List Change)) (x5 : (List Change)) (m : Nat) (K : V → List Blk → Prop) : goO Γ_ref_programs tab fn_ref_programs 0 K (m + 1) ref_programs_L0 (ref_programs_S0 x0 x1 x2 x3 x4 x5) = segO Γ_ref_programs tab fn_ref_programs 0 K (goO Γ_ref_programs tab fn_ref_programs 0 K m) (.code (Code.sub (bodyOf fn_ref_programs) [1, 1, 0, 1, 0, 0]) :: ref_programs_L0) (ref_programs_S0 x0 x1 x2 x3 x4 x5) := rfl

theorem loop_ref_programs (at_ : Int) (l : List Int) (h0 : 0 ≤ at_) (h1 : at_ ≤ 1000) (h2 : l.length ≤ 1000) (K : V → List Blk → Prop) (hK : K (.one (.own 0)) [.arr .change (burnCh at_ l)]) : ∀ (d k : Nat), k + d = l.length →
    goO Γ_ref_programs tab fn_ref_programs 0 K (d + 1) ref_programs_L0 (ref_programs_S0 (k : Int) (((len l) : Nat) : Int) l at_ (burnCh at_ (l.take k)) [])
  | 0, k, hk => by
    rw [ref_programs_w0, ref_programs_vc0 _ _ _ _ _ _ _ _]
    rw [List.take_of_length_le (by omega)]
    exact lt_f (by simp only [len]; omega) hK
  | d + 1, k, hk => by
    rw [ref_programs_w0, ref_programs_vc0 _ _ _ _ _ _ _ _]
    refine lt_t (by simp only [len]; omega) ⟨⟨by omega, by simp only [len]; omega⟩, ?_, ?_⟩
    · simp only [len, burnCh_len, List.length_cons, List.length_nil, List.length_take]; omega
    · rw [w64_id (n := at_ + (k : Int)) (by omega) (by omega), w64_succ (by omega), toNat_nat]
      have := loop_ref_programs at_ l h0 h1 h2 K hK d (k + 1) (by omega)
      rw [take_step (by omega) (Ty.dflt Ty.int), burnCh_append] at this
      rw [show ((l.take k).length : Int) = (k : Int) by simp; omega] at this
      exact this
set_option maxHeartbeats 4000000 in
theorem run_ref_programs (at_ : Int) (l : List Int) (hp : 0 ≤ at_ ∧ at_ ≤ 1000 ∧ len l ≤ 1000) (K : V → List Blk → Prop) (hK : K (.one (.own 0)) [.arr .change (burnCh at_ l)]) : ∃ m, goO Γ_ref_programs tab fn_ref_programs 0 K m [.code (bodyOf fn_ref_programs)] (initSt [.one (.dat .int at_), .one (.dat (.list .int) l)] []) := by
  refine ⟨l.length + 2, ?_⟩
  rw [ref_programs_w, ref_programs_vc _ _ _ _]
  exact loop_ref_programs at_ l hp.1 hp.2.1 hp.2.2 K hK l.length 0 (by omega)
theorem sound_ref_programs : SoundC Try.prog tab n_ref_programs c_ref_programs := soundC_of ok_ref_programs hf_ref_programs hB_ref_programs (by
  intro vs bs p v bs' h hp
  unfold c_ref_programs at h
  split at h
  · cases h
    exact ⟨by kernel_rfl, rfl, .inr (run_ref_programs _ _ hp.1 _ ⟨rfl, rfl⟩)⟩
  · cases h)

def c_slices_Concat_Lref_change : Contract := fun vs bs => match vs, bs with
  | [.one (.dat (.list (.list .change)) xs)], [] => some (some (xs.length ≤ 10 ∧ (joinCh xs).length ≤ 1000), .one (.own 0), [.arr .change (joinCh xs)])
  | _, _ => none
def Γ_slices_Concat_Lref_change : Ctx := [(n_slices_Grow_Lref_change, c_slices_Grow_Lref_change)]
theorem ok_slices_Concat_Lref_change : Ok Try.prog tab Γ_slices_Concat_Lref_change := (ok_nil.consC hf_slices_Grow_Lref_change hB_slices_Grow_Lref_change sound_slices_Grow_Lref_change)
noncomputable def slices_Concat_Lref_change_L0 : List It := [.inLoop [11, 10, 9, 3, 2, 0] (Code.sub (bodyOf fn_slices_Concat_Lref_change) [1, 1, 0, 1, 0, 0]), .inBlock 0, .code (Code.sub (bodyOf fn_slices_Concat_Lref_change) [1, 1, 1])]
def slices_Concat_Lref_change_S0 (x0 : Int) (x1 : Int) (x2 : (List (List Change))) (x3 : Int) (x4 : (List (List Change))) (x5 : (List Change)) : St := ⟨[(11, .one (.dat Ty.int x0)), (10, .one (.dat Ty.int x1)), (9, .one (.dat (Ty.list (Ty.list Ty.change)) x2)), (3, .one (.dat Ty.int x3)), (2, .one (.own 0)), (0, .one (.dat (Ty.list (Ty.list Ty.change)) x4))], [(0, .arr Ty.change x5)], 1⟩
noncomputable def slices_Concat_Lref_change_L1 : List It := [.inLoop [27, 26, 25, 6, 2] (Code.sub (bodyOf fn_slices_Concat_Lref_change) [1, 1, 1, 1, 0, 1, 0, 0]), .inBlock 2, .code (Code.sub (bodyOf fn_slices_Concat_Lref_change) [1, 1, 1, 1, 1])]
def slices_Concat_Lref_change_S1 (x0 : Int) (x1 : Int) (x2 : (List (List Change))) (x3 : (List Change)) (x4 : (List Change)) : St := ⟨[(27, .one (.dat Ty.int x0)), (26, .one (.dat Ty.int x1)), (25, .one (.dat (Ty.list (Ty.list Ty.change)) x2)), (6, .one (.own 0)), (2, .one (.own 1))], [(0, .arr Ty.change x3), (1, .arr Ty.change x4)], 2⟩
theorem slices_Concat_Lref_change_vc (xs : List (List Change)) (rec : List It → St → Prop) (K : V → List Blk → Prop) : segO Γ_slices_Concat_Lref_change tab fn_slices_Concat_Lref_change 0 K rec [.code (bodyOf fn_slices_Concat_Lref_change)] (initSt [.one (.dat (Ty.list (Ty.list Ty.change)) xs)] []) = (
    rec slices_Concat_Lref_change_L0 (slices_Concat_Lref_change_S0 (0 : Int) (((len xs) : Nat) : Int) xs (0 : Int) xs [])) := by kernel_rfl
theorem slices_Concat_Lref_change_w (xs : List (List Change)) (m : Nat) (K : V → List Blk → Prop) : goO Γ_slices_Concat_Lref_change tab fn_slices_Concat_Lref_change 0 K (m + 1) [.code (bodyOf fn_slices_Concat_Lref_change)] (initSt [.one (.dat (Ty.list (Ty.list Ty.change)) xs)] []) = segO Γ_slices_Concat_Lref_change tab fn_slices_Concat_Lref_change 0 K (goO Γ_slices_Concat_Lref_change tab fn_slices_Concat_Lref_change 0 K m) [.code (bodyOf fn_slices_Concat_Lref_change)] (initSt [.one (.dat (Ty.list (Ty.list Ty.change)) xs)] []) := rfl
theorem slices_Concat_Lref_change_vc0 (x0 : Int) (x1 : Int) (x2 : (List (List Change))) (x3 : Int) (x4 : (List (List Change))) (x5 : (List Change)) (rec : List It → St → Prop) (K : V → List Blk → Prop) : segO Γ_slices_Concat_Lref_change tab fn_slices_Concat_Lref_change 0 K rec (.code (Code.sub (bodyOf fn_slices_Concat_Lref_change) [1, 1, 0, 1, 0, 0]) :: slices_Concat_Lref_change_L0) (slices_Concat_Lref_change_S0 x0 x1 x2 x3 x4 x5) = (
    br (lti x0 x1)
     ((((0 : Int) ≤ x0) ∧ (x0 < (((len x2) : Nat) : Int))) ∧
      (br (lti (w64 (x3 + (((len (nth x2 (Int.toNat x0) (Ty.dflt (Ty.list Ty.change)))) : Nat) : Int))) (0 : Int))
       (False)
       (rec slices_Concat_Lref_change_L0 (slices_Concat_Lref_change_S0 (w64 (x0 + (1 : Int))) x1 x2 (w64 (x3 + (((len (nth x2 (Int.toNat x0) (Ty.dflt (Ty.list Ty.change)))) : Nat) : Int))) x4 x5))))
     ((((0 : Int) ≤ x3) ∧ (x3 ≤ (100000 : Int))) ∧
      (rec slices_Concat_Lref_change_L1 (slices_Concat_Lref_change_S1 (0 : Int) (((len x4) : Nat) : Int) x4 [] x5)))) := by kernel_rfl
theorem slices_Concat_Lref_change_w0 (x0 : Int) (x1 : Int) (x2 : (List (List Change))) (x3 : Int) (x4 : (List (List Change))) (x5 : (List Change)) (m : Nat) (K : V → List Blk → Prop) : goO Γ_slices_Concat_Lref_change tab fn_slices_Concat_Lref_change 0 K (m + 1) slices_Concat_Lref_change_L0 (slices_Concat_Lref_change_S0 x0 x1 x2 x3 x4 x5) = segO Γ_slices_Concat_Lref_change tab fn_slices_Concat_Lref_change 0 K (goO Γ_slices_Concat_Lref_change tab fn_slices_Concat_Lref_change 0 K m) (.code (Code.sub (bodyOf fn_slices_Concat_Lref_change) [1, 1, 0, 1, 0, 0]) :: slices_Concat_Lref_change_L0) (slices_Concat_Lref_change_S0 x0 x1 x2 x3 x4 x5) := rfl
theorem slices_Concat_Lref_change_vc1 (x0 : Int) (x1 : Int) (x2 : (List (List Change))) (x3 : (List Change)) (x4 : (List Change)) (rec : List It → St → Prop) (K : V → List Blk → Prop) : segO Γ_slices_Concat_Lref_change tab fn_slices_Concat_Lref_change 0 K rec (.code (Code.sub (bodyOf fn_slices_Concat_Lref_change) [1, 1, 1, 1, 0, 1, 0, 0]) :: slices_Concat_Lref_change_L1) (slices_Concat_Lref_change_S1 x0 x1 x2 x3 x4) = (
    br (lti x0 x1)
     ((((0 : Int) ≤ x0) ∧ (x0 < (((len x2) : Nat) : Int))) ∧
      (((((len x3) + (len (nth x2 (Int.toNat x0) (Ty.dflt (Ty.list Ty.change))))) * 16) ≤ 140737488355328) ∧
      (rec slices_Concat_Lref_change_L1 (slices_Concat_Lref_change_S1 (w64 (x0 + (1 : Int))) x1 x2 (cat x3 (nth x2 (Int.toNat x0) (Ty.dflt (Ty.list Ty.change)))) x4))))
     (K (.one (.own 0)) [.arr Ty.change x3])) := by kernel_rfl
theorem slices_Concat_Lref_change_w1 (x0 : Int) (x1 : Int) (x2 : (List (List Change))) (x3 : (List Change)) (x4 : (List Change)) (m : Nat) (K : V → List Blk → Prop) : goO Γ_slices_Concat_Lref_change tab fn_slices_Concat_Lref_change 0 K (m + 1) slices_Concat_Lref_change_L1 (slices_Concat_Lref_change_S1 x0 x1 x2 x3 x4) = segO Γ_slices_Concat_Lref_change tab fn_slices_Concat_Lref_change 0 K (goO Γ_slices_Concat_Lref_change tab fn_slices_Concat_Lref_change 0 K m) (.code (Code.sub (bodyOf fn_slices_Concat_Lref_change) [1, 1, 1, 1, 0, 1, 0, 0]) :: slices_Concat_Lref_change_L1) (slices_Concat_Lref_change_S1 x0 x1 x2 x3 x4) := rfl

theorem joinCh_take {xs : List (List Change)} {k : Nat} (h : k < xs.length) : joinCh (xs.take (k + 1)) = joinCh (xs.take k) ++ nth xs k [] := by
  rw [take_step h []]
  have : ∀ (a : List (List Change)) (x : List Change), joinCh (a ++ [x]) = joinCh a ++ x := fun a x => by
    induction a with
    | nil => simp [joinCh]
    | cons y a ih => simp [joinCh, ih]
  exact this _ _
theorem joinCh_le (xs : List (List Change)) (k : Nat) : (joinCh (xs.take k)).length ≤ (joinCh xs).length := by
  induction xs generalizing k with
  | nil => simp
  | cons x xs ih =>
    cases k with
    | zero => simp [joinCh]
    | succ k => simp only [List.take_succ_cons, joinCh, List.length_append]; have := ih k; omega
theorem loop1_Concat (xs : List (List Change)) (h1 : xs.length ≤ 10) (h2 : (joinCh xs).length ≤ 1000) (K : V → List Blk → Prop) (hK : K (.one (.own 0)) [.arr .change (joinCh xs)]) (y : List Change) : ∀ (d k : Nat), k + d = xs.length →
    goO Γ_slices_Concat_Lref_change tab fn_slices_Concat_Lref_change 0 K (d + 1) slices_Concat_Lref_change_L1 (slices_Concat_Lref_change_S1 (k : Int) (((len xs) : Nat) : Int) xs (joinCh (xs.take k)) y)
  | 0, k, hk => by
    rw [slices_Concat_Lref_change_w1, slices_Concat_Lref_change_vc1 _ _ _ _ _ _ _, List.take_of_length_le (by omega)]
    exact lt_f (by simp only [len]; omega) hK
  | d + 1, k, hk => by
    rw [slices_Concat_Lref_change_w1, slices_Concat_Lref_change_vc1 _ _ _ _ _ _ _, toNat_nat]
    have hj := joinCh_take (xs := xs) (k := k) (by omega)
    have hl := joinCh_le xs (k + 1)
    have e : nth xs k (Ty.dflt (Ty.list Ty.change)) = nth xs k [] := rfl
    rw [e]
    rw [hj, List.length_append] at hl
    refine lt_t (by simp only [len]; omega) ⟨⟨by omega, by simp only [len]; omega⟩, by simp only [len]; omega, ?_⟩
    rw [w64_succ (by omega), show cat (joinCh (xs.take k)) (nth xs k []) = joinCh (xs.take (k + 1)) from hj.symm]
    exact loop1_Concat xs h1 h2 K hK y d (k + 1) (by omega)
theorem loop0_Concat (xs : List (List Change)) (h1 : xs.length ≤ 10) (h2 : (joinCh xs).length ≤ 1000) (K : V → List Blk → Prop) (hK : K (.one (.own 0)) [.arr .change (joinCh xs)]) : ∀ (d k : Nat), k + d = xs.length →
    goO Γ_slices_Concat_Lref_change tab fn_slices_Concat_Lref_change 0 K (d + 1 + (xs.length + 1)) slices_Concat_Lref_change_L0 (slices_Concat_Lref_change_S0 (k : Int) (((len xs) : Nat) : Int) xs (((joinCh (xs.take k)).length : Nat) : Int) xs [])
  | 0, k, hk => by
    rw [show 0 + 1 + (xs.length + 1) = (xs.length + 1) + 1 by omega, slices_Concat_Lref_change_w0, slices_Concat_Lref_change_vc0 _ _ _ _ _ _ _ _, List.take_of_length_le (by omega)]
    exact lt_f (by simp only [len]; omega) ⟨⟨by omega, by omega⟩, loop1_Concat xs h1 h2 K hK [] xs.length 0 (by omega)⟩
  | d + 1, k, hk => by
    rw [show d + 1 + 1 + (xs.length + 1) = (d + 1 + (xs.length + 1)) + 1 by omega, slices_Concat_Lref_change_w0, slices_Concat_Lref_change_vc0 _ _ _ _ _ _ _ _, toNat_nat]
    have hj := joinCh_take (xs := xs) (k := k) (by omega)
    have hl := joinCh_le xs (k + 1)
    have e : nth xs k (Ty.dflt (Ty.list Ty.change)) = nth xs k [] := rfl
    rw [e]
    have hj2 := congrArg List.length hj
    rw [List.length_append] at hj2
    rw [w64_succ (by omega), w64_id (n := (((joinCh (xs.take k)).length : Nat) : Int) + _) (by simp only [len]; omega) (by simp only [len]; omega)]
    refine lt_t (by simp only [len]; omega) ⟨⟨by omega, by simp only [len]; omega⟩, lt_f (by simp only [len]; omega) ?_⟩
    rw [show (((joinCh (xs.take k)).length : Nat) : Int) + (((len (nth xs k [])) : Nat) : Int) = (((joinCh (xs.take (k + 1))).length : Nat) : Int) by simp only [len]; omega]
    exact loop0_Concat xs h1 h2 K hK d (k + 1) (by omega)
set_option maxHeartbeats 4000000 in
theorem run_slices_Concat_Lref_change (xs : List (List Change)) (hp : xs.length ≤ 10 ∧ (joinCh xs).length ≤ 1000) (K : V → List Blk → Prop) (hK : K (.one (.own 0)) [.arr .change (joinCh xs)]) : ∃ m, goO Γ_slices_Concat_Lref_change tab fn_slices_Concat_Lref_change 0 K m [.code (bodyOf fn_slices_Concat_Lref_change)] (initSt [.one (.dat (.list (.list .change)) xs)] []) := by
  refine ⟨xs.length + 1 + (xs.length + 1) + 1, ?_⟩
  rw [slices_Concat_Lref_change_w, slices_Concat_Lref_change_vc _ _ _]
  exact loop0_Concat xs hp.1 hp.2 K hK xs.length 0 (by omega)
theorem sound_slices_Concat_Lref_change : SoundC Try.prog tab n_slices_Concat_Lref_change c_slices_Concat_Lref_change := soundC_of ok_slices_Concat_Lref_change hf_slices_Concat_Lref_change hB_slices_Concat_Lref_change (by
  intro vs bs p v bs' h hp
  unfold c_slices_Concat_Lref_change at h
  split at h
  · cases h
    exact ⟨by kernel_rfl, rfl, .inr (run_slices_Concat_Lref_change _ hp.1 _ ⟨rfl, rfl⟩)⟩
  · cases h)

def c_ref_Formatted : Contract := fun vs bs => match vs, bs with
  | [.agg [.dat (.list .int) ws, .dat .int fu]], [] => some (some (checkFlash ⟨ws, fu⟩ = 0), .tup [.agg [.dat (.list .int) (formatF ⟨ws, fu⟩).1.words, .dat .int (formatF ⟨ws, fu⟩).1.fuel], .one (.dat .int (formatF ⟨ws, fu⟩).2)], [])
  | _, _ => none
def Γ_ref_Formatted : Ctx := [(n_ref_Changed, c_ref_Changed), (n_ref_erases, c_ref_erases), (n_ref_programs, c_ref_programs), (n_slices_Concat_Lref_change, c_slices_Concat_Lref_change)]
theorem ok_ref_Formatted : Ok Try.prog tab Γ_ref_Formatted := ((((ok_nil.consC hf_slices_Concat_Lref_change hB_slices_Concat_Lref_change sound_slices_Concat_Lref_change).consC hf_ref_programs hB_ref_programs sound_ref_programs).consC hf_ref_erases hB_ref_erases sound_ref_erases).consC hf_ref_Changed hB_ref_Changed sound_ref_Changed)
theorem ref_Formatted_vc (ws : List Int) (fu : Int) (rec : List It → St → Prop) (K : V → List Blk → Prop) v0 (hv0 : v0 = (wipeCh (1 : Int))) v1 (hv1 : v1 = (wipeCh (0 : Int))) v2 (hv2 : v2 = (burnCh (0 : Int) ((1 : Int) :: []))) v3 (hv3 : v3 = (joinCh (v0 :: (v1 :: (v2 :: []))))) v4 (hv4 : v4 = (inPlaces (List.length ws) v3)) v5 (hv5 : v5 = (doCh (⟨ws, fu⟩ : Flash) v3)) v6 (hv6 : v6 = (powerE (v5).snd)) : segD Γ_ref_Formatted tab fn_ref_Formatted 0 K rec [.code (bodyOf fn_ref_Formatted)] (initSt [.agg [.dat (Ty.list Ty.int) ws, .dat Ty.int fu]] []) = (
    br (lti (((len ws) : Nat) : Int) (64 : Int))
     (K (.tup [.agg [.dat (Ty.list Ty.int) [], .dat Ty.int (0 : Int)], .one (.dat Ty.int (4 : Int))]) [])
     ((((0 : Int) ≤ (1 : Int)) ∧ ((1 : Int) ≤ (10 : Int))) ∧
      ((((0 : Int) ≤ (0 : Int)) ∧ ((0 : Int) ≤ (10 : Int))) ∧
      ((((0 : Int) ≤ (0 : Int)) ∧ (((0 : Int) ≤ (1000 : Int)) ∧ ((len ((1 : Int) :: [])) ≤ 1000))) ∧
      ((((List.length (v0 :: (v1 :: (v2 :: [])))) ≤ 10) ∧ ((List.length v3) ≤ 1000)) ∧
      ((((len ws) ≤ 192) ∧ (((-(1 : Int)) ≤ fu) ∧ ((fu ≤ (100000 : Int)) ∧ (((len v3) ≤ 1000) ∧ (v4 = true))))) ∧
      (K (.tup [.agg [.dat (Ty.list Ty.int) ((v5).fst).words, .dat Ty.int ((v5).fst).fuel], .one (.dat Ty.int v6)]) []))))))) := by subst hv6; subst hv5; subst hv4; subst hv3; subst hv2; subst hv1; subst hv0; kernel_rfl
theorem ref_Formatted_w (ws : List Int) (fu : Int) (m : Nat) (K : V → List Blk → Prop) : goD Γ_ref_Formatted tab fn_ref_Formatted 0 K (m + 1) [.code (bodyOf fn_ref_Formatted)] (initSt [.agg [.dat (Ty.list Ty.int) ws, .dat Ty.int fu]] []) = segD Γ_ref_Formatted tab fn_ref_Formatted 0 K (goD Γ_ref_Formatted tab fn_ref_Formatted 0 K m) [.code (bodyOf fn_ref_Formatted)] (initSt [.agg [.dat (Ty.list Ty.int) ws, .dat Ty.int fu]] []) := rfl

set_option maxHeartbeats 4000000 in
theorem run_ref_Formatted (ws : List Int) (fu : Int) (hp : checkFlash ⟨ws, fu⟩ = 0) (K : V → List Blk → Prop) (hK : K (.tup [.agg [.dat (.list .int) (formatF ⟨ws, fu⟩).1.words, .dat .int (formatF ⟨ws, fu⟩).1.fuel], .one (.dat .int (formatF ⟨ws, fu⟩).2)]) []) : ∃ m, goD Γ_ref_Formatted tab fn_ref_Formatted 0 K m [.code (bodyOf fn_ref_Formatted)] (initSt [.agg [.dat (.list .int) ws, .dat .int fu]] []) := by
  refine ⟨1, ?_⟩
  rw [ref_Formatted_w, ref_Formatted_vc _ _ _ _ _ rfl _ rfl _ rfl _ rfl _ rfl _ rfl _ rfl]
  unfold formatF at hK
  rw [if_pos hp] at hK
  obtain ⟨c1, c2, c3, c4⟩ := checkFlash_ok hp
  obtain ⟨c5, c6⟩ := okLen_le c1
  simp only at c2 c3 c5 c6
  refine lt_s (fun h2 => ?_) (fun h2 => ?_)
  · rw [if_neg (by simp only [len] at h2 ⊢; omega)] at hK; exact hK
  simp only [len] at h2
  rw [if_pos (by simp only; omega)] at hK
  have e : joinCh [wipeCh 1, wipeCh 0, burnCh 0 [1]] = formatCh := by simp [joinCh, formatCh]
  have el : formatCh.length = 65 := rfl
  rw [e]
  refine ⟨by omega, by omega, ⟨by omega, by omega, by decide⟩, ⟨by decide, by rw [el]; omega⟩, ⟨c6, c2, c3, by show formatCh.length ≤ 1000; rw [el]; omega, ?_⟩, hK⟩
  unfold formatCh inPlaces
  rw [List.all_append, List.all_append]
  have a1 := wipe_in ws.length 32 (32 * 1) (by omega) (by omega)
  have a2 := wipe_in ws.length 32 (32 * 0) (by omega) (by omega)
  have a3 := burn_in ws.length [1] 0 (by omega) (by simp only [List.length_cons, List.length_nil]; omega)
  unfold inPlaces at a1 a2 a3
  unfold wipeCh
  rw [a1, a2, a3]; rfl
theorem sound_ref_Formatted : SoundC Try.prog tab n_ref_Formatted c_ref_Formatted := soundC_of ok_ref_Formatted hf_ref_Formatted hB_ref_Formatted (by
  intro vs bs p v bs' h hp
  unfold c_ref_Formatted at h
  split at h
  · cases h
    exact ⟨by kernel_rfl, rfl, .inl (run_ref_Formatted _ _ hp.1 _ ⟨rfl, rfl⟩)⟩
  · cases h)

def c_ref_RecordsOf : Contract := fun vs bs => match vs, bs with
  | [.agg [.dat (.list .int) ws, .dat .int _]], [] => some (some (64 ≤ len ws ∧ len ws ≤ 192 ∧ okWords ws = true), .tup [.one (.dat (.list (.list .int)) (recsOf ws)), .one (.dat .int (nextI (liveS ws) (scanS ws (liveS ws)).2))], [])
  | _, _ => none
def Γ_ref_RecordsOf : Ctx := [(n_ref_counts, c_ref_counts)]
theorem ok_ref_RecordsOf : Ok Try.prog tab Γ_ref_RecordsOf := (ok_nil.consC hf_ref_counts hB_ref_counts sound_ref_counts)
noncomputable def ref_RecordsOf_L0 : List It := [.inLoop [8, 7, 6, 3, 2, 1] (Code.sub (bodyOf fn_ref_RecordsOf) [1, 1, 1, 1, 0, 0, 0]), .inBlock 0, .code (Code.sub (bodyOf fn_ref_RecordsOf) [1, 1, 1, 1, 1])]
def ref_RecordsOf_S0 (x0 : Int) (x1 : Int) (x2 : Int) (x3 : (List (List Int))) (x4 : (List (List Int))) (x5 : (List Int)) (x6 : Int) : St := ⟨[(8, .one (.dat Ty.int x0)), (7, .one (.dat Ty.int x1)), (6, .one (.own 0)), (3, .one (.dat Ty.int x2)), (2, .one (.own 1)), (1, .one (.ptr 2 0))], [(0, .arr (Ty.list Ty.int) x3), (1, .arr (Ty.list Ty.int) x4), (2, .box [.dat (Ty.list Ty.int) x5, .dat Ty.int x6])], 3⟩
noncomputable def ref_RecordsOf_L1 : List It := [.inLoop [84, 83, 82, 7, 6, 3, 2] (Code.sub (bodyOf fn_ref_RecordsOf) [1, 1, 1, 1, 1, 0, 1, 0, 0]), .inBlock 2, .code (Code.sub (bodyOf fn_ref_RecordsOf) [1, 1, 1, 1, 1, 1])]
def ref_RecordsOf_S1 (x0 : Int) (x1 : Int) (x2 : (List Int)) (x3 : Int) (x4 : Int) (x5 : (List (List Int))) (x6 : (List (List Int))) : St := ⟨[(84, .one (.dat Ty.int x0)), (83, .one (.dat Ty.int x1)), (82, .one (.dat (Ty.list Ty.int) x2)), (7, .one (.dat Ty.int x3)), (6, .one (.own 0)), (3, .one (.dat Ty.int x4)), (2, .one (.own 1))], [(0, .arr (Ty.list Ty.int) x5), (1, .arr (Ty.list Ty.int) x6)], 2⟩
theorem ref_RecordsOf_vc (ws : List Int) (fu : Int) (rec : List It → St → Prop) (K : V → List Blk → Prop) v0 (hv0 : v0 = (liveS ws)) : segD Γ_ref_RecordsOf tab fn_ref_RecordsOf 0 K rec [.code (bodyOf fn_ref_RecordsOf)] (initSt [.agg [.dat (Ty.list Ty.int) ws, .dat Ty.int fu]] []) = (
    (64 ≤ (len ws)) ∧
    (rec ref_RecordsOf_L0 (ref_RecordsOf_S0 (w64 ((w64 ((32 : Int) * ((v0 : Nat) : Int))) + (32 : Int))) (w64 ((w64 ((32 : Int) * ((v0 : Nat) : Int))) + (1 : Int))) (0 : Int) [] [] ws fu))) := by subst hv0; kernel_rfl
theorem ref_RecordsOf_w (ws : List Int) (fu : Int) (m : Nat) (K : V → List Blk → Prop) : goD Γ_ref_RecordsOf tab fn_ref_RecordsOf 0 K (m + 1) [.code (bodyOf fn_ref_RecordsOf)] (initSt [.agg [.dat (Ty.list Ty.int) ws, .dat Ty.int fu]] []) = segD Γ_ref_RecordsOf tab fn_ref_RecordsOf 0 K (goD Γ_ref_RecordsOf tab fn_ref_RecordsOf 0 K m) [.code (bodyOf fn_ref_RecordsOf)] (initSt [.agg [.dat (Ty.list Ty.int) ws, .dat Ty.int fu]] []) := rfl
theorem ref_RecordsOf_vc0 (x0 : Int) (x1 : Int) (x2 : Int) (x3 : (List (List Int))) (x4 : (List (List Int))) (x5 : (List Int)) (x6 : Int) (rec : List It → St → Prop) (K : V → List Blk → Prop) : segD Γ_ref_RecordsOf tab fn_ref_RecordsOf 0 K rec (.code (Code.sub (bodyOf fn_ref_RecordsOf) [1, 1, 1, 1, 0, 0, 0]) :: ref_RecordsOf_L0) (ref_RecordsOf_S0 x0 x1 x2 x3 x4 x5 x6) = (
    br (lti x1 x0)
     ((((0 : Int) ≤ x1) ∧ (x1 < (((len x5) : Nat) : Int))) ∧
      (br (lei (42241 : Int) (nth x5 (Int.toNat x1) (Ty.dflt Ty.int)))
       ((((0 : Int) ≤ x1) ∧ (x1 < (((len x5) : Nat) : Int))) ∧
        (br (lei (nth x5 (Int.toNat x1) (Ty.dflt Ty.int)) (42244 : Int))
         ((((0 : Int) ≤ x1) ∧ (x1 < (((len x5) : Nat) : Int))) ∧
          (br (lti (w64 ((w64 (x1 + (nth x5 (Int.toNat x1) (Ty.dflt Ty.int)))) - (42240 : Int))) x0)
           ((((0 : Int) ≤ x1) ∧ (x1 < (((len x5) : Nat) : Int))) ∧
            ((((0 : Int) ≤ (w64 (x1 + (1 : Int)))) ∧ (((w64 (x1 + (1 : Int))) ≤ (w64 ((w64 (x1 + (1 : Int))) + (w64 ((nth x5 (Int.toNat x1) (Ty.dflt Ty.int)) - (42240 : Int)))))) ∧ ((w64 ((w64 (x1 + (1 : Int))) + (w64 ((nth x5 (Int.toNat x1) (Ty.dflt Ty.int)) - (42240 : Int))))) ≤ (((len x5) : Nat) : Int)))) ∧
            ((((0 + (len (slc x5 (Int.toNat (w64 (x1 + (1 : Int)))) (Int.toNat (w64 ((w64 (x1 + (1 : Int))) + (w64 ((nth x5 (Int.toNat x1) (Ty.dflt Ty.int)) - (42240 : Int))))))))) * 8) ≤ 140737488355328) ∧
            (((((len x3) + (len ((cat [] (slc x5 (Int.toNat (w64 (x1 + (1 : Int)))) (Int.toNat (w64 ((w64 (x1 + (1 : Int))) + (w64 ((nth x5 (Int.toNat x1) (Ty.dflt Ty.int)) - (42240 : Int)))))))) :: []))) * 24) ≤ 140737488355328) ∧
            (rec ref_RecordsOf_L0 (ref_RecordsOf_S0 x0 (w64 (x1 + (w64 ((1 : Int) + (w64 ((nth x5 (Int.toNat x1) (Ty.dflt Ty.int)) - (42240 : Int))))))) x2 (cat x3 ((cat [] (slc x5 (Int.toNat (w64 (x1 + (1 : Int)))) (Int.toNat (w64 ((w64 (x1 + (1 : Int))) + (w64 ((nth x5 (Int.toNat x1) (Ty.dflt Ty.int)) - (42240 : Int)))))))) :: [])) x4 x5 x6))))))
           ((((0 : Int) ≤ x1) ∧ ((x1 ≤ x0) ∧ (x0 ≤ (((len x5) : Nat) : Int)))) ∧
            (rec ref_RecordsOf_L1 (ref_RecordsOf_S1 (0 : Int) (((len (slc x5 (Int.toNat x1) (Int.toNat x0))) : Nat) : Int) (slc x5 (Int.toNat x1) (Int.toNat x0)) x1 x2 x3 x4)))))
         ((((0 : Int) ≤ x1) ∧ ((x1 ≤ x0) ∧ (x0 ≤ (((len x5) : Nat) : Int)))) ∧
          (rec ref_RecordsOf_L1 (ref_RecordsOf_S1 (0 : Int) (((len (slc x5 (Int.toNat x1) (Int.toNat x0))) : Nat) : Int) (slc x5 (Int.toNat x1) (Int.toNat x0)) x1 x2 x3 x4)))))
       ((((0 : Int) ≤ x1) ∧ ((x1 ≤ x0) ∧ (x0 ≤ (((len x5) : Nat) : Int)))) ∧
        (rec ref_RecordsOf_L1 (ref_RecordsOf_S1 (0 : Int) (((len (slc x5 (Int.toNat x1) (Int.toNat x0))) : Nat) : Int) (slc x5 (Int.toNat x1) (Int.toNat x0)) x1 x2 x3 x4)))))
     ((((0 : Int) ≤ x1) ∧ ((x1 ≤ x0) ∧ (x0 ≤ (((len x5) : Nat) : Int)))) ∧
      (rec ref_RecordsOf_L1 (ref_RecordsOf_S1 (0 : Int) (((len (slc x5 (Int.toNat x1) (Int.toNat x0))) : Nat) : Int) (slc x5 (Int.toNat x1) (Int.toNat x0)) x1 x2 x3 x4)))) := by kernel_rfl
theorem ref_RecordsOf_w0 (x0 : Int) (x1 : Int) (x2 : Int) (x3 : (List (List Int))) (x4 : (List (List Int))) (x5 : (List Int)) (x6 : Int) (m : Nat) (K : V → List Blk → Prop) : goD Γ_ref_RecordsOf tab fn_ref_RecordsOf 0 K (m + 1) ref_RecordsOf_L0 (ref_RecordsOf_S0 x0 x1 x2 x3 x4 x5 x6) = segD Γ_ref_RecordsOf tab fn_ref_RecordsOf 0 K (goD Γ_ref_RecordsOf tab fn_ref_RecordsOf 0 K m) (.code (Code.sub (bodyOf fn_ref_RecordsOf) [1, 1, 1, 1, 0, 0, 0]) :: ref_RecordsOf_L0) (ref_RecordsOf_S0 x0 x1 x2 x3 x4 x5 x6) := rfl
theorem ref_RecordsOf_vc1 (x0 : Int) (x1 : Int) (x2 : (List Int)) (x3 : Int) (x4 : Int) (x5 : (List (List Int))) (x6 : (List (List Int))) (rec : List It → St → Prop) (K : V → List Blk → Prop) : segD Γ_ref_RecordsOf tab fn_ref_RecordsOf 0 K rec (.code (Code.sub (bodyOf fn_ref_RecordsOf) [1, 1, 1, 1, 1, 0, 1, 0, 0]) :: ref_RecordsOf_L1) (ref_RecordsOf_S1 x0 x1 x2 x3 x4 x5 x6) = (
    br (lti x0 x1)
     ((((0 : Int) ≤ x0) ∧ (x0 < (((len x2) : Nat) : Int))) ∧
      (br (!(eqi (nth x2 (Int.toNat x0) (Ty.dflt Ty.int)) (65535 : Int)))
       (K (.tup [.one (.dat (Ty.list (Ty.list Ty.int)) x5), .one (.dat Ty.int (-(1 : Int)))]) [])
       (rec ref_RecordsOf_L1 (ref_RecordsOf_S1 (w64 (x0 + (1 : Int))) x1 x2 x3 x4 x5 x6))))
     (K (.tup [.one (.dat (Ty.list (Ty.list Ty.int)) x5), .one (.dat Ty.int x3)]) [])) := by kernel_rfl
theorem ref_RecordsOf_w1 (x0 : Int) (x1 : Int) (x2 : (List Int)) (x3 : Int) (x4 : Int) (x5 : (List (List Int))) (x6 : (List (List Int))) (m : Nat) (K : V → List Blk → Prop) : goD Γ_ref_RecordsOf tab fn_ref_RecordsOf 0 K (m + 1) ref_RecordsOf_L1 (ref_RecordsOf_S1 x0 x1 x2 x3 x4 x5 x6) = segD Γ_ref_RecordsOf tab fn_ref_RecordsOf 0 K (goD Γ_ref_RecordsOf tab fn_ref_RecordsOf 0 K m) (.code (Code.sub (bodyOf fn_ref_RecordsOf) [1, 1, 1, 1, 1, 0, 1, 0, 0]) :: ref_RecordsOf_L1) (ref_RecordsOf_S1 x0 x1 x2 x3 x4 x5 x6) := rfl

theorem clean_ref_RecordsOf (x3 x4 : Int) (x5 x6 : List (List Int)) (K : V → List Blk → Prop) (t : List Int) (ht : t.length ≤ 32)
    (hK : K (.tup [.one (.dat (.list (.list .int)) x5), .one (.dat .int (if allClean t then x3 else -1))]) []) : ∀ (d k : Nat), t.length ≤ k + d → k ≤ t.length → allClean (t.take k) = true →
    goD Γ_ref_RecordsOf tab fn_ref_RecordsOf 0 K (d + 1) ref_RecordsOf_L1 (ref_RecordsOf_S1 (k : Int) (((len t) : Nat) : Int) t x3 x4 x5 x6)
  | 0, k, hk, hk2, he => by
    rw [ref_RecordsOf_w1, ref_RecordsOf_vc1 _ _ _ _ _ _ _ _ _]
    rw [List.take_of_length_le (by omega)] at he
    rw [if_pos he] at hK
    exact lt_f (by simp only [len]; omega) hK
  | d + 1, k, hk, hk2, he => by
    rw [ref_RecordsOf_w1, ref_RecordsOf_vc1 _ _ _ _ _ _ _ _ _, toNat_nat]
    by_cases c : k = t.length
    · rw [List.take_of_length_le (by omega)] at he
      rw [if_pos he] at hK
      exact lt_f (by simp only [len]; omega) hK
    refine lt_t (by simp only [len]; omega) ⟨⟨by omega, by simp only [len]; omega⟩, ne_s (fun hne => ?_) (fun heq => ?_)⟩
    · rw [if_neg (by rw [show allClean t = false from all_false (k := k) (by omega) (Ty.dflt Ty.int) (by simpa using hne)]; simp)] at hK
      exact hK
    · rw [w64_succ (by omega)]
      exact clean_ref_RecordsOf x3 x4 x5 x6 K t ht hK d (k + 1) (by omega) (by omega) (all_take_step (by omega) (Ty.dflt Ty.int) he (by simpa using heq))
theorem exit_ref_RecordsOf (ws : List Int) (sec : Nat) (hsec : sec ≤ 1) (hl : 32 * sec + 32 ≤ ws.length) (K : V → List Blk → Prop) (k : Nat) (hk : k ≤ 31) (acc : List (List Int)) (x2 : Int) (x4 : List (List Int)) (M : Nat)
    (hK : K (.tup [.one (.dat (.list (.list .int)) acc), .one (.dat .int (if allClean ((tailS ws sec).drop k) then 32 * (sec : Int) + 1 + k else -1))]) []) :
    goD Γ_ref_RecordsOf tab fn_ref_RecordsOf 0 K (M + 33) ref_RecordsOf_L1 (ref_RecordsOf_S1 (0 : Int) (((len (slc ws (32 * sec + 1 + k) (32 * sec + 32))) : Nat) : Int) (slc ws (32 * sec + 1 + k) (32 * sec + 32)) (((32 * sec + 1 + k : Nat) : Int)) x2 acc x4) := by
  have e : slc ws (32 * sec + 1 + k) (32 * sec + 32) = (tailS ws sec).drop k := by
    unfold tailS sectorW slc
    rw [List.drop_drop, List.drop_drop]; congr 1; omega
  rw [e]
  have ll : ((tailS ws sec).drop k).length ≤ 32 := by rw [List.length_drop, tailS_len hl]; omega
  refine clean_ref_RecordsOf _ _ _ _ K _ ll ?_ (M + 32) 0 (by omega) (by omega) rfl
  rw [show ((32 * sec + 1 + k : Nat) : Int) = 32 * (sec : Int) + 1 + k by omega]
  exact hK
theorem loop_ref_RecordsOf (ws : List Int) (fu : Int) (sec : Nat) (hsec : sec ≤ 1) (hl : 32 * sec + 32 ≤ ws.length) (hok : okWords ws = true) (x2 : Int) (x4 : List (List Int)) (K : V → List Blk → Prop) : ∀ (m k : Nat) (acc : List (List Int)), k ≤ 31 → 31 ≤ m + k → acc.length ≤ k →
    K (.tup [.one (.dat (.list (.list .int)) (acc ++ (scanL m ((tailS ws sec).drop k)).1)), .one (.dat .int (match (scanL m ((tailS ws sec).drop k)).2 with | some n => 32 * (sec : Int) + 1 + k + n | none => -1))]) [] →
    goD Γ_ref_RecordsOf tab fn_ref_RecordsOf 0 K (m + 34) ref_RecordsOf_L0 (ref_RecordsOf_S0 (((32 * sec + 32 : Nat) : Int)) (((32 * sec + 1 + k : Nat) : Int)) x2 acc x4 ws fu)
  | 0, k, acc, hk, hm, ha, hK => by
    have : k = 31 := by omega
    subst this
    rw [show 0 + 34 = 33 + 1 by omega, ref_RecordsOf_w0, ref_RecordsOf_vc0 _ _ _ _ _ _ _ _ _, toNat_nat]; try rw [toNat_nat]
    simp only [scanL, List.append_nil] at hK
    refine lt_f (by omega) ⟨⟨by omega, by omega, by simp only [len]; omega⟩, exit_ref_RecordsOf ws sec hsec hl K 31 (by omega) acc x2 x4 0 ?_⟩
    rw [List.drop_of_length_le (by rw [tailS_len hl]; omega)]
    simpa [allClean] using hK
  | m + 1, k, acc, hk, hm, ha, hK => by
    rw [show m + 1 + 34 = (m + 34) + 1 by omega, ref_RecordsOf_w0, ref_RecordsOf_vc0 _ _ _ _ _ _ _ _ _, toNat_nat]; try rw [toNat_nat]
    by_cases c : k = 31
    · subst c
      rw [List.drop_of_length_le (by rw [tailS_len hl]; omega)] at hK
      simp only [scanL, List.append_nil] at hK
      refine lt_f (by omega) ⟨⟨by omega, by omega, by simp only [len]; omega⟩, exit_ref_RecordsOf ws sec hsec hl K 31 (by omega) acc x2 x4 (m + 1) ?_⟩
      rw [List.drop_of_length_le (by rw [tailS_len hl]; omega)]
      simpa [allClean] using hK
    have tl := tailS_len hl
    have hdr := drop_step (l := tailS ws sec) (k := k) (by omega) (Ty.dflt Ty.int)
    have hnx : nth (tailS ws sec) k (Ty.dflt Ty.int) = nth ws (32 * sec + 1 + k) (Ty.dflt Ty.int) := tailS_getD ws sec k (by omega)
    rw [hnx] at hdr
    rw [hdr] at hK
    obtain ⟨x, hx⟩ : ∃ x, nth ws (32 * sec + 1 + k) (Ty.dflt Ty.int) = x := ⟨_, rfl⟩
    have hxo := getD_ok hok (32 * sec + 1 + k)
    have hxe : ws.getD (32 * sec + 1 + k) 0 = x := hx
    rw [hxe] at hxo
    rw [hx] at hK hdr ⊢
    simp only [scanL] at hK
    have out : headN x = 0 ∨ ¬ headN x ≤ ((tailS ws sec).drop (k + 1)).length → (((0 : Int) ≤ ((32 * sec + 1 + k : Nat) : Int)) ∧ ((((32 * sec + 1 + k : Nat) : Int) ≤ ((32 * sec + 32 : Nat) : Int)) ∧ (((32 * sec + 32 : Nat) : Int) ≤ (((len ws) : Nat) : Int)))) ∧
        goD Γ_ref_RecordsOf tab fn_ref_RecordsOf 0 K (m + 34) ref_RecordsOf_L1 (ref_RecordsOf_S1 (0 : Int) (((len (slc ws (32 * sec + 1 + k) (32 * sec + 32))) : Nat) : Int) (slc ws (32 * sec + 1 + k) (32 * sec + 32)) (((32 * sec + 1 + k : Nat) : Int)) x2 acc x4) := fun hh => by
      refine ⟨⟨by omega, by omega, by simp only [len]; omega⟩, exit_ref_RecordsOf ws sec hsec hl K k hk acc x2 x4 (m + 1) ?_⟩
      rw [hdr]
      by_cases c2 : x = 65535
      · rw [if_pos c2] at hK
        have e : allClean (x :: (tailS ws sec).drop (k + 1)) = allClean ((tailS ws sec).drop (k + 1)) := by simp [allClean, c2]
        rw [e]
        cases hc : allClean ((tailS ws sec).drop (k + 1))
        · simpa [hc] using hK
        · simpa [hc] using hK
      · rw [if_neg c2] at hK
        have e : allClean (x :: (tailS ws sec).drop (k + 1)) = false := by simp [allClean, c2]
        rw [e]
        by_cases c3 : headN x = 0
        · rw [if_pos c3] at hK; simpa using hK
        · rw [if_neg c3, if_neg (hh.resolve_left c3)] at hK; simpa using hK
    have rng : ((0 : Int) ≤ ((32 * sec + 1 + k : Nat) : Int)) ∧ (((32 * sec + 1 + k : Nat) : Int) < (((len ws) : Nat) : Int)) := ⟨by omega, by simp only [len]; omega⟩
    refine lt_t (by omega) ⟨rng, br_split (fun g1 => ⟨rng, br_split (fun g2 => ⟨rng, ?_⟩) (fun g2 => ?_)⟩) (fun g1 => ?_)⟩
    case refine_2 => exact out (.inl (by rw [lei_false] at g2; unfold headN; rw [if_neg (by omega)]))
    case refine_3 => exact out (.inl (by rw [lei_false] at g1; unfold headN; rw [if_neg (by omega)]))
    rw [lei_true] at g1 g2
    obtain ⟨n, hn⟩ : ∃ n, headN x = n := ⟨_, rfl⟩
    have hxn : x = 42240 + (n : Int) ∧ 1 ≤ n ∧ n ≤ 4 := by unfold headN at hn; rw [if_pos ⟨g1, g2⟩] at hn; omega
    obtain ⟨hxn, n1, n4⟩ := hxn
    have ld : ((tailS ws sec).drop (k + 1)).length = 30 - k := by rw [List.length_drop, tl]; omega
    rw [w64_id (n := ((32 * sec + 1 + k : Nat) : Int) + x) (by omega) (by omega), w64_id (n := ((32 * sec + 1 + k : Nat) : Int) + x - 42240) (by omega) (by omega)]
    refine lt_s (fun g3 => ?_) (fun g3 => out (.inr (by rw [ld, hn]; omega)))
    rw [hn] at hK
    rw [if_neg (by omega), if_neg (by omega), if_pos (by rw [ld]; omega)] at hK
    rw [w64_id (n := x - 42240) (by omega) (by omega), show x - 42240 = (n : Int) by omega, w64_id (n := ((32 * sec + 1 + k : Nat) : Int) + 1) (by omega) (by omega), w64_id (n := ((32 * sec + 1 + k : Nat) : Int) + 1 + (n : Int)) (by omega) (by omega), w64_id (n := (1 : Int) + (n : Int)) (by omega) (by omega), w64_id (n := ((32 * sec + 1 + k : Nat) : Int) + (1 + (n : Int))) (by omega) (by omega)]
    rw [show Int.toNat (((32 * sec + 1 + k : Nat) : Int) + 1) = 32 * sec + 1 + (k + 1) by omega, show Int.toNat (((32 * sec + 1 + k : Nat) : Int) + 1 + (n : Int)) = 32 * sec + 1 + (k + 1) + n by omega, show ((32 * sec + 1 + k : Nat) : Int) + (1 + (n : Int)) = ((32 * sec + 1 + (k + 1 + n) : Nat) : Int) by omega]
    have es : slc ws (32 * sec + 1 + (k + 1)) (32 * sec + 1 + (k + 1) + n) = ((tailS ws sec).drop (k + 1)).take n := by
      refine ext_getD (by rw [slc_len _ _ _ (by omega), List.length_take, ld]; omega) fun i hi => ?_
      rw [slc_len _ _ _ (by omega)] at hi
      rw [slc_getD _ _ _ _ (by omega)]
      have e2 : ∀ l : List Int, (l.take n).getD i 0 = l.getD i 0 := fun l => by simp only [List.getD_eq_getElem?_getD]; rw [List.getElem?_take_of_lt hi]
      rw [e2, drop_getD, tailS_getD _ _ _ (by omega), show 32 * sec + 1 + (k + 1 + i) = 32 * sec + 1 + (k + 1) + i by omega]
    rw [es]
    have ec : cat ([] : List Int) (((tailS ws sec).drop (k + 1)).take n) = ((tailS ws sec).drop (k + 1)).take n := rfl
    rw [ec]
    refine ⟨rng, ⟨by omega, by omega, by simp only [len]; omega⟩, by simp only [len, List.length_take]; omega, by simp only [len, List.length_cons, List.length_nil]; omega, ?_⟩
    refine loop_ref_RecordsOf ws fu sec hsec hl hok x2 x4 K m (k + 1 + n) _ (by omega) (by omega) (by simp only [cat, List.length_append, List.length_cons, List.length_nil]; omega) ?_
    rw [List.drop_drop] at hK
    have hK' := hK
    simp only [cat, List.append_assoc, List.cons_append, List.nil_append] at hK' ⊢
    cases hsc : (scanL m ((tailS ws sec).drop (k + 1 + n))).2 with
    | none => simpa [hsc] using hK'
    | some p =>
      simp only [hsc, Option.map] at hK'
      rw [show 32 * (sec : Int) + 1 + (k : Int) + ((p + n + 1 : Nat) : Int) = 32 * (sec : Int) + 1 + ((k + 1 + n : Nat) : Int) + (p : Int) by omega] at hK'
      exact hK'
set_option maxHeartbeats 4000000 in
theorem run_ref_RecordsOf (ws : List Int) (fu : Int) (hp : 64 ≤ len ws ∧ len ws ≤ 192 ∧ okWords ws = true) (K : V → List Blk → Prop) (hK : K (.tup [.one (.dat (.list (.list .int)) (recsOf ws)), .one (.dat .int (nextI (liveS ws) (scanS ws (liveS ws)).2))]) []) : ∃ m, goD Γ_ref_RecordsOf tab fn_ref_RecordsOf 0 K m [.code (bodyOf fn_ref_RecordsOf)] (initSt [.agg [.dat (.list .int) ws, .dat .int fu]] []) := by
  obtain ⟨h1, h2, hok⟩ := hp
  have hs := liveS_le ws
  refine ⟨32 + 34 + 1, ?_⟩
  rw [ref_RecordsOf_w, ref_RecordsOf_vc _ _ _ _ _ rfl]
  unfold recsOf at hK
  obtain ⟨s, hss⟩ : ∃ s, liveS ws = s := ⟨_, rfl⟩
  rw [hss] at hK hs ⊢
  simp only [len] at h1 h2
  rw [w64_id (n := 32 * (s : Int)) (by omega) (by omega), w64_id (n := 32 * (s : Int) + 32) (by omega) (by omega), w64_id (n := 32 * (s : Int) + 1) (by omega) (by omega)]
  refine ⟨h1, ?_⟩
  rw [show 32 * (s : Int) + 32 = ((32 * s + 32 : Nat) : Int) by omega, show 32 * (s : Int) + 1 = ((32 * s + 1 + 0 : Nat) : Int) by omega]
  refine loop_ref_RecordsOf ws fu s hs (by omega) hok 0 [] K 32 0 [] (by omega) (by omega) (by simp) ?_
  rw [List.nil_append, List.drop_zero]
  rw [tailS_nonempty (by omega)] at hK
  cases hsc : (scanL 32 (tailS ws s)).2 with
  | none =>
    simp only [hsc, nextI] at hK
    exact hK
  | some p =>
    simp only [hsc, nextI] at hK
    simpa using hK
theorem sound_ref_RecordsOf : SoundC Try.prog tab n_ref_RecordsOf c_ref_RecordsOf := soundC_of ok_ref_RecordsOf hf_ref_RecordsOf hB_ref_RecordsOf (by
  intro vs bs p v bs' h hp
  unfold c_ref_RecordsOf at h
  split at h
  · cases h
    exact ⟨by kernel_rfl, rfl, .inl (run_ref_RecordsOf _ _ hp.1 _ ⟨rfl, rfl⟩)⟩
  · cases h)

def c_ref_checkRecord : Contract := fun vs bs => match vs, bs with
  | [.one (.dat (.list .int) l)], [] => some (some (Sm l), .one (.dat .int (checkRec l)), [])
  | _, _ => none
def Γ_ref_checkRecord : Ctx := [(n_ref_allWords, c_ref_allWords)]
theorem ok_ref_checkRecord : Ok Try.prog tab Γ_ref_checkRecord := (ok_nil.consC hf_ref_allWords hB_ref_allWords sound_ref_allWords)
theorem ref_checkRecord_vc (l : List Int) (rec : List It → St → Prop) (K : V → List Blk → Prop) v0 (hv0 : v0 = (okWords l)) : segD Γ_ref_checkRecord tab fn_ref_checkRecord 0 K rec [.code (bodyOf fn_ref_checkRecord)] (initSt [.one (.dat (Ty.list Ty.int) l)] []) = (
    br (lti (((len l) : Nat) : Int) (1 : Int))
     (K (.one (.dat Ty.int (2 : Int))) [])
     (br (lti (4 : Int) (((len l) : Nat) : Int))
       (K (.one (.dat Ty.int (2 : Int))) [])
       (((List.length l) ≤ 140737488355328) ∧
        (br (!v0)
         (K (.one (.dat Ty.int (3 : Int))) [])
         (K (.one (.dat Ty.int (0 : Int))) []))))) := by subst hv0; kernel_rfl
theorem ref_checkRecord_w (l : List Int) (m : Nat) (K : V → List Blk → Prop) : goD Γ_ref_checkRecord tab fn_ref_checkRecord 0 K (m + 1) [.code (bodyOf fn_ref_checkRecord)] (initSt [.one (.dat (Ty.list Ty.int) l)] []) = segD Γ_ref_checkRecord tab fn_ref_checkRecord 0 K (goD Γ_ref_checkRecord tab fn_ref_checkRecord 0 K m) [.code (bodyOf fn_ref_checkRecord)] (initSt [.one (.dat (Ty.list Ty.int) l)] []) := rfl

set_option maxHeartbeats 4000000 in
theorem run_ref_checkRecord (l : List Int) (hp : Sm l) (K : V → List Blk → Prop) (hK : K (.one (.dat .int (checkRec l))) []) : ∃ m, goD Γ_ref_checkRecord tab fn_ref_checkRecord 0 K m [.code (bodyOf fn_ref_checkRecord)] (initSt [.one (.dat (.list .int) l)] []) := by
  refine ⟨1, ?_⟩
  rw [ref_checkRecord_w, ref_checkRecord_vc _ _ _ _ rfl]
  unfold checkRec at hK
  refine lt_s (fun h => ?_) (fun h => lt_s (fun h2 => ?_) (fun h2 => ⟨hp, nt_s (fun h3 => ?_) (fun h3 => ?_)⟩))
  · rw [if_neg (by simp only [len] at h; omega)] at hK; exact hK
  · rw [if_neg (by simp only [len] at h2; omega)] at hK; exact hK
  · rw [if_pos (by simp only [len] at h h2; omega), if_neg (by rw [h3]; simp)] at hK; exact hK
  · rw [if_pos (by simp only [len] at h h2; omega), if_pos h3] at hK; exact hK
theorem sound_ref_checkRecord : SoundC Try.prog tab n_ref_checkRecord c_ref_checkRecord := soundC_of ok_ref_checkRecord hf_ref_checkRecord hB_ref_checkRecord (by
  intro vs bs p v bs' h hp
  unfold c_ref_checkRecord at h
  split at h
  · cases h
    exact ⟨by kernel_rfl, rfl, .inl (run_ref_checkRecord _ hp.1 _ ⟨rfl, rfl⟩)⟩
  · cases h)
end Go.Proofs.Ytlbppjmekiemiab
