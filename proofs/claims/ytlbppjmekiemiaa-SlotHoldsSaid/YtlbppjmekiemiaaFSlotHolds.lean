/- What the functions of SlotHolds compute (part 1 of 1). No condition. -/
import Derived.Test.YtlbppjmekiemiaaTab
import Derived.Test.YtlbppjmekiemiaaSpec
import Derived.KernelRfl
import Derived.WalkKit
import Derived.Lib.Mul64
import Derived.Laws.Bits64b
/- math/bits.Mul: the whole product. Both factors are of 64 bits. -/
namespace Go.Proofs.Ytlbppjmekiemiaa
open Go.RowKit Go.Lib Vm
namespace Mul64
theorem maskN (a : Nat) (ha : a < 18446744073709551616) : bits .and .u64 (a : Int) 4294967295 = ((a % 4294967296 : Nat) : Int) := by
  have h := bits_and_u64_nat a 4294967295 ha (by omega)
  have e : a &&& 4294967295 = a % 4294967296 := Nat.and_two_pow_sub_one_eq_mod a 32
  rw [e] at h
  exact h
theorem divN (a : Nat) : (a : Int) / 4294967296 = ((a / 4294967296 : Nat) : Int) := by omega
theorem mulN (a b : Nat) : (a : Int) * (b : Int) = ((a * b : Nat) : Int) := (Int.natCast_mul a b).symm
theorem addN (a b : Nat) : (a : Int) + (b : Int) = ((a + b : Nat) : Int) := (Int.natCast_add a b).symm
theorem wrapN (a : Nat) (ha : a < 18446744073709551616) : IntKind.u64.wrap (a : Int) = (a : Int) := by rw [IntKind.wrap_u64]; omega
theorem wrapM (a : Nat) : IntKind.u64.wrap (a : Int) = ((a % 18446744073709551616 : Nat) : Int) := by rw [IntKind.wrap_u64]; omega
end Mul64
set_option maxHeartbeats 1000000 in
theorem mul64_any (x y : Nat) (hx : x < 18446744073709551616) (hy : y < 18446744073709551616) (w : World) :
    Calls Try.prog 72 #[.int .u64 x, .int .u64 y] w fun e w' => e = .returned (.tuple #[.int .u64 ((x * y / 18446744073709551616 : Nat) : Int), .int .u64 ((x * y % 18446744073709551616 : Nat) : Int)]) ∧ w' = w := by
  obtain ⟨bd, bt, bw, hhi⟩ := Lib.mul64_hi x y hx hy
  have ba := Lib.half_mul_le (a := x / 4294967296) (b := y / 4294967296) (by omega) (by omega)
  have bb := Lib.half_mul_le (a := x / 4294967296) (b := y % 4294967296) (by omega) (by omega)
  have bc := Lib.half_mul_le (a := x % 4294967296) (b := y / 4294967296) (by omega) (by omega)
  have ba' : x / 4294967296 * (y / 4294967296) < 18446744073709551616 := by omega
  have bb' : x / 4294967296 * (y % 4294967296) < 18446744073709551616 := by omega
  have bc' : x % 4294967296 * (y / 4294967296) < 18446744073709551616 := by omega
  have bh1 : x / 4294967296 * (y / 4294967296) + (x / 4294967296 * (y % 4294967296) + x % 4294967296 * (y % 4294967296) / 4294967296) / 4294967296 < 18446744073709551616 := by omega
  have bh : x / 4294967296 * (y / 4294967296) + (x / 4294967296 * (y % 4294967296) + x % 4294967296 * (y % 4294967296) / 4294967296) / 4294967296 + ((x / 4294967296 * (y % 4294967296) + x % 4294967296 * (y % 4294967296) / 4294967296) % 4294967296 + x % 4294967296 * (y / 4294967296)) / 4294967296 < 18446744073709551616 := by omega
  go_enter Try.func72, Try.ntmps72
  go_wp2
  simp only [Mul64.maskN x hx, Mul64.maskN y hy, Mul64.divN, Mul64.mulN, Mul64.addN, Mul64.wrapN _ bd, Mul64.wrapN _ bb', Mul64.wrapN _ bt, Mul64.maskN _ bt, Mul64.wrapN _ bc', Mul64.wrapN _ bw, Mul64.wrapN _ ba', Mul64.wrapN _ bh1, Mul64.wrapN _ bh, Mul64.wrapM (x * y)]
  rw [hhi]
  go_ret2
  exact ⟨rfl, rfl⟩
set_option maxHeartbeats 1000000 in
theorem mul_any (x y : Nat) (hx : x < 18446744073709551616) (hy : y < 18446744073709551616) (w : World) :
    Calls Try.prog 54 #[.int .u64 x, .int .u64 y] w fun e w' => e = .returned (.tuple #[.int .u64 ((x * y / 18446744073709551616 : Nat) : Int), .int .u64 ((x * y % 18446744073709551616 : Nat) : Int)]) ∧ w' = w := by
  have c64 := mul64_any x y hx hy w
  go_enter Try.func54, Try.ntmps54
  go_wp2_with (go_at_call 72; refine c64.mono ?_; rintro e w' ⟨rfl, hw⟩; rw [hw])
  go_ret2
  exact ⟨rfl, rfl⟩
def c_math_bits_Mul : Contract := fun vs bs => match vs, bs with
  | [.one (.dat .u64 a), .one (.dat .u64 b)], [] => some (some (inU64 a = true ∧ inU64 b = true), .tup [.one (.dat .u64 ((a * b) / two64)), .one (.dat .u64 ((a * b) % two64))], [])
  | _, _ => none
theorem sound_math_bits_Mul : SoundC Try.prog tab n_math_bits_Mul c_math_bits_Mul := by
  intro vs bs p v bs' h hp w S μ xs I hx
  unfold c_math_bits_Mul at h
  split at h
  · cases h
    rename_i a b
    obtain ⟨⟨h1, h2⟩, _⟩ := hp
    simp only [inU64, Bool.and_eq_true, decide_eq_true_eq] at h1 h2
    obtain ⟨x, rfl⟩ := Int.eq_ofNat_of_zero_le h1.1
    obtain ⟨y, rfl⟩ := Int.eq_ofNat_of_zero_le h2.1
    match xs, hx with
    | [X, Y], ⟨g1, g2, _⟩ =>
      have e1 := rel_u64 g1
      have e2 := rel_u64 g2
      subst e1 e2
      refine (mul_any x y (by omega) (by omega) w).mono fun e w' ⟨he, hw⟩ => ?_
      subst hw he
      refine ⟨_, μ, S, rfl, Ext.refl, I, _, rfl, rfl, fun i u hu => ?_⟩
      match i, hu with
      | 0, hu => cases hu; exact ⟨_, rfl, mk_u64 _⟩
      | 1, hu => cases hu; exact ⟨_, rfl, mk_u64 _⟩
  · cases h
end Go.Proofs.Ytlbppjmekiemiaa
namespace Go.Proofs.Ytlbppjmekiemiaa
open Vm
def c_law_at : Contract := fun vs bs => match vs, bs with
  | [.one (.dat .int k), .one (.dat .int n)], [] => some (some (0 < n ∧ n ≤ 1000), .one (.dat .int (k % n)), [])
  | _, _ => none
def Γ_law_at : Ctx := []
theorem ok_law_at : Ok Try.prog tab Γ_law_at := ok_nil
theorem law_at_vc (k : Int) (n : Int) (rec : List It → St → Prop) (K : V → List Blk → Prop) : segD Γ_law_at tab fn_law_at 0 K rec [.code (bodyOf fn_law_at)] (initSt [.one (.dat Ty.int k), .one (.dat Ty.int n)] []) = (
    (n ≠ (0 : Int)) ∧
    (br (lti (Int.tmod k n) (0 : Int))
     (K (.one (.dat Ty.int (w64 ((Int.tmod k n) + n)))) [])
     (K (.one (.dat Ty.int (Int.tmod k n))) []))) := by kernel_rfl
theorem law_at_w (k : Int) (n : Int) (m : Nat) (K : V → List Blk → Prop) : goD Γ_law_at tab fn_law_at 0 K (m + 1) [.code (bodyOf fn_law_at)] (initSt [.one (.dat Ty.int k), .one (.dat Ty.int n)] []) = segD Γ_law_at tab fn_law_at 0 K (goD Γ_law_at tab fn_law_at 0 K m) [.code (bodyOf fn_law_at)] (initSt [.one (.dat Ty.int k), .one (.dat Ty.int n)] []) := rfl

set_option maxHeartbeats 4000000 in
theorem run_law_at (k n : Int) (hp : 0 < n ∧ n ≤ 1000) (K : V → List Blk → Prop) (hK : K (.one (.dat .int (k % n))) []) : ∃ m, goD Γ_law_at tab fn_law_at 0 K m [.code (bodyOf fn_law_at)] (initSt [.one (.dat .int k), .one (.dat .int n)] []) := by
  refine ⟨1, ?_⟩
  rw [law_at_w, law_at_vc _ _ _ _]
  refine ⟨by omega, ?_⟩
  have h1 := Int.tmod_eq_emod (a := k) (b := n)
  have h2 := Int.emod_nonneg k (show n ≠ 0 by omega)
  have h3 := Int.emod_lt_of_pos k (show 0 < n by omega)
  have h4 : Int.tmod k n = k % n ∨ Int.tmod k n = k % n - n := by
    rw [h1]; split
    · left; omega
    · right; omega
  have h5 : (Int.tmod k n < 0 → Int.tmod k n = k % n - n) := by omega
  refine lt_s (fun h => ?_) (fun h => ?_)
  · rw [w64_id (by omega) (by omega), show Int.tmod k n + n = k % n by omega]; exact hK
  · rw [show Int.tmod k n = k % n by omega]; exact hK
theorem sound_law_at : SoundC Try.prog tab n_law_at c_law_at := soundC_of ok_law_at hf_law_at hB_law_at (by
  intro vs bs p v bs' h hp
  unfold c_law_at at h
  split at h
  · cases h
    exact ⟨by kernel_rfl, rfl, .inl (run_law_at _ _ hp.1 _ ⟨rfl, rfl⟩)⟩
  · cases h)

def c_flash_Check : Contract := fun vs bs => match vs, bs with
  | [.agg [.dat (.list .int) ws, .dat .int fu]], [] => some (none, .one (.dat .int (checkFlash ⟨ws, fu⟩)), [])
  | _, _ => none
def Γ_flash_Check : Ctx := []
theorem ok_flash_Check : Ok Try.prog tab Γ_flash_Check := ok_nil
noncomputable def flash_Check_L0 : List It := [.inLoop [31, 30, 29, 2] (Code.sub (bodyOf fn_flash_Check) [1, 1, 1, 0, 1, 0, 0]), .inBlock 0, .code (Code.sub (bodyOf fn_flash_Check) [1, 1, 1, 1])]
def flash_Check_S0 (x0 : Int) (x1 : Int) (x2 : (List Int)) (x3 : Int) : St := ⟨[(31, .one (.dat Ty.int x0)), (30, .one (.dat Ty.int x1)), (29, .one (.dat (Ty.list Ty.int) x2)), (2, .one (.dat Ty.int x3))], [], 0⟩
theorem flash_Check_vc (ws : List Int) (fu : Int) (rec : List It → St → Prop) (K : V → List Blk → Prop) : segD Γ_flash_Check tab fn_flash_Check 0 K rec [.code (bodyOf fn_flash_Check)] (initSt [.agg [.dat (Ty.list Ty.int) ws, .dat Ty.int fu]] []) = (
    br (eqi (((len ws) : Nat) : Int) (0 : Int))
     (K (.one (.dat Ty.int (4 : Int))) [])
     (((32 : Int) ≠ (0 : Int)) ∧
      (br (!(eqi (Int.tmod (((len ws) : Nat) : Int) (32 : Int)) (0 : Int)))
       (K (.one (.dat Ty.int (4 : Int))) [])
       (br (lti (192 : Int) (((len ws) : Nat) : Int))
         (K (.one (.dat Ty.int (4 : Int))) [])
         (br (lti fu (-(1 : Int)))
           (K (.one (.dat Ty.int (3 : Int))) [])
           (br (lti (100000 : Int) fu)
             (K (.one (.dat Ty.int (3 : Int))) [])
             (rec flash_Check_L0 (flash_Check_S0 (0 : Int) (((len ws) : Nat) : Int) ws (0 : Int))))))))) := by kernel_rfl
theorem flash_Check_w (ws : List Int) (fu : Int) (m : Nat) (K : V → List Blk → Prop) : goD Γ_flash_Check tab fn_flash_Check 0 K (m + 1) [.code (bodyOf fn_flash_Check)] (initSt [.agg [.dat (Ty.list Ty.int) ws, .dat Ty.int fu]] []) = segD Γ_flash_Check tab fn_flash_Check 0 K (goD Γ_flash_Check tab fn_flash_Check 0 K m) [.code (bodyOf fn_flash_Check)] (initSt [.agg [.dat (Ty.list Ty.int) ws, .dat Ty.int fu]] []) := rfl
theorem flash_Check_vc0 (x0 : Int) (x1 : Int) (x2 : (List Int)) (x3 : Int) (rec : List It → St → Prop) (K : V → List Blk → Prop) : segD Γ_flash_Check tab fn_flash_Check 0 K rec (.code (Code.sub (bodyOf fn_flash_Check) [1, 1, 1, 0, 1, 0, 0]) :: flash_Check_L0) (flash_Check_S0 x0 x1 x2 x3) = (
    br (lti x0 x1)
     ((((0 : Int) ≤ x0) ∧ (x0 < (((len x2) : Nat) : Int))) ∧
      (br (lti (nth x2 (Int.toNat x0) (Ty.dflt Ty.int)) (0 : Int))
       (K (.one (.dat Ty.int (3 : Int))) [])
       (br (lti (65535 : Int) (nth x2 (Int.toNat x0) (Ty.dflt Ty.int)))
         (K (.one (.dat Ty.int (3 : Int))) [])
         (rec flash_Check_L0 (flash_Check_S0 (w64 (x0 + (1 : Int))) x1 x2 x3)))))
     (K (.one (.dat Ty.int (0 : Int))) [])) := by kernel_rfl
theorem flash_Check_w0 (x0 : Int) (x1 : Int) (x2 : (List Int)) (x3 : Int) (m : Nat) (K : V → List Blk → Prop) : goD Γ_flash_Check tab fn_flash_Check 0 K (m + 1) flash_Check_L0 (flash_Check_S0 x0 x1 x2 x3) = segD Γ_flash_Check tab fn_flash_Check 0 K (goD Γ_flash_Check tab fn_flash_Check 0 K m) (.code (Code.sub (bodyOf fn_flash_Check) [1, 1, 1, 0, 1, 0, 0]) :: flash_Check_L0) (flash_Check_S0 x0 x1 x2 x3) := rfl

theorem loop_flash_Check (ws : List Int) (hl : ws.length ≤ 192) (K : V → List Blk → Prop) (hK : K (.one (.dat .int (if okWords ws then 0 else 3))) []) : ∀ (d k : Nat), k + d = ws.length → okWords (ws.take k) = true →
    goD Γ_flash_Check tab fn_flash_Check 0 K (d + 1) flash_Check_L0 (flash_Check_S0 (k : Int) (((len ws) : Nat) : Int) ws (0 : Int))
  | 0, k, hk, he => by
    rw [flash_Check_w0, flash_Check_vc0 _ _ _ _ _ _]
    refine lt_f (by simp only [len]; omega) ?_
    rw [List.take_of_length_le (by omega)] at he
    rw [if_pos he] at hK
    exact hK
  | d + 1, k, hk, he => by
    rw [flash_Check_w0, flash_Check_vc0 _ _ _ _ _ _]
    have bad : okWord (nth ws k (Ty.dflt Ty.int)) = false → K (.one (.dat .int 3)) [] := fun h => by
      rw [show okWords ws = false from all_false (k := k) (by omega) _ h] at hK; exact hK
    refine lt_t (by simp only [len]; omega) ⟨⟨by omega, by simp only [len]; omega⟩, lt_s (fun h => ?_) (fun h => lt_s (fun h2 => ?_) (fun h2 => ?_))⟩
    · rw [toNat_nat] at h
      exact bad (by simp only [okWord, Bool.and_eq_false_iff, decide_eq_false_iff_not]; exact .inl (by omega))
    · rw [toNat_nat] at h2
      exact bad (by simp only [okWord, Bool.and_eq_false_iff, decide_eq_false_iff_not]; exact .inr (by omega))
    · rw [w64_succ (by omega)]
      rw [toNat_nat] at h h2
      exact loop_flash_Check ws hl K hK d (k + 1) (by omega) (all_take_step (by omega) (Ty.dflt Ty.int) he (by simp [okWord, h, h2]))
set_option maxHeartbeats 4000000 in
theorem run_flash_Check (ws : List Int) (fu : Int) (K : V → List Blk → Prop) (hK : K (.one (.dat .int (checkFlash ⟨ws, fu⟩))) []) : ∃ m, goD Γ_flash_Check tab fn_flash_Check 0 K m [.code (bodyOf fn_flash_Check)] (initSt [.agg [.dat (.list .int) ws, .dat .int fu]] []) := by
  refine ⟨ws.length + 2, ?_⟩
  rw [flash_Check_w, flash_Check_vc _ _ _ _]
  have four : okLen ws.length = false → K (.one (.dat .int 4)) [] := fun h => by
    rw [show checkFlash ⟨ws, fu⟩ = 4 from by simp [checkFlash, h]] at hK; exact hK
  refine eq_s (fun h => four ?_) (fun h => ⟨by decide, ne_s (fun h2 => four ?_) (fun h2 => lt_s (fun h3 => four ?_) (fun h3 => ?_))⟩)
  · simp only [len] at h; simp [okLen]; omega
  · simp only [len] at h2; rw [Int.tmod_eq_emod_of_nonneg (by omega)] at h2; simp [okLen]; omega
  · simp only [len] at h3; simp [okLen]; omega
  · have hlen : okLen ws.length = true := by simp only [len] at h h2 h3; rw [Int.tmod_eq_emod_of_nonneg (by omega)] at h2; simp [okLen]; omega
    have three : (decide (-1 ≤ fu) && decide (fu ≤ 100000)) = false → K (.one (.dat .int 3)) [] := fun h => by
      rw [show checkFlash ⟨ws, fu⟩ = 3 from by simp [checkFlash, hlen, h]] at hK; exact hK
    refine lt_s (fun h4 => three ?_) (fun h4 => lt_s (fun h5 => three ?_) (fun h5 => ?_))
    · simp; omega
    · simp; omega
    · refine loop_flash_Check ws (by simp only [len] at h3; omega) K ?_ ws.length 0 (by omega) rfl
      rw [show checkFlash ⟨ws, fu⟩ = if okWords ws then 0 else 3 from by simp [checkFlash, hlen, h4, h5]] at hK
      exact hK
theorem sound_flash_Check : SoundC Try.prog tab n_flash_Check c_flash_Check := soundC_of ok_flash_Check hf_flash_Check hB_flash_Check (by
  intro vs bs p v bs' h hp
  unfold c_flash_Check at h
  split at h
  · cases h
    exact ⟨by kernel_rfl, rfl, .inl (run_flash_Check _ _ _ ⟨rfl, rfl⟩)⟩
  · cases h)

def c_slot_check : Contract := fun vs bs => match vs, bs with
  | [.agg [.dat (.list .int) ws, .dat .int fu], .one (.dat .int slot)], [] => some (none, .one (.dat .int (checkSlot ⟨ws, fu⟩ slot)), [])
  | _, _ => none
def Γ_slot_check : Ctx := [(n_flash_Check, c_flash_Check)]
theorem ok_slot_check : Ok Try.prog tab Γ_slot_check := (ok_nil.consC hf_flash_Check hB_flash_Check sound_flash_Check)
theorem slot_check_vc (ws : List Int) (fu : Int) (slot : Int) (rec : List It → St → Prop) (K : V → List Blk → Prop) v0 (hv0 : v0 = (checkFlash (⟨ws, fu⟩ : Flash))) : segD Γ_slot_check tab fn_slot_check 0 K rec [.code (bodyOf fn_slot_check)] (initSt [.agg [.dat (Ty.list Ty.int) ws, .dat Ty.int fu], .one (.dat Ty.int slot)] []) = (
    br (!(eqi v0 (0 : Int)))
     (K (.one (.dat Ty.int v0)) [])
     (br (!(eqi (((len ws) : Nat) : Int) (192 : Int)))
       (K (.one (.dat Ty.int (4 : Int))) [])
       (br (!(eqi slot (0 : Int)))
         (br (!(eqi slot (1 : Int)))
           (K (.one (.dat Ty.int (5 : Int))) [])
           (K (.one (.dat Ty.int (0 : Int))) []))
         (K (.one (.dat Ty.int (0 : Int))) [])))) := by subst hv0; kernel_rfl
theorem slot_check_w (ws : List Int) (fu : Int) (slot : Int) (m : Nat) (K : V → List Blk → Prop) : goD Γ_slot_check tab fn_slot_check 0 K (m + 1) [.code (bodyOf fn_slot_check)] (initSt [.agg [.dat (Ty.list Ty.int) ws, .dat Ty.int fu], .one (.dat Ty.int slot)] []) = segD Γ_slot_check tab fn_slot_check 0 K (goD Γ_slot_check tab fn_slot_check 0 K m) [.code (bodyOf fn_slot_check)] (initSt [.agg [.dat (Ty.list Ty.int) ws, .dat Ty.int fu], .one (.dat Ty.int slot)] []) := rfl

set_option maxHeartbeats 4000000 in
theorem run_slot_check (ws : List Int) (fu slot : Int) (K : V → List Blk → Prop) (hK : K (.one (.dat .int (checkSlot ⟨ws, fu⟩ slot))) []) : ∃ m, goD Γ_slot_check tab fn_slot_check 0 K m [.code (bodyOf fn_slot_check)] (initSt [.agg [.dat (.list .int) ws, .dat .int fu], .one (.dat .int slot)] []) := by
  refine ⟨1, ?_⟩
  rw [slot_check_w, slot_check_vc _ _ _ _ _ _ rfl]
  unfold checkSlot at hK
  refine ne_s (fun h => ?_) (fun h => ?_)
  · rw [if_neg h] at hK; exact hK
  rw [if_pos h] at hK
  refine ne_s (fun h2 => ?_) (fun h2 => ?_)
  · rw [if_neg (by simp only [len] at h2 ⊢; omega)] at hK; exact hK
  rw [if_pos (by simp only [len] at h2 ⊢; omega)] at hK
  refine ne_s (fun h3 => ne_s (fun h4 => ?_) (fun h4 => ?_)) (fun h3 => ?_)
  · rw [if_neg (by omega)] at hK; exact hK
  · rw [if_pos (by omega)] at hK; exact hK
  · rw [if_pos (by omega)] at hK; exact hK
theorem sound_slot_check : SoundC Try.prog tab n_slot_check c_slot_check := soundC_of ok_slot_check hf_slot_check hB_slot_check (by
  intro vs bs p v bs' h hp
  unfold c_slot_check at h
  split at h
  · cases h
    exact ⟨by kernel_rfl, rfl, .inl (run_slot_check _ _ _ _ ⟨rfl, rfl⟩)⟩
  · cases h)

def c_slices_Clone_Lint : Contract := fun vs bs => match vs, bs with
  | [.one (.dat (.list .int) l)], [] => some (some (len l * 8 ≤ 140737488355328), .one (.own 0), [.arr .int l])
  | _, _ => none
def Γ_slices_Clone_Lint : Ctx := []
theorem ok_slices_Clone_Lint : Ok Try.prog tab Γ_slices_Clone_Lint := ok_nil
theorem slices_Clone_Lint_vc (l : List Int) (rec : List It → St → Prop) (K : V → List Blk → Prop) : segO Γ_slices_Clone_Lint tab fn_slices_Clone_Lint 0 K rec [.code (bodyOf fn_slices_Clone_Lint)] (initSt [.one (.dat (Ty.list Ty.int) l)] []) = (
    (∀ bn : Bool, (((bn = true) → ((len l) = 0)) → br bn
       (K (.one (.own 0)) [.arr Ty.int []])
       ((((0 + (len l)) * 8) ≤ 140737488355328) ∧
        (K (.one (.own 0)) [.arr Ty.int (cat [] l)]))))) := by kernel_rfl
theorem slices_Clone_Lint_w (l : List Int) (m : Nat) (K : V → List Blk → Prop) : goO Γ_slices_Clone_Lint tab fn_slices_Clone_Lint 0 K (m + 1) [.code (bodyOf fn_slices_Clone_Lint)] (initSt [.one (.dat (Ty.list Ty.int) l)] []) = segO Γ_slices_Clone_Lint tab fn_slices_Clone_Lint 0 K (goO Γ_slices_Clone_Lint tab fn_slices_Clone_Lint 0 K m) [.code (bodyOf fn_slices_Clone_Lint)] (initSt [.one (.dat (Ty.list Ty.int) l)] []) := rfl

set_option maxHeartbeats 4000000 in
theorem run_slices_Clone_Lint (l : List Int) (hp : len l * 8 ≤ 140737488355328) (K : V → List Blk → Prop) (hK : K (.one (.own 0)) [.arr .int l]) : ∃ m, goO Γ_slices_Clone_Lint tab fn_slices_Clone_Lint 0 K m [.code (bodyOf fn_slices_Clone_Lint)] (initSt [.one (.dat (.list .int) l)] []) := by
  refine ⟨1, ?_⟩
  rw [slices_Clone_Lint_w, slices_Clone_Lint_vc _ _ _]
  intro bn hb
  refine br_split (fun h => ?_) (fun h => ⟨by simp only [len] at hp ⊢; omega, hK⟩)
  have : l = [] := List.length_eq_zero_iff.1 (hb h)
  subst this
  exact hK
theorem sound_slices_Clone_Lint : SoundC Try.prog tab n_slices_Clone_Lint c_slices_Clone_Lint := soundC_of ok_slices_Clone_Lint hf_slices_Clone_Lint hB_slices_Clone_Lint (by
  intro vs bs p v bs' h hp
  unfold c_slices_Clone_Lint at h
  split at h
  · cases h
    exact ⟨by kernel_rfl, rfl, .inr (run_slices_Clone_Lint _ hp.1 _ ⟨rfl, rfl⟩)⟩
  · cases h)

def c_flash_Copy : Contract := fun vs bs => match vs, bs with
  | [.agg [.dat (.list .int) ws, .dat .int fu]], [] => some (some (len ws * 8 ≤ 140737488355328), .agg [.own 0, .dat .int fu], [.arr .int ws])
  | _, _ => none
def Γ_flash_Copy : Ctx := [(n_slices_Clone_Lint, c_slices_Clone_Lint)]
theorem ok_flash_Copy : Ok Try.prog tab Γ_flash_Copy := (ok_nil.consC hf_slices_Clone_Lint hB_slices_Clone_Lint sound_slices_Clone_Lint)
theorem flash_Copy_vc (ws : List Int) (fu : Int) (rec : List It → St → Prop) (K : V → List Blk → Prop) : segO Γ_flash_Copy tab fn_flash_Copy 0 K rec [.code (bodyOf fn_flash_Copy)] (initSt [.agg [.dat (Ty.list Ty.int) ws, .dat Ty.int fu]] []) = (
    (((len ws) * 8) ≤ 140737488355328) ∧
    (K (.agg [.own 0, .dat Ty.int fu]) [.arr Ty.int ws])) := by kernel_rfl
theorem flash_Copy_w (ws : List Int) (fu : Int) (m : Nat) (K : V → List Blk → Prop) : goO Γ_flash_Copy tab fn_flash_Copy 0 K (m + 1) [.code (bodyOf fn_flash_Copy)] (initSt [.agg [.dat (Ty.list Ty.int) ws, .dat Ty.int fu]] []) = segO Γ_flash_Copy tab fn_flash_Copy 0 K (goO Γ_flash_Copy tab fn_flash_Copy 0 K m) [.code (bodyOf fn_flash_Copy)] (initSt [.agg [.dat (Ty.list Ty.int) ws, .dat Ty.int fu]] []) := rfl

set_option maxHeartbeats 4000000 in
theorem run_flash_Copy (ws : List Int) (fu : Int) (hp : len ws * 8 ≤ 140737488355328) (K : V → List Blk → Prop) (hK : K (.agg [.own 0, .dat .int fu]) [.arr .int ws]) : ∃ m, goO Γ_flash_Copy tab fn_flash_Copy 0 K m [.code (bodyOf fn_flash_Copy)] (initSt [.agg [.dat (.list .int) ws, .dat .int fu]] []) := by
  refine ⟨1, ?_⟩
  rw [flash_Copy_w, flash_Copy_vc _ _ _ _]
  exact ⟨hp, hK⟩
theorem sound_flash_Copy : SoundC Try.prog tab n_flash_Copy c_flash_Copy := soundC_of ok_flash_Copy hf_flash_Copy hB_flash_Copy (by
  intro vs bs p v bs' h hp
  unfold c_flash_Copy at h
  split at h
  · cases h
    exact ⟨by kernel_rfl, rfl, .inr (run_flash_Copy _ _ hp.1 _ ⟨rfl, rfl⟩)⟩
  · cases h)

def c_flash_burn : Contract := fun vs bs => match vs, bs with
  | [.one (.ptr 0 0)], [.box [.own 1, .dat .int fu], .arr .int ws] => some (some (fu ≤ 100000), .one (.dat .bool (!eqi fu 0)), [.box [.own 1, .dat .int (burnFuel fu)], .arr .int ws])
  | _, _ => none
def Γ_flash_burn : Ctx := []
theorem ok_flash_burn : Ok Try.prog tab Γ_flash_burn := ok_nil
theorem flash_burn_vc (ws : List Int) (fu : Int) (rec : List It → St → Prop) (K : V → List Blk → Prop) : segD Γ_flash_burn tab fn_flash_burn 2 K rec [.code (bodyOf fn_flash_burn)] (initSt [.one (.ptr 0 0)] [.box [.own 1, .dat Ty.int fu], .arr Ty.int ws]) = (
    br (eqi fu (0 : Int))
     (K (.one (.dat Ty.bool false)) [.box [.own 1, .dat Ty.int fu], .arr Ty.int ws])
     (br (lti (0 : Int) fu)
       (K (.one (.dat Ty.bool true)) [.box [.own 1, .dat Ty.int (w64 (fu - (1 : Int)))], .arr Ty.int ws])
       (K (.one (.dat Ty.bool true)) [.box [.own 1, .dat Ty.int fu], .arr Ty.int ws]))) := by kernel_rfl
theorem flash_burn_w (ws : List Int) (fu : Int) (m : Nat) (K : V → List Blk → Prop) : goD Γ_flash_burn tab fn_flash_burn 2 K (m + 1) [.code (bodyOf fn_flash_burn)] (initSt [.one (.ptr 0 0)] [.box [.own 1, .dat Ty.int fu], .arr Ty.int ws]) = segD Γ_flash_burn tab fn_flash_burn 2 K (goD Γ_flash_burn tab fn_flash_burn 2 K m) [.code (bodyOf fn_flash_burn)] (initSt [.one (.ptr 0 0)] [.box [.own 1, .dat Ty.int fu], .arr Ty.int ws]) := rfl

set_option maxHeartbeats 4000000 in
theorem run_flash_burn (ws : List Int) (fu : Int) (hp : fu ≤ 100000) (K : V → List Blk → Prop) (hK : K (.one (.dat .bool (!eqi fu 0))) [.box [.own 1, .dat .int (burnFuel fu)], .arr .int ws]) : ∃ m, goD Γ_flash_burn tab fn_flash_burn 2 K m [.code (bodyOf fn_flash_burn)] (initSt [.one (.ptr 0 0)] [.box [.own 1, .dat .int fu], .arr .int ws]) := by
  refine ⟨1, ?_⟩
  rw [flash_burn_w, flash_burn_vc _ _ _ _]
  refine eq_s (fun h => ?_) (fun h => lt_s (fun h2 => ?_) (fun h2 => ?_))
  · rw [show (!eqi fu 0) = false from by simp [eqi, h], show burnFuel fu = fu from by simp [burnFuel, h]] at hK; exact hK
  · rw [show (!eqi fu 0) = true from by simp [eqi, h], show burnFuel fu = fu - 1 from by simp [burnFuel, h2]] at hK
    rw [w64_id (by omega) (by omega)]; exact hK
  · rw [show (!eqi fu 0) = true from by simp [eqi, h], show burnFuel fu = fu from by simp only [burnFuel]; rw [if_neg (by omega)]] at hK; exact hK
theorem sound_flash_burn : SoundC Try.prog tab n_flash_burn c_flash_burn := soundC_of ok_flash_burn hf_flash_burn hB_flash_burn (by
  intro vs bs p v bs' h hp
  unfold c_flash_burn at h
  split at h
  · cases h
    exact ⟨by kernel_rfl, rfl, .inl (run_flash_burn _ _ hp.1 _ ⟨rfl, rfl⟩)⟩
  · cases h)

def c_flash_Wipe : Contract := fun vs bs => match vs, bs with
  | [.one (.ptr 0 0), .one (.dat .int sector)], [.box [.own 1, .dat .int fu], .arr .int ws] => some (some (-1 ≤ fu ∧ fu ≤ 100000 ∧ 0 ≤ sector ∧ (sector + 1) * 32 ≤ (len ws : Nat) ∧ len ws ≤ 192), .one (.dat .bool (doCh ⟨ws, fu⟩ (wipeCh sector)).2), [.box [.own 1, .dat .int (doCh ⟨ws, fu⟩ (wipeCh sector)).1.fuel], .arr .int (doCh ⟨ws, fu⟩ (wipeCh sector)).1.words])
  | _, _ => none
def Γ_flash_Wipe : Ctx := [(n_flash_burn, c_flash_burn)]
theorem ok_flash_Wipe : Ok Try.prog tab Γ_flash_Wipe := (ok_nil.consC hf_flash_burn hB_flash_burn sound_flash_burn)
noncomputable def flash_Wipe_L0 : List It := [.inLoop [6, 4, 0, 1] (Code.sub (bodyOf fn_flash_Wipe) [1, 0, 1, 0, 0]), .inBlock 0, .code (Code.sub (bodyOf fn_flash_Wipe) [1, 1])]
def flash_Wipe_S0 (x0 : Int) (x1 : Bool) (x2 : Int) (x3 : Int) (x4 : (List Int)) : St := ⟨[(6, .one (.dat Ty.int x0)), (4, .one (.dat Ty.bool x1)), (0, .one (.ptr 0 0)), (1, .one (.dat Ty.int x2))], [(0, .box [.own 1, .dat Ty.int x3]), (1, .arr Ty.int x4)], 2⟩
theorem flash_Wipe_vc (ws : List Int) (fu : Int) (sector : Int) (rec : List It → St → Prop) (K : V → List Blk → Prop) : segD Γ_flash_Wipe tab fn_flash_Wipe 2 K rec [.code (bodyOf fn_flash_Wipe)] (initSt [.one (.ptr 0 0), .one (.dat Ty.int sector)] [.box [.own 1, .dat Ty.int fu], .arr Ty.int ws]) = (
    rec flash_Wipe_L0 (flash_Wipe_S0 (0 : Int) false sector fu ws)) := by kernel_rfl
theorem flash_Wipe_w (ws : List Int) (fu : Int) (sector : Int) (m : Nat) (K : V → List Blk → Prop) : goD Γ_flash_Wipe tab fn_flash_Wipe 2 K (m + 1) [.code (bodyOf fn_flash_Wipe)] (initSt [.one (.ptr 0 0), .one (.dat Ty.int sector)] [.box [.own 1, .dat Ty.int fu], .arr Ty.int ws]) = segD Γ_flash_Wipe tab fn_flash_Wipe 2 K (goD Γ_flash_Wipe tab fn_flash_Wipe 2 K m) [.code (bodyOf fn_flash_Wipe)] (initSt [.one (.ptr 0 0), .one (.dat Ty.int sector)] [.box [.own 1, .dat Ty.int fu], .arr Ty.int ws]) := rfl
theorem flash_Wipe_vc0 (x0 : Int) (x1 : Bool) (x2 : Int) (x3 : Int) (x4 : (List Int)) (rec : List It → St → Prop) (K : V → List Blk → Prop) v0 (hv0 : v0 = (burnFuel x3)) : segD Γ_flash_Wipe tab fn_flash_Wipe 2 K rec (.code (Code.sub (bodyOf fn_flash_Wipe) [1, 0, 1, 0, 0]) :: flash_Wipe_L0) (flash_Wipe_S0 x0 x1 x2 x3 x4) = (
    br (lti x0 (32 : Int))
     ((x3 ≤ (100000 : Int)) ∧
      (br (!(!(eqi x3 (0 : Int))))
       (K (.one (.dat Ty.bool false)) [.box [.own 1, .dat Ty.int v0], .arr Ty.int x4])
       ((((0 : Int) ≤ (w64 ((w64 (x2 * (32 : Int))) + x0))) ∧ ((w64 ((w64 (x2 * (32 : Int))) + x0)) < (((len x4) : Nat) : Int))) ∧
        (((Int.toNat (w64 ((w64 (x2 * (32 : Int))) + x0))) < (len x4)) ∧
        (rec flash_Wipe_L0 (flash_Wipe_S0 (w64 (x0 + (1 : Int))) x1 x2 v0 (setAt x4 (Int.toNat (w64 ((w64 (x2 * (32 : Int))) + x0))) (65535 : Int))))))))
     (K (.one (.dat Ty.bool true)) [.box [.own 1, .dat Ty.int x3], .arr Ty.int x4])) := by subst hv0; kernel_rfl
theorem flash_Wipe_w0 (x0 : Int) (x1 : Bool) (x2 : Int) (x3 : Int) (x4 : (List Int)) (m : Nat) (K : V → List Blk → Prop) : goD Γ_flash_Wipe tab fn_flash_Wipe 2 K (m + 1) flash_Wipe_L0 (flash_Wipe_S0 x0 x1 x2 x3 x4) = segD Γ_flash_Wipe tab fn_flash_Wipe 2 K (goD Γ_flash_Wipe tab fn_flash_Wipe 2 K m) (.code (Code.sub (bodyOf fn_flash_Wipe) [1, 0, 1, 0, 0]) :: flash_Wipe_L0) (flash_Wipe_S0 x0 x1 x2 x3 x4) := rfl

theorem loop_flash_Wipe (sector : Int) (hs : 0 ≤ sector) (K : V → List Blk → Prop) : ∀ (n : Nat) (ws : List Int) (fu : Int), n ≤ 32 → -1 ≤ fu → fu ≤ 100000 → (sector + 1) * 32 ≤ (ws.length : Nat) → ws.length ≤ 192 →
    K (.one (.dat .bool (doCh ⟨ws, fu⟩ (wipeFrom (32 * sector + (32 - n)) n)).2)) [.box [.own 1, .dat .int (doCh ⟨ws, fu⟩ (wipeFrom (32 * sector + (32 - n)) n)).1.fuel], .arr .int (doCh ⟨ws, fu⟩ (wipeFrom (32 * sector + (32 - n)) n)).1.words] →
    goD Γ_flash_Wipe tab fn_flash_Wipe 2 K (n + 1) flash_Wipe_L0 (flash_Wipe_S0 (32 - n) false sector fu ws)
  | 0, ws, fu, hn, h1, h2, h3, h4, hK => by
    rw [flash_Wipe_w0, flash_Wipe_vc0 _ _ _ _ _ _ _ _ rfl]
    refine lt_f (by omega) ?_
    simp only [wipeFrom, doCh_nil] at hK
    exact hK
  | n + 1, ws, fu, hn, h1, h2, h3, h4, hK => by
    rw [flash_Wipe_w0, flash_Wipe_vc0 _ _ _ _ _ _ _ _ rfl]
    have e1 : w64 ((w64 (sector * 32)) + (32 - ((n + 1 : Nat) : Int))) = 32 * sector + (32 - ((n + 1 : Nat) : Int)) := by
      rw [w64_id (n := sector * 32) (by omega) (by omega), w64_id (by omega) (by omega)]; omega
    rw [e1]
    simp only [wipeFrom, doCh_cons] at hK
    refine lt_t (by omega) ⟨h2, ?_⟩
    by_cases h0 : fu = 0
    · subst h0
      refine br_t (by simp [eqi]) ?_
      simp only [if_true] at hK
      exact hK
    · rw [if_neg h0] at hK
      refine br_f (by simp [eqi, h0]) ⟨⟨by omega, by simp only [len]; omega⟩, by simp only [len]; omega, ?_⟩
      rw [w64_id (by omega) (by omega), show (32 - ((n + 1 : Nat) : Int)) + 1 = 32 - (n : Int) by omega]
      refine loop_flash_Wipe sector hs K n _ _ (by omega) ?_ ?_ (by simp [setAt]; omega) (by simpa [setAt] using h4) ?_
      · unfold burnFuel; split <;> omega
      · unfold burnFuel; split <;> omega
      · rw [show (32 * sector + (32 - ((n + 1 : Nat) : Int))) + 1 = 32 * sector + (32 - (n : Int)) by omega] at hK
        exact hK
set_option maxHeartbeats 4000000 in
theorem run_flash_Wipe (ws : List Int) (fu sector : Int) (hp : -1 ≤ fu ∧ fu ≤ 100000 ∧ 0 ≤ sector ∧ (sector + 1) * 32 ≤ (len ws : Nat) ∧ len ws ≤ 192) (K : V → List Blk → Prop) (hK : K (.one (.dat .bool (doCh ⟨ws, fu⟩ (wipeCh sector)).2)) [.box [.own 1, .dat .int (doCh ⟨ws, fu⟩ (wipeCh sector)).1.fuel], .arr .int (doCh ⟨ws, fu⟩ (wipeCh sector)).1.words]) : ∃ m, goD Γ_flash_Wipe tab fn_flash_Wipe 2 K m [.code (bodyOf fn_flash_Wipe)] (initSt [.one (.ptr 0 0), .one (.dat .int sector)] [.box [.own 1, .dat .int fu], .arr .int ws]) := by
  obtain ⟨h1, h2, h3, h4, h5⟩ := hp
  refine ⟨34, ?_⟩
  rw [flash_Wipe_w, flash_Wipe_vc _ _ _ _ _]
  exact loop_flash_Wipe sector h3 K 32 ws fu (by omega) h1 h2 (by simpa [len] using h4) h5 (by simpa [wipeCh] using hK)
theorem sound_flash_Wipe : SoundC Try.prog tab n_flash_Wipe c_flash_Wipe := soundC_of ok_flash_Wipe hf_flash_Wipe hB_flash_Wipe (by
  intro vs bs p v bs' h hp
  unfold c_flash_Wipe at h
  split at h
  · cases h
    exact ⟨by kernel_rfl, rfl, .inl (run_flash_Wipe _ _ _ hp.1 _ ⟨rfl, rfl⟩)⟩
  · cases h)

def c_slot_Clear : Contract := fun vs bs => match vs, bs with
  | [.agg [.dat (.list .int) ws, .dat .int fu], .one (.dat .int slot)], [] => some (none, .tup [.agg [.dat (.list .int) (clearS ⟨ws, fu⟩ slot).1.words, .dat .int (clearS ⟨ws, fu⟩ slot).1.fuel], .one (.dat .int (clearS ⟨ws, fu⟩ slot).2)], [])
  | _, _ => none
def Γ_slot_Clear : Ctx := [(n_slot_check, c_slot_check), (n_flash_Copy, c_flash_Copy), (n_flash_Wipe, c_flash_Wipe)]
theorem ok_slot_Clear : Ok Try.prog tab Γ_slot_Clear := (((ok_nil.consC hf_flash_Wipe hB_flash_Wipe sound_flash_Wipe).consC hf_flash_Copy hB_flash_Copy sound_flash_Copy).consC hf_slot_check hB_slot_check sound_slot_check)
theorem slot_Clear_vc (ws : List Int) (fu : Int) (slot : Int) (rec : List It → St → Prop) (K : V → List Blk → Prop) v0 (hv0 : v0 = (checkSlot (⟨ws, fu⟩ : Flash) slot)) v1 (hv1 : v1 = (wipeCh (w64 ((2 : Int) + (w64 ((2 : Int) * slot)))))) v2 (hv2 : v2 = (doCh (⟨ws, fu⟩ : Flash) v1)) v3 (hv3 : v3 = (wipeCh (w64 ((3 : Int) + (w64 ((2 : Int) * slot)))))) v4 (hv4 : v4 = (doCh (⟨((v2).fst).words, ((v2).fst).fuel⟩ : Flash) v3)) : segD Γ_slot_Clear tab fn_slot_Clear 0 K rec [.code (bodyOf fn_slot_Clear)] (initSt [.agg [.dat (Ty.list Ty.int) ws, .dat Ty.int fu], .one (.dat Ty.int slot)] []) = (
    br (!(eqi v0 (0 : Int)))
     (K (.tup [.agg [.dat (Ty.list Ty.int) [], .dat Ty.int (0 : Int)], .one (.dat Ty.int v0)]) [])
     ((((len ws) * 8) ≤ 140737488355328) ∧
      ((((-(1 : Int)) ≤ fu) ∧ ((fu ≤ (100000 : Int)) ∧ (((0 : Int) ≤ (w64 ((2 : Int) + (w64 ((2 : Int) * slot))))) ∧ (((((w64 ((2 : Int) + (w64 ((2 : Int) * slot)))) + (1 : Int)) * (32 : Int)) ≤ (((len ws) : Nat) : Int)) ∧ ((len ws) ≤ 192))))) ∧
      (br (!(v2).snd)
       (K (.tup [.agg [.dat (Ty.list Ty.int) ((v2).fst).words, .dat Ty.int ((v2).fst).fuel], .one (.dat Ty.int (7 : Int))]) [])
       ((((-(1 : Int)) ≤ ((v2).fst).fuel) ∧ ((((v2).fst).fuel ≤ (100000 : Int)) ∧ (((0 : Int) ≤ (w64 ((3 : Int) + (w64 ((2 : Int) * slot))))) ∧ (((((w64 ((3 : Int) + (w64 ((2 : Int) * slot)))) + (1 : Int)) * (32 : Int)) ≤ (((len ((v2).fst).words) : Nat) : Int)) ∧ ((len ((v2).fst).words) ≤ 192))))) ∧
        (br (!(v4).snd)
         (K (.tup [.agg [.dat (Ty.list Ty.int) ((v4).fst).words, .dat Ty.int ((v4).fst).fuel], .one (.dat Ty.int (7 : Int))]) [])
         (K (.tup [.agg [.dat (Ty.list Ty.int) ((v4).fst).words, .dat Ty.int ((v4).fst).fuel], .one (.dat Ty.int (0 : Int))]) []))))))) := by subst hv4; subst hv3; subst hv2; subst hv1; subst hv0; kernel_rfl
theorem slot_Clear_w (ws : List Int) (fu : Int) (slot : Int) (m : Nat) (K : V → List Blk → Prop) : goD Γ_slot_Clear tab fn_slot_Clear 0 K (m + 1) [.code (bodyOf fn_slot_Clear)] (initSt [.agg [.dat (Ty.list Ty.int) ws, .dat Ty.int fu], .one (.dat Ty.int slot)] []) = segD Γ_slot_Clear tab fn_slot_Clear 0 K (goD Γ_slot_Clear tab fn_slot_Clear 0 K m) [.code (bodyOf fn_slot_Clear)] (initSt [.agg [.dat (Ty.list Ty.int) ws, .dat Ty.int fu], .one (.dat Ty.int slot)] []) := rfl

set_option maxHeartbeats 4000000 in
theorem run_slot_Clear (ws : List Int) (fu slot : Int) (K : V → List Blk → Prop) (hK : K (.tup [.agg [.dat (.list .int) (clearS ⟨ws, fu⟩ slot).1.words, .dat .int (clearS ⟨ws, fu⟩ slot).1.fuel], .one (.dat .int (clearS ⟨ws, fu⟩ slot).2)]) []) : ∃ m, goD Γ_slot_Clear tab fn_slot_Clear 0 K m [.code (bodyOf fn_slot_Clear)] (initSt [.agg [.dat (.list .int) ws, .dat .int fu], .one (.dat .int slot)] []) := by
  refine ⟨1, ?_⟩
  rw [slot_Clear_w, slot_Clear_vc _ _ _ _ _ _ rfl _ rfl _ rfl _ rfl _ rfl]
  unfold clearS at hK
  refine ne_s (fun h => ?_) (fun h => ?_)
  · rw [if_neg h] at hK; exact hK
  rw [if_pos h] at hK
  obtain ⟨h1, h2, h3⟩ := checkSlot_ok h
  obtain ⟨c1, c2, c3, c4⟩ := checkFlash_ok h1
  simp only at c2 c3 h2
  rw [w64_id (n := 2 * slot) (by omega) (by omega), w64_id (n := 2 + 2 * slot) (by omega) (by omega), w64_id (n := 3 + 2 * slot) (by omega) (by omega)]
  unfold clearCh at hK
  rw [doCh_append] at hK
  have hf := doCh_fuel ⟨ws, fu⟩ (wipeCh (2 + 2 * slot)) c2 c3
  have hl := doCh_len ⟨ws, fu⟩ (wipeCh (2 + 2 * slot))
  simp only [len] at hl ⊢
  refine ⟨by omega, ⟨c2, c3, by omega, by omega, by omega⟩, nt_s (fun h5 => ?_) (fun h5 => ⟨⟨hf.1, hf.2, by omega, by omega, by omega⟩, nt_s (fun h6 => ?_) (fun h6 => ?_)⟩)⟩
  · rw [if_neg (by simp [h5])] at hK
    simp only [power, powerE, h5] at hK; exact hK
  · rw [if_pos h5] at hK
    simp only [power, powerE, h6] at hK; exact hK
  · rw [if_pos h5] at hK
    simp only [power, powerE, h6] at hK; exact hK
theorem sound_slot_Clear : SoundC Try.prog tab n_slot_Clear c_slot_Clear := soundC_of ok_slot_Clear hf_slot_Clear hB_slot_Clear (by
  intro vs bs p v bs' h hp
  unfold c_slot_Clear at h
  split at h
  · cases h
    exact ⟨by kernel_rfl, rfl, .inl (run_slot_Clear _ _ _ _ ⟨rfl, rfl⟩)⟩
  · cases h)

def c_slices_Repeat_Lint : Contract := fun vs bs => match vs, bs with
  | [.one (.dat (.list .int) [x]), .one (.dat .int n)], [] => some (some (0 ≤ n ∧ n ≤ 1000000), .one (.dat (.list .int) (zeros n.toNat x)), [])
  | _, _ => none
def Γ_slices_Repeat_Lint : Ctx := [(n_math_bits_Mul, c_math_bits_Mul)]
theorem ok_slices_Repeat_Lint : Ok Try.prog tab Γ_slices_Repeat_Lint := (ok_nil.consC hf_math_bits_Mul hB_math_bits_Mul sound_math_bits_Mul)
noncomputable def slices_Repeat_Lint_L0 : List It := [.inLoop [8, 7, 4] (Code.sub (bodyOf fn_slices_Repeat_Lint) [1, 1, 1, 1, 1, 1, 0, 0, 0]), .inBlock 0, .code (Code.sub (bodyOf fn_slices_Repeat_Lint) [1, 1, 1, 1, 1, 1, 1])]
def slices_Repeat_Lint_S0 (x0 : Int) (x1 : (List Int)) (x2 : (List Int)) : St := ⟨[(8, .one (.dat Ty.int x0)), (7, .one (.own 0)), (4, .one (.own 1))], [(0, .arr Ty.int x1), (1, .arr Ty.int x2)], 2⟩
theorem slices_Repeat_Lint_vc (x : Int) (n : Int) (rec : List It → St → Prop) (K : V → List Blk → Prop) v0 (hv0 : v0 = (u64w (((len (x :: [])) : Nat) : Int))) v1 (hv1 : v1 = (inU64 v0)) v2 (hv2 : v2 = (u64w n)) v3 (hv3 : v3 = (inU64 v2)) : segD Γ_slices_Repeat_Lint tab fn_slices_Repeat_Lint 0 K rec [.code (bodyOf fn_slices_Repeat_Lint)] (initSt [.one (.dat (Ty.list Ty.int) (x :: [])), .one (.dat Ty.int n)] []) = (
    br (lti n (0 : Int))
     (False)
     (((v1 = true) ∧ (v3 = true)) ∧
      (br (lti (0 : Int) ((v0 * v2) / two64))
       (False)
       (br (lti (9223372036854775807 : Int) ((v0 * v2) % two64))
         (False)
         ((((0 : Int) ≤ (w64 ((v0 * v2) % two64))) ∧ ((((w64 ((v0 * v2) % two64)) * ((8 : Nat) : Int)) ≤ (140737488355328 : Int)) ∧ ((w64 ((v0 * v2) % two64)) ≤ (140737488355328 : Int)))) ∧
          (rec slices_Repeat_Lint_L0 (slices_Repeat_Lint_S0 (((min (len (zeros (Int.toNat (w64 ((v0 * v2) % two64))) (Ty.dflt Ty.int))) (len (x :: []))) : Nat) : Int) (put (zeros (Int.toNat (w64 ((v0 * v2) % two64))) (Ty.dflt Ty.int)) 0 (slc (x :: []) 0 (min (len (zeros (Int.toNat (w64 ((v0 * v2) % two64))) (Ty.dflt Ty.int))) (len (x :: []))))) []))))))) := by subst hv3; subst hv2; subst hv1; subst hv0; kernel_rfl
theorem slices_Repeat_Lint_w (x : Int) (n : Int) (m : Nat) (K : V → List Blk → Prop) : goD Γ_slices_Repeat_Lint tab fn_slices_Repeat_Lint 0 K (m + 1) [.code (bodyOf fn_slices_Repeat_Lint)] (initSt [.one (.dat (Ty.list Ty.int) (x :: [])), .one (.dat Ty.int n)] []) = segD Γ_slices_Repeat_Lint tab fn_slices_Repeat_Lint 0 K (goD Γ_slices_Repeat_Lint tab fn_slices_Repeat_Lint 0 K m) [.code (bodyOf fn_slices_Repeat_Lint)] (initSt [.one (.dat (Ty.list Ty.int) (x :: [])), .one (.dat Ty.int n)] []) := rfl
theorem slices_Repeat_Lint_vc0 (x0 : Int) (x1 : (List Int)) (x2 : (List Int)) (rec : List It → St → Prop) (K : V → List Blk → Prop) : segD Γ_slices_Repeat_Lint tab fn_slices_Repeat_Lint 0 K rec (.code (Code.sub (bodyOf fn_slices_Repeat_Lint) [1, 1, 1, 1, 1, 1, 0, 0, 0]) :: slices_Repeat_Lint_L0) (slices_Repeat_Lint_S0 x0 x1 x2) = (
    br (lti x0 (((len x1) : Nat) : Int))
     ((((0 : Int) ≤ x0) ∧ ((x0 ≤ (((len x1) : Nat) : Int)) ∧ ((((len x1) : Nat) : Int) ≤ (((len x1) : Nat) : Int)))) ∧
      ((((0 : Int) ≤ (0 : Int)) ∧ (((0 : Int) ≤ x0) ∧ (x0 ≤ (((len x1) : Nat) : Int)))) ∧
      (((((Int.toNat (0 : Int)) + (Int.toNat (x0 - (0 : Int)))) ≤ (len x1)) ∧ (((Int.toNat x0) + (Int.toNat ((((len x1) : Nat) : Int) - x0))) ≤ (len x1))) ∧
      (rec slices_Repeat_Lint_L0 (slices_Repeat_Lint_S0 (w64 (x0 + (((min (Int.toNat ((((len x1) : Nat) : Int) - x0)) (len (slc x1 (Int.toNat (0 : Int)) ((Int.toNat (0 : Int)) + (Int.toNat (x0 - (0 : Int))))))) : Nat) : Int))) (put x1 (Int.toNat x0) (slc (slc x1 (Int.toNat (0 : Int)) ((Int.toNat (0 : Int)) + (Int.toNat (x0 - (0 : Int))))) 0 (min (Int.toNat ((((len x1) : Nat) : Int) - x0)) (len (slc x1 (Int.toNat (0 : Int)) ((Int.toNat (0 : Int)) + (Int.toNat (x0 - (0 : Int))))))))) x2)))))
     (K (.one (.dat (Ty.list Ty.int) x1)) [])) := by kernel_rfl
theorem slices_Repeat_Lint_w0 (x0 : Int) (x1 : (List Int)) (x2 : (List Int)) (m : Nat) (K : V → List Blk → Prop) : goD Γ_slices_Repeat_Lint tab fn_slices_Repeat_Lint 0 K (m + 1) slices_Repeat_Lint_L0 (slices_Repeat_Lint_S0 x0 x1 x2) = segD Γ_slices_Repeat_Lint tab fn_slices_Repeat_Lint 0 K (goD Γ_slices_Repeat_Lint tab fn_slices_Repeat_Lint 0 K m) (.code (Code.sub (bodyOf fn_slices_Repeat_Lint) [1, 1, 1, 1, 1, 1, 0, 0, 0]) :: slices_Repeat_Lint_L0) (slices_Repeat_Lint_S0 x0 x1 x2) := rfl

theorem u64w_id {n : Int} (h1 : 0 ≤ n) (h2 : n < 18446744073709551616) : u64w n = n := by
  unfold u64w; rw [IntKind.wrap_u64]; omega
theorem inU64_of {n : Int} (h1 : 0 ≤ n) (h2 : n < 18446744073709551616) : inU64 n = true := by simp [inU64, h1, h2]
theorem put_rep (x : Int) (n k j : Nat) : put (List.replicate k x ++ List.replicate (n - k) 0) k (List.replicate j x) = List.replicate (k + j) x ++ List.replicate (n - (k + j)) 0 := by
  unfold put
  rw [List.take_left' (by simp), List.length_replicate]
  rw [show List.drop (k + j) (List.replicate k x ++ List.replicate (n - k) (0 : Int)) = List.replicate (n - (k + j)) 0 from by
    rw [List.drop_append, List.drop_of_length_le (by simp)]
    simp
    omega]
  rw [List.replicate_append_replicate]
theorem loop_slices_Repeat_Lint (x : Int) (n : Nat) (hn : n ≤ 1000000) (K : V → List Blk → Prop) (hK : K (.one (.dat (.list .int) (zeros n x))) []) : ∀ (d k : Nat), n ≤ k + d → k ≤ n → (0 < n → 0 < k) →
    goD Γ_slices_Repeat_Lint tab fn_slices_Repeat_Lint 0 K (d + 1) slices_Repeat_Lint_L0 (slices_Repeat_Lint_S0 (k : Int) (List.replicate k x ++ List.replicate (n - k) 0) [])
  | 0, k, hd, hk, hp => by
    rw [slices_Repeat_Lint_w0, slices_Repeat_Lint_vc0 _ _ _ _ _]
    have e : k = n := by omega
    subst e
    refine lt_f (by simp [len]) ?_
    simpa [zeros] using hK
  | d + 1, k, hd, hk, hp => by
    rw [slices_Repeat_Lint_w0, slices_Repeat_Lint_vc0 _ _ _ _ _]
    have hl : len (List.replicate k x ++ List.replicate (n - k) (0 : Int)) = n := by simp [len]; omega
    rw [hl]
    by_cases c : k < n
    · refine lt_t (by omega) ⟨⟨by omega, by omega, by omega⟩, ⟨by omega, by omega, by omega⟩, ⟨by omega, by omega⟩, ?_⟩
      have e1 : slc (List.replicate k x ++ List.replicate (n - k) (0 : Int)) (Int.toNat 0) (Int.toNat 0 + Int.toNat ((k : Int) - 0)) = List.replicate k x := by
        rw [show Int.toNat 0 + Int.toNat ((k : Int) - 0) = k by omega]
        unfold slc
        rw [List.take_left' (by simp)]
        simp
      rw [e1]
      have e2 : len (List.replicate k x) = k := by simp [len]
      rw [e2]
      generalize hj : min (Int.toNat ((n : Int) - (k : Int))) k = j
      have hj' : j = min (n - k) k := by omega
      have e3 : slc (List.replicate k x) 0 j = List.replicate j x := by
        unfold slc
        rw [List.take_replicate]
        simp
        omega
      rw [e3, toNat_nat, put_rep x n k j, w64_id (by omega) (by omega), show (k : Int) + (j : Int) = ((k + j : Nat) : Int) by omega]
      exact loop_slices_Repeat_Lint x n hn K hK d (k + j) (by have := hp (by omega); omega) (by omega) (fun h => by have := hp h; omega)
    · have e : k = n := by omega
      subst e
      refine lt_f (by omega) ?_
      simpa [zeros] using hK
set_option maxHeartbeats 4000000 in
theorem run_slices_Repeat_Lint (x n : Int) (hp : 0 ≤ n ∧ n ≤ 1000000) (K : V → List Blk → Prop) (hK : K (.one (.dat (.list .int) (zeros n.toNat x))) []) : ∃ m, goD Γ_slices_Repeat_Lint tab fn_slices_Repeat_Lint 0 K m [.code (bodyOf fn_slices_Repeat_Lint)] (initSt [.one (.dat (.list .int) [x]), .one (.dat .int n)] []) := by
  obtain ⟨h1, h2⟩ := hp
  refine ⟨n.toNat + 2, ?_⟩
  rw [slices_Repeat_Lint_w, slices_Repeat_Lint_vc _ _ _ _ _ rfl _ rfl _ rfl _ rfl]
  have e1 : u64w (((len (x :: [])) : Nat) : Int) = 1 := by simp only [len, List.length_cons, List.length_nil]; exact u64w_id (by omega) (by omega)
  rw [e1, u64w_id (n := n) h1 (by omega), Int.one_mul]
  have e2 : n / two64 = 0 := by unfold two64; omega
  have e3 : n % two64 = n := by unfold two64; omega
  rw [e2, e3, w64_id (by omega) (by omega)]
  refine lt_f h1 ⟨⟨inU64_of (by omega) (by omega), inU64_of h1 (by omega)⟩, lt_f (by omega) (lt_f (by omega) ⟨⟨h1, by omega, by omega⟩, ?_⟩)⟩
  obtain ⟨k, rfl⟩ := Int.eq_ofNat_of_zero_le h1
  rw [toNat_nat] at hK ⊢
  have e4 : len (zeros k (Ty.dflt Ty.int)) = k := by simp [len, zeros]
  rw [e4]
  have := loop_slices_Repeat_Lint x k (by omega) K hK k (min k 1) (by omega) (by omega) (by omega)
  have e5 : put (zeros k (Ty.dflt Ty.int)) 0 (slc (x :: []) 0 (min k (len (x :: [])))) = List.replicate (min k 1) x ++ List.replicate (k - min k 1) 0 := by
    have h := put_rep x k 0 (min k 1)
    rw [Nat.zero_add] at h
    rw [← h]
    have : slc (x :: []) 0 (min k (len (x :: []))) = List.replicate (min k 1) x := by
      simp only [len, List.length_cons, List.length_nil, slc]
      cases k with
      | zero => simp
      | succ k => rw [show min (k + 1) (0 + 1) = 1 by omega]; rfl
    rw [this]
    rfl
  rw [e5, show min k (len (x :: [])) = min k 1 from rfl]
  exact this
theorem sound_slices_Repeat_Lint : SoundC Try.prog tab n_slices_Repeat_Lint c_slices_Repeat_Lint := soundC_of ok_slices_Repeat_Lint hf_slices_Repeat_Lint hB_slices_Repeat_Lint (by
  intro vs bs p v bs' h hp
  unfold c_slices_Repeat_Lint at h
  split at h
  · cases h
    exact ⟨by kernel_rfl, rfl, .inl (run_slices_Repeat_Lint _ _ hp.1 _ ⟨rfl, rfl⟩)⟩
  · cases h)

def c_flash_New : Contract := fun vs bs => match vs, bs with
  | [.one (.dat .int n)], [] => some (none, .tup [.agg [.dat (.list .int) (newFlash n).1.words, .dat .int (newFlash n).1.fuel], .one (.dat .int (newFlash n).2)], [])
  | _, _ => none
def Γ_flash_New : Ctx := [(n_slices_Repeat_Lint, c_slices_Repeat_Lint)]
theorem ok_flash_New : Ok Try.prog tab Γ_flash_New := (ok_nil.consC hf_slices_Repeat_Lint hB_slices_Repeat_Lint sound_slices_Repeat_Lint)
theorem flash_New_vc (n : Int) (rec : List It → St → Prop) (K : V → List Blk → Prop) : segD Γ_flash_New tab fn_flash_New 0 K rec [.code (bodyOf fn_flash_New)] (initSt [.one (.dat Ty.int n)] []) = (
    br (lti n (1 : Int))
     (K (.tup [.agg [.dat (Ty.list Ty.int) [], .dat Ty.int (0 : Int)], .one (.dat Ty.int (3 : Int))]) [])
     (br (lti (6 : Int) n)
       (K (.tup [.agg [.dat (Ty.list Ty.int) [], .dat Ty.int (0 : Int)], .one (.dat Ty.int (3 : Int))]) [])
       ((((0 : Int) ≤ (w64 (n * (32 : Int)))) ∧ ((w64 (n * (32 : Int))) ≤ (1000000 : Int))) ∧
        (K (.tup [.agg [.dat (Ty.list Ty.int) (zeros (Int.toNat (w64 (n * (32 : Int)))) (65535 : Int)), .dat Ty.int (-(1 : Int))], .one (.dat Ty.int (0 : Int))]) [])))) := by kernel_rfl
theorem flash_New_w (n : Int) (m : Nat) (K : V → List Blk → Prop) : goD Γ_flash_New tab fn_flash_New 0 K (m + 1) [.code (bodyOf fn_flash_New)] (initSt [.one (.dat Ty.int n)] []) = segD Γ_flash_New tab fn_flash_New 0 K (goD Γ_flash_New tab fn_flash_New 0 K m) [.code (bodyOf fn_flash_New)] (initSt [.one (.dat Ty.int n)] []) := rfl

set_option maxHeartbeats 4000000 in
theorem run_flash_New (n : Int) (K : V → List Blk → Prop) (hK : K (.tup [.agg [.dat (.list .int) (newFlash n).1.words, .dat .int (newFlash n).1.fuel], .one (.dat .int (newFlash n).2)]) []) : ∃ m, goD Γ_flash_New tab fn_flash_New 0 K m [.code (bodyOf fn_flash_New)] (initSt [.one (.dat .int n)] []) := by
  refine ⟨1, ?_⟩
  rw [flash_New_w, flash_New_vc _ _ _]
  unfold newFlash at hK
  refine lt_s (fun h => ?_) (fun h => lt_s (fun h2 => ?_) (fun h2 => ?_))
  · rw [if_neg (by omega)] at hK; exact hK
  · rw [if_neg (by omega)] at hK; exact hK
  · rw [if_pos ⟨h, h2⟩] at hK
    rw [w64_id (by omega) (by omega)]
    exact ⟨⟨by omega, by omega⟩, hK⟩
theorem sound_flash_New : SoundC Try.prog tab n_flash_New c_flash_New := soundC_of ok_flash_New hf_flash_New hB_flash_New (by
  intro vs bs p v bs' h hp
  unfold c_flash_New at h
  split at h
  · cases h
    exact ⟨by kernel_rfl, rfl, .inl (run_flash_New _ _ ⟨rfl, rfl⟩)⟩
  · cases h)

def c_slot_begin : Contract := fun vs bs => match vs, bs with
  | [.one (.dat .int slot)], [] => some (some (0 ≤ slot ∧ slot ≤ 1), .one (.dat .int (64 + 64 * slot)), [])
  | _, _ => none
def Γ_slot_begin : Ctx := []
theorem ok_slot_begin : Ok Try.prog tab Γ_slot_begin := ok_nil
theorem slot_begin_vc (slot : Int) (rec : List It → St → Prop) (K : V → List Blk → Prop) : segD Γ_slot_begin tab fn_slot_begin 0 K rec [.code (bodyOf fn_slot_begin)] (initSt [.one (.dat Ty.int slot)] []) = (
    K (.one (.dat Ty.int (w64 ((w64 ((2 : Int) + (w64 ((2 : Int) * slot)))) * (32 : Int))))) []) := by kernel_rfl
theorem slot_begin_w (slot : Int) (m : Nat) (K : V → List Blk → Prop) : goD Γ_slot_begin tab fn_slot_begin 0 K (m + 1) [.code (bodyOf fn_slot_begin)] (initSt [.one (.dat Ty.int slot)] []) = segD Γ_slot_begin tab fn_slot_begin 0 K (goD Γ_slot_begin tab fn_slot_begin 0 K m) [.code (bodyOf fn_slot_begin)] (initSt [.one (.dat Ty.int slot)] []) := rfl

set_option maxHeartbeats 4000000 in
theorem run_slot_begin (slot : Int) (hp : 0 ≤ slot ∧ slot ≤ 1) (K : V → List Blk → Prop) (hK : K (.one (.dat .int (64 + 64 * slot))) []) : ∃ m, goD Γ_slot_begin tab fn_slot_begin 0 K m [.code (bodyOf fn_slot_begin)] (initSt [.one (.dat .int slot)] []) := by
  refine ⟨1, ?_⟩
  rw [slot_begin_w, slot_begin_vc _ _ _]
  rw [w64_id (n := 2 * slot) (by omega) (by omega), w64_id (n := 2 + 2 * slot) (by omega) (by omega), w64_id (by omega) (by omega), show (2 + 2 * slot) * 32 = 64 + 64 * slot by omega]
  exact hK
theorem sound_slot_begin : SoundC Try.prog tab n_slot_begin c_slot_begin := soundC_of ok_slot_begin hf_slot_begin hB_slot_begin (by
  intro vs bs p v bs' h hp
  unfold c_slot_begin at h
  split at h
  · cases h
    exact ⟨by kernel_rfl, rfl, .inl (run_slot_begin _ hp.1 _ ⟨rfl, rfl⟩)⟩
  · cases h)

def c_flash_Program_1 : Contract := fun vs bs => match vs, bs with
  | [.one (.dat .int w)], [] => some (none, .one (.dat .bool (!okWord w)), [])
  | _, _ => none
def Γ_flash_Program_1 : Ctx := []
theorem ok_flash_Program_1 : Ok Try.prog tab Γ_flash_Program_1 := ok_nil
theorem flash_Program_1_vc (w : Int) (rec : List It → St → Prop) (K : V → List Blk → Prop) : segD Γ_flash_Program_1 tab fn_flash_Program_1 0 K rec [.code (bodyOf fn_flash_Program_1)] (initSt [.one (.dat Ty.int w)] []) = (
    br (lti w (0 : Int))
     (K (.one (.dat Ty.bool true)) [])
     (K (.one (.dat Ty.bool (lti (65535 : Int) w))) [])) := by kernel_rfl
theorem flash_Program_1_w (w : Int) (m : Nat) (K : V → List Blk → Prop) : goD Γ_flash_Program_1 tab fn_flash_Program_1 0 K (m + 1) [.code (bodyOf fn_flash_Program_1)] (initSt [.one (.dat Ty.int w)] []) = segD Γ_flash_Program_1 tab fn_flash_Program_1 0 K (goD Γ_flash_Program_1 tab fn_flash_Program_1 0 K m) [.code (bodyOf fn_flash_Program_1)] (initSt [.one (.dat Ty.int w)] []) := rfl

set_option maxHeartbeats 4000000 in
theorem run_flash_Program_1 (w : Int) (K : V → List Blk → Prop) (hK : K (.one (.dat .bool (!okWord w))) []) : ∃ m, goD Γ_flash_Program_1 tab fn_flash_Program_1 0 K m [.code (bodyOf fn_flash_Program_1)] (initSt [.one (.dat .int w)] []) := by
  refine ⟨1, ?_⟩
  rw [flash_Program_1_w, flash_Program_1_vc _ _ _]
  refine lt_s (fun h => ?_) (fun h => ?_)
  · rw [show (!okWord w) = true from by simp [okWord]; omega] at hK; exact hK
  · rw [show (!okWord w) = lti 65535 w from by simp [okWord, lti, h]; by_cases h2 : w ≤ 65535 <;> simp [h2] <;> omega] at hK; exact hK
theorem sound_flash_Program_1 : SoundC Try.prog tab n_flash_Program_1 c_flash_Program_1 := soundC_of ok_flash_Program_1 hf_flash_Program_1 hB_flash_Program_1 (by
  intro vs bs p v bs' h hp
  unfold c_flash_Program_1 at h
  split at h
  · cases h
    exact ⟨by kernel_rfl, rfl, .inl (run_flash_Program_1 _ _ ⟨rfl, rfl⟩)⟩
  · cases h)

def c_ref_IsWord : Contract := fun vs bs => match vs, bs with
  | [.one (.dat .int w)], [] => some (none, .one (.dat .bool (okWord w)), [])
  | _, _ => none
def Γ_ref_IsWord : Ctx := []
theorem ok_ref_IsWord : Ok Try.prog tab Γ_ref_IsWord := ok_nil
theorem ref_IsWord_vc (w : Int) (rec : List It → St → Prop) (K : V → List Blk → Prop) : segD Γ_ref_IsWord tab fn_ref_IsWord 0 K rec [.code (bodyOf fn_ref_IsWord)] (initSt [.one (.dat Ty.int w)] []) = (
    br (lei (0 : Int) w)
     (K (.one (.dat Ty.bool (lei w (65535 : Int)))) [])
     (K (.one (.dat Ty.bool false)) [])) := by kernel_rfl
theorem ref_IsWord_w (w : Int) (m : Nat) (K : V → List Blk → Prop) : goD Γ_ref_IsWord tab fn_ref_IsWord 0 K (m + 1) [.code (bodyOf fn_ref_IsWord)] (initSt [.one (.dat Ty.int w)] []) = segD Γ_ref_IsWord tab fn_ref_IsWord 0 K (goD Γ_ref_IsWord tab fn_ref_IsWord 0 K m) [.code (bodyOf fn_ref_IsWord)] (initSt [.one (.dat Ty.int w)] []) := rfl

set_option maxHeartbeats 4000000 in
theorem run_ref_IsWord (w : Int) (K : V → List Blk → Prop) (hK : K (.one (.dat .bool (okWord w))) []) : ∃ m, goD Γ_ref_IsWord tab fn_ref_IsWord 0 K m [.code (bodyOf fn_ref_IsWord)] (initSt [.one (.dat .int w)] []) := by
  refine ⟨1, ?_⟩
  rw [ref_IsWord_w, ref_IsWord_vc _ _ _]
  refine br_split (fun h => ?_) (fun h => ?_)
  · rw [show okWord w = lei w 65535 from by rw [lei_true] at h; simp [okWord, lei, h]] at hK; exact hK
  · rw [show okWord w = false from by rw [lei_false] at h; simp [okWord]; omega] at hK; exact hK
theorem sound_ref_IsWord : SoundC Try.prog tab n_ref_IsWord c_ref_IsWord := soundC_of ok_ref_IsWord hf_ref_IsWord hB_ref_IsWord (by
  intro vs bs p v bs' h hp
  unfold c_ref_IsWord at h
  split at h
  · cases h
    exact ⟨by kernel_rfl, rfl, .inl (run_ref_IsWord _ _ ⟨rfl, rfl⟩)⟩
  · cases h)

def c_ref_allWords_1 : Contract := fun vs bs => match vs, bs with
  | [.one (.dat .int w)], [] => some (none, .one (.dat .bool (!okWord w)), [])
  | _, _ => none
def Γ_ref_allWords_1 : Ctx := [(n_ref_IsWord, c_ref_IsWord)]
theorem ok_ref_allWords_1 : Ok Try.prog tab Γ_ref_allWords_1 := (ok_nil.consC hf_ref_IsWord hB_ref_IsWord sound_ref_IsWord)
theorem ref_allWords_1_vc (w : Int) (rec : List It → St → Prop) (K : V → List Blk → Prop) v0 (hv0 : v0 = (okWord w)) : segD Γ_ref_allWords_1 tab fn_ref_allWords_1 0 K rec [.code (bodyOf fn_ref_allWords_1)] (initSt [.one (.dat Ty.int w)] []) = (
    K (.one (.dat Ty.bool (!v0))) []) := by subst hv0; kernel_rfl
theorem ref_allWords_1_w (w : Int) (m : Nat) (K : V → List Blk → Prop) : goD Γ_ref_allWords_1 tab fn_ref_allWords_1 0 K (m + 1) [.code (bodyOf fn_ref_allWords_1)] (initSt [.one (.dat Ty.int w)] []) = segD Γ_ref_allWords_1 tab fn_ref_allWords_1 0 K (goD Γ_ref_allWords_1 tab fn_ref_allWords_1 0 K m) [.code (bodyOf fn_ref_allWords_1)] (initSt [.one (.dat Ty.int w)] []) := rfl

set_option maxHeartbeats 4000000 in
theorem run_ref_allWords_1 (w : Int) (K : V → List Blk → Prop) (hK : K (.one (.dat .bool (!okWord w))) []) : ∃ m, goD Γ_ref_allWords_1 tab fn_ref_allWords_1 0 K m [.code (bodyOf fn_ref_allWords_1)] (initSt [.one (.dat .int w)] []) := by
  refine ⟨1, ?_⟩
  rw [ref_allWords_1_w, ref_allWords_1_vc _ _ _ _ rfl]
  exact hK
theorem sound_ref_allWords_1 : SoundC Try.prog tab n_ref_allWords_1 c_ref_allWords_1 := soundC_of ok_ref_allWords_1 hf_ref_allWords_1 hB_ref_allWords_1 (by
  intro vs bs p v bs' h hp
  unfold c_ref_allWords_1 at h
  split at h
  · cases h
    exact ⟨by kernel_rfl, rfl, .inl (run_ref_allWords_1 _ _ ⟨rfl, rfl⟩)⟩
  · cases h)

def c_slices_IndexFunc_Lint : Contract := fun vs bs => match vs, bs with
  | [.one (.dat (.list .int) l), .one (.fn f [])], [] => (match Nat.beq f n_flash_Program_1 with | true => some (some (Sm l), .one (.dat .int (firstBad l)), []) | false => (match Nat.beq f n_ref_allWords_1 with | true => some (some (Sm l), .one (.dat .int (firstBad l)), []) | false => none))
  | _, _ => none
def Γ_slices_IndexFunc_Lint : Ctx := [(n_flash_Program_1, c_flash_Program_1), (n_ref_allWords_1, c_ref_allWords_1)]
theorem ok_slices_IndexFunc_Lint : Ok Try.prog tab Γ_slices_IndexFunc_Lint := ((ok_nil.consC hf_ref_allWords_1 hB_ref_allWords_1 sound_ref_allWords_1).consC hf_flash_Program_1 hB_flash_Program_1 sound_flash_Program_1)
noncomputable def slices_IndexFunc_Lint_0_L0 : List It := [.inLoop [8, 7, 4, 0, 1] (Code.sub (bodyOf fn_slices_IndexFunc_Lint) [1, 0, 1, 0, 0]), .inBlock 0, .code (Code.sub (bodyOf fn_slices_IndexFunc_Lint) [1, 1])]
def slices_IndexFunc_Lint_0_S0 (x0 : Int) (x1 : Int) (x2 : Int) (x3 : (List Int)) : St := ⟨[(8, .one (.dat Ty.int x0)), (7, .one (.dat Ty.int x1)), (4, .one (.dat Ty.int x2)), (0, .one (.dat (Ty.list Ty.int) x3)), (1, .one (.fn n_flash_Program_1 []))], [], 0⟩
theorem slices_IndexFunc_Lint_0_vc (l : List Int) (rec : List It → St → Prop) (K : V → List Blk → Prop) : segD Γ_slices_IndexFunc_Lint tab fn_slices_IndexFunc_Lint 0 K rec [.code (bodyOf fn_slices_IndexFunc_Lint)] (initSt [.one (.dat (Ty.list Ty.int) l), .one (.fn n_flash_Program_1 [])] []) = (
    rec slices_IndexFunc_Lint_0_L0 (slices_IndexFunc_Lint_0_S0 (0 : Int) (((len l) : Nat) : Int) (0 : Int) l)) := by kernel_rfl
theorem slices_IndexFunc_Lint_0_w (l : List Int) (m : Nat) (K : V → List Blk → Prop) : goD Γ_slices_IndexFunc_Lint tab fn_slices_IndexFunc_Lint 0 K (m + 1) [.code (bodyOf fn_slices_IndexFunc_Lint)] (initSt [.one (.dat (Ty.list Ty.int) l), .one (.fn n_flash_Program_1 [])] []) = segD Γ_slices_IndexFunc_Lint tab fn_slices_IndexFunc_Lint 0 K (goD Γ_slices_IndexFunc_Lint tab fn_slices_IndexFunc_Lint 0 K m) [.code (bodyOf fn_slices_IndexFunc_Lint)] (initSt [.one (.dat (Ty.list Ty.int) l), .one (.fn n_flash_Program_1 [])] []) := rfl
theorem slices_IndexFunc_Lint_0_vc0 (x0 : Int) (x1 : Int) (x2 : Int) (x3 : (List Int)) (rec : List It → St → Prop) (K : V → List Blk → Prop) v0 (hv0 : v0 = (okWord (nth x3 (Int.toNat x0) (Ty.dflt Ty.int)))) : segD Γ_slices_IndexFunc_Lint tab fn_slices_IndexFunc_Lint 0 K rec (.code (Code.sub (bodyOf fn_slices_IndexFunc_Lint) [1, 0, 1, 0, 0]) :: slices_IndexFunc_Lint_0_L0) (slices_IndexFunc_Lint_0_S0 x0 x1 x2 x3) = (
    br (lti x0 x1)
     ((((0 : Int) ≤ x0) ∧ (x0 < (((len x3) : Nat) : Int))) ∧
      (br (!v0)
       (K (.one (.dat Ty.int x0)) [])
       (rec slices_IndexFunc_Lint_0_L0 (slices_IndexFunc_Lint_0_S0 (w64 (x0 + (1 : Int))) x1 x2 x3))))
     (K (.one (.dat Ty.int (-(1 : Int)))) [])) := by subst hv0; kernel_rfl
theorem slices_IndexFunc_Lint_0_w0 (x0 : Int) (x1 : Int) (x2 : Int) (x3 : (List Int)) (m : Nat) (K : V → List Blk → Prop) : goD Γ_slices_IndexFunc_Lint tab fn_slices_IndexFunc_Lint 0 K (m + 1) slices_IndexFunc_Lint_0_L0 (slices_IndexFunc_Lint_0_S0 x0 x1 x2 x3) = segD Γ_slices_IndexFunc_Lint tab fn_slices_IndexFunc_Lint 0 K (goD Γ_slices_IndexFunc_Lint tab fn_slices_IndexFunc_Lint 0 K m) (.code (Code.sub (bodyOf fn_slices_IndexFunc_Lint) [1, 0, 1, 0, 0]) :: slices_IndexFunc_Lint_0_L0) (slices_IndexFunc_Lint_0_S0 x0 x1 x2 x3) := rfl

noncomputable def slices_IndexFunc_Lint_1_L0 : List It := [.inLoop [8, 7, 4, 0, 1] (Code.sub (bodyOf fn_slices_IndexFunc_Lint) [1, 0, 1, 0, 0]), .inBlock 0, .code (Code.sub (bodyOf fn_slices_IndexFunc_Lint) [1, 1])]
def slices_IndexFunc_Lint_1_S0 (x0 : Int) (x1 : Int) (x2 : Int) (x3 : (List Int)) : St := ⟨[(8, .one (.dat Ty.int x0)), (7, .one (.dat Ty.int x1)), (4, .one (.dat Ty.int x2)), (0, .one (.dat (Ty.list Ty.int) x3)), (1, .one (.fn n_ref_allWords_1 []))], [], 0⟩
theorem slices_IndexFunc_Lint_1_vc (l : List Int) (rec : List It → St → Prop) (K : V → List Blk → Prop) : segD Γ_slices_IndexFunc_Lint tab fn_slices_IndexFunc_Lint 0 K rec [.code (bodyOf fn_slices_IndexFunc_Lint)] (initSt [.one (.dat (Ty.list Ty.int) l), .one (.fn n_ref_allWords_1 [])] []) = (
    rec slices_IndexFunc_Lint_1_L0 (slices_IndexFunc_Lint_1_S0 (0 : Int) (((len l) : Nat) : Int) (0 : Int) l)) := by kernel_rfl
theorem slices_IndexFunc_Lint_1_w (l : List Int) (m : Nat) (K : V → List Blk → Prop) : goD Γ_slices_IndexFunc_Lint tab fn_slices_IndexFunc_Lint 0 K (m + 1) [.code (bodyOf fn_slices_IndexFunc_Lint)] (initSt [.one (.dat (Ty.list Ty.int) l), .one (.fn n_ref_allWords_1 [])] []) = segD Γ_slices_IndexFunc_Lint tab fn_slices_IndexFunc_Lint 0 K (goD Γ_slices_IndexFunc_Lint tab fn_slices_IndexFunc_Lint 0 K m) [.code (bodyOf fn_slices_IndexFunc_Lint)] (initSt [.one (.dat (Ty.list Ty.int) l), .one (.fn n_ref_allWords_1 [])] []) := rfl
theorem slices_IndexFunc_Lint_1_vc0 (x0 : Int) (x1 : Int) (x2 : Int) (x3 : (List Int)) (rec : List It → St → Prop) (K : V → List Blk → Prop) v0 (hv0 : v0 = (okWord (nth x3 (Int.toNat x0) (Ty.dflt Ty.int)))) : segD Γ_slices_IndexFunc_Lint tab fn_slices_IndexFunc_Lint 0 K rec (.code (Code.sub (bodyOf fn_slices_IndexFunc_Lint) [1, 0, 1, 0, 0]) :: slices_IndexFunc_Lint_1_L0) (slices_IndexFunc_Lint_1_S0 x0 x1 x2 x3) = (
    br (lti x0 x1)
     ((((0 : Int) ≤ x0) ∧ (x0 < (((len x3) : Nat) : Int))) ∧
      (br (!v0)
       (K (.one (.dat Ty.int x0)) [])
       (rec slices_IndexFunc_Lint_1_L0 (slices_IndexFunc_Lint_1_S0 (w64 (x0 + (1 : Int))) x1 x2 x3))))
     (K (.one (.dat Ty.int (-(1 : Int)))) [])) := by subst hv0; kernel_rfl
theorem slices_IndexFunc_Lint_1_w0 (x0 : Int) (x1 : Int) (x2 : Int) (x3 : (List Int)) (m : Nat) (K : V → List Blk → Prop) : goD Γ_slices_IndexFunc_Lint tab fn_slices_IndexFunc_Lint 0 K (m + 1) slices_IndexFunc_Lint_1_L0 (slices_IndexFunc_Lint_1_S0 x0 x1 x2 x3) = segD Γ_slices_IndexFunc_Lint tab fn_slices_IndexFunc_Lint 0 K (goD Γ_slices_IndexFunc_Lint tab fn_slices_IndexFunc_Lint 0 K m) (.code (Code.sub (bodyOf fn_slices_IndexFunc_Lint) [1, 0, 1, 0, 0]) :: slices_IndexFunc_Lint_1_L0) (slices_IndexFunc_Lint_1_S0 x0 x1 x2 x3) := rfl

theorem loop_slices_IndexFunc_Lint_0 (l : List Int) (hs : Sm l) (K : V → List Blk → Prop) : ∀ (d k : Nat), k + d = l.length → K (.one (.dat .int (firstBadFrom k (l.drop k)))) [] →
    goD Γ_slices_IndexFunc_Lint tab fn_slices_IndexFunc_Lint 0 K (d + 1) slices_IndexFunc_Lint_0_L0 (slices_IndexFunc_Lint_0_S0 (k : Int) (((len l) : Nat) : Int) 0 l)
  | 0, k, hk, hK => by
    rw [slices_IndexFunc_Lint_0_w0, slices_IndexFunc_Lint_0_vc0 _ _ _ _ _ _ _ rfl]
    refine lt_f (by simp only [len]; omega) ?_
    rw [List.drop_of_length_le (by omega)] at hK
    exact hK
  | d + 1, k, hk, hK => by
    have hs' := hs
    unfold Sm at hs'
    rw [slices_IndexFunc_Lint_0_w0, slices_IndexFunc_Lint_0_vc0 _ _ _ _ _ _ _ rfl]
    rw [drop_step (by omega) (Ty.dflt Ty.int)] at hK
    simp only [firstBadFrom] at hK
    refine lt_t (by simp only [len]; omega) ⟨⟨by omega, by simp only [len]; omega⟩, nt_s (fun h => ?_) (fun h => ?_)⟩
    · rw [toNat_nat] at h
      rw [if_neg (by rw [h]; simp)] at hK
      exact hK
    · rw [toNat_nat] at h
      rw [if_pos h] at hK
      rw [w64_succ (by omega)]
      exact loop_slices_IndexFunc_Lint_0 l hs K d (k + 1) (by omega) hK
set_option maxHeartbeats 4000000 in
theorem run_slices_IndexFunc_Lint_0 (l : List Int) (hp : Sm l) (K : V → List Blk → Prop) (hK : K (.one (.dat .int (firstBad l))) []) : ∃ m, goD Γ_slices_IndexFunc_Lint tab fn_slices_IndexFunc_Lint 0 K m [.code (bodyOf fn_slices_IndexFunc_Lint)] (initSt [.one (.dat (.list .int) l), .one (.fn n_flash_Program_1 [])] []) := by
  refine ⟨l.length + 2, ?_⟩
  rw [slices_IndexFunc_Lint_0_w, slices_IndexFunc_Lint_0_vc _ _ _]
  exact loop_slices_IndexFunc_Lint_0 l hp K l.length 0 (by omega) hK
theorem loop_slices_IndexFunc_Lint_1 (l : List Int) (hs : Sm l) (K : V → List Blk → Prop) : ∀ (d k : Nat), k + d = l.length → K (.one (.dat .int (firstBadFrom k (l.drop k)))) [] →
    goD Γ_slices_IndexFunc_Lint tab fn_slices_IndexFunc_Lint 0 K (d + 1) slices_IndexFunc_Lint_1_L0 (slices_IndexFunc_Lint_1_S0 (k : Int) (((len l) : Nat) : Int) 0 l)
  | 0, k, hk, hK => by
    rw [slices_IndexFunc_Lint_1_w0, slices_IndexFunc_Lint_1_vc0 _ _ _ _ _ _ _ rfl]
    refine lt_f (by simp only [len]; omega) ?_
    rw [List.drop_of_length_le (by omega)] at hK
    exact hK
  | d + 1, k, hk, hK => by
    have hs' := hs
    unfold Sm at hs'
    rw [slices_IndexFunc_Lint_1_w0, slices_IndexFunc_Lint_1_vc0 _ _ _ _ _ _ _ rfl]
    rw [drop_step (by omega) (Ty.dflt Ty.int)] at hK
    simp only [firstBadFrom] at hK
    refine lt_t (by simp only [len]; omega) ⟨⟨by omega, by simp only [len]; omega⟩, nt_s (fun h => ?_) (fun h => ?_)⟩
    · rw [toNat_nat] at h
      rw [if_neg (by rw [h]; simp)] at hK
      exact hK
    · rw [toNat_nat] at h
      rw [if_pos h] at hK
      rw [w64_succ (by omega)]
      exact loop_slices_IndexFunc_Lint_1 l hs K d (k + 1) (by omega) hK
set_option maxHeartbeats 4000000 in
theorem run_slices_IndexFunc_Lint_1 (l : List Int) (hp : Sm l) (K : V → List Blk → Prop) (hK : K (.one (.dat .int (firstBad l))) []) : ∃ m, goD Γ_slices_IndexFunc_Lint tab fn_slices_IndexFunc_Lint 0 K m [.code (bodyOf fn_slices_IndexFunc_Lint)] (initSt [.one (.dat (.list .int) l), .one (.fn n_ref_allWords_1 [])] []) := by
  refine ⟨l.length + 2, ?_⟩
  rw [slices_IndexFunc_Lint_1_w, slices_IndexFunc_Lint_1_vc _ _ _]
  exact loop_slices_IndexFunc_Lint_1 l hp K l.length 0 (by omega) hK
theorem sound_slices_IndexFunc_Lint : SoundC Try.prog tab n_slices_IndexFunc_Lint c_slices_IndexFunc_Lint := soundC_of ok_slices_IndexFunc_Lint hf_slices_IndexFunc_Lint hB_slices_IndexFunc_Lint (by
  intro vs bs p v bs' h hp
  unfold c_slices_IndexFunc_Lint at h
  split at h
  · split at h
    · rename_i hfn
      have hfn := Nat.eq_of_beq_eq_true hfn
      subst hfn
      cases h
      exact ⟨by kernel_rfl, rfl, .inl (run_slices_IndexFunc_Lint_0 _ hp.1 _ ⟨rfl, rfl⟩)⟩
    · split at h
      · rename_i hfn
        have hfn := Nat.eq_of_beq_eq_true hfn
        subst hfn
        cases h
        exact ⟨by kernel_rfl, rfl, .inl (run_slices_IndexFunc_Lint_1 _ hp.1 _ ⟨rfl, rfl⟩)⟩
      · cases h
  · cases h)

def c_slices_ContainsFunc_Lint : Contract := fun vs bs => match vs, bs with
  | [.one (.dat (.list .int) l), .one (.fn f [])], [] => (match Nat.beq f n_flash_Program_1 with | true => some (some (Sm l), .one (.dat .bool (!okWords l)), []) | false => (match Nat.beq f n_ref_allWords_1 with | true => some (some (Sm l), .one (.dat .bool (!okWords l)), []) | false => none))
  | _, _ => none
def Γ_slices_ContainsFunc_Lint : Ctx := [(n_slices_IndexFunc_Lint, c_slices_IndexFunc_Lint), (n_flash_Program_1, c_flash_Program_1), (n_ref_allWords_1, c_ref_allWords_1)]
theorem ok_slices_ContainsFunc_Lint : Ok Try.prog tab Γ_slices_ContainsFunc_Lint := (((ok_nil.consC hf_ref_allWords_1 hB_ref_allWords_1 sound_ref_allWords_1).consC hf_flash_Program_1 hB_flash_Program_1 sound_flash_Program_1).consC hf_slices_IndexFunc_Lint hB_slices_IndexFunc_Lint sound_slices_IndexFunc_Lint)
theorem slices_ContainsFunc_Lint_0_vc (l : List Int) (rec : List It → St → Prop) (K : V → List Blk → Prop) v0 (hv0 : v0 = (firstBad l)) : segD Γ_slices_ContainsFunc_Lint tab fn_slices_ContainsFunc_Lint 0 K rec [.code (bodyOf fn_slices_ContainsFunc_Lint)] (initSt [.one (.dat (Ty.list Ty.int) l), .one (.fn n_flash_Program_1 [])] []) = (
    ((List.length l) ≤ 140737488355328) ∧
    (K (.one (.dat Ty.bool (lei (0 : Int) v0))) [])) := by subst hv0; kernel_rfl
theorem slices_ContainsFunc_Lint_0_w (l : List Int) (m : Nat) (K : V → List Blk → Prop) : goD Γ_slices_ContainsFunc_Lint tab fn_slices_ContainsFunc_Lint 0 K (m + 1) [.code (bodyOf fn_slices_ContainsFunc_Lint)] (initSt [.one (.dat (Ty.list Ty.int) l), .one (.fn n_flash_Program_1 [])] []) = segD Γ_slices_ContainsFunc_Lint tab fn_slices_ContainsFunc_Lint 0 K (goD Γ_slices_ContainsFunc_Lint tab fn_slices_ContainsFunc_Lint 0 K m) [.code (bodyOf fn_slices_ContainsFunc_Lint)] (initSt [.one (.dat (Ty.list Ty.int) l), .one (.fn n_flash_Program_1 [])] []) := rfl

theorem slices_ContainsFunc_Lint_1_vc (l : List Int) (rec : List It → St → Prop) (K : V → List Blk → Prop) v0 (hv0 : v0 = (firstBad l)) : segD Γ_slices_ContainsFunc_Lint tab fn_slices_ContainsFunc_Lint 0 K rec [.code (bodyOf fn_slices_ContainsFunc_Lint)] (initSt [.one (.dat (Ty.list Ty.int) l), .one (.fn n_ref_allWords_1 [])] []) = (
    ((List.length l) ≤ 140737488355328) ∧
    (K (.one (.dat Ty.bool (lei (0 : Int) v0))) [])) := by subst hv0; kernel_rfl
theorem slices_ContainsFunc_Lint_1_w (l : List Int) (m : Nat) (K : V → List Blk → Prop) : goD Γ_slices_ContainsFunc_Lint tab fn_slices_ContainsFunc_Lint 0 K (m + 1) [.code (bodyOf fn_slices_ContainsFunc_Lint)] (initSt [.one (.dat (Ty.list Ty.int) l), .one (.fn n_ref_allWords_1 [])] []) = segD Γ_slices_ContainsFunc_Lint tab fn_slices_ContainsFunc_Lint 0 K (goD Γ_slices_ContainsFunc_Lint tab fn_slices_ContainsFunc_Lint 0 K m) [.code (bodyOf fn_slices_ContainsFunc_Lint)] (initSt [.one (.dat (Ty.list Ty.int) l), .one (.fn n_ref_allWords_1 [])] []) := rfl

theorem firstBad_slices_ContainsFunc_Lint : ∀ (l : List Int) (k : Int), 0 ≤ k → lei 0 (firstBadFrom k l) = !okWords l
  | [], k, hk => by simp [firstBadFrom, okWords, lei]
  | w :: l, k, hk => by
    simp only [firstBadFrom, okWords, List.all_cons]
    cases h : okWord w with
    | true => simpa [okWords] using firstBad_slices_ContainsFunc_Lint l (k + 1) (by omega)
    | false => simp [lei, hk]
set_option maxHeartbeats 4000000 in
theorem run_slices_ContainsFunc_Lint_0 (l : List Int) (hp : Sm l) (K : V → List Blk → Prop) (hK : K (.one (.dat .bool (!okWords l))) []) : ∃ m, goD Γ_slices_ContainsFunc_Lint tab fn_slices_ContainsFunc_Lint 0 K m [.code (bodyOf fn_slices_ContainsFunc_Lint)] (initSt [.one (.dat (.list .int) l), .one (.fn n_flash_Program_1 [])] []) := by
  refine ⟨1, ?_⟩
  rw [slices_ContainsFunc_Lint_0_w, slices_ContainsFunc_Lint_0_vc _ _ _ _ rfl]
  refine ⟨hp, ?_⟩
  rw [show lei 0 (firstBad l) = !okWords l from firstBad_slices_ContainsFunc_Lint l 0 (by omega)]
  exact hK
set_option maxHeartbeats 4000000 in
theorem run_slices_ContainsFunc_Lint_1 (l : List Int) (hp : Sm l) (K : V → List Blk → Prop) (hK : K (.one (.dat .bool (!okWords l))) []) : ∃ m, goD Γ_slices_ContainsFunc_Lint tab fn_slices_ContainsFunc_Lint 0 K m [.code (bodyOf fn_slices_ContainsFunc_Lint)] (initSt [.one (.dat (.list .int) l), .one (.fn n_ref_allWords_1 [])] []) := by
  refine ⟨1, ?_⟩
  rw [slices_ContainsFunc_Lint_1_w, slices_ContainsFunc_Lint_1_vc _ _ _ _ rfl]
  refine ⟨hp, ?_⟩
  rw [show lei 0 (firstBad l) = !okWords l from firstBad_slices_ContainsFunc_Lint l 0 (by omega)]
  exact hK
theorem sound_slices_ContainsFunc_Lint : SoundC Try.prog tab n_slices_ContainsFunc_Lint c_slices_ContainsFunc_Lint := soundC_of ok_slices_ContainsFunc_Lint hf_slices_ContainsFunc_Lint hB_slices_ContainsFunc_Lint (by
  intro vs bs p v bs' h hp
  unfold c_slices_ContainsFunc_Lint at h
  split at h
  · split at h
    · rename_i hfn
      have hfn := Nat.eq_of_beq_eq_true hfn
      subst hfn
      cases h
      exact ⟨by kernel_rfl, rfl, .inl (run_slices_ContainsFunc_Lint_0 _ hp.1 _ ⟨rfl, rfl⟩)⟩
    · split at h
      · rename_i hfn
        have hfn := Nat.eq_of_beq_eq_true hfn
        subst hfn
        cases h
        exact ⟨by kernel_rfl, rfl, .inl (run_slices_ContainsFunc_Lint_1 _ hp.1 _ ⟨rfl, rfl⟩)⟩
      · cases h
  · cases h)

def c_flash_Burn : Contract := fun vs bs => match vs, bs with
  | [.one (.ptr 0 0), .one (.dat .int at_), .one (.dat (.list .int) l)], [.box [.own 1, .dat .int fu], .arr .int ws] => some (some (-1 ≤ fu ∧ fu ≤ 100000 ∧ 0 ≤ at_ ∧ at_ + (len l : Nat) ≤ (len ws : Nat) ∧ len ws ≤ 192), .one (.dat .bool (doCh ⟨ws, fu⟩ (burnCh at_ l)).2), [.box [.own 1, .dat .int (doCh ⟨ws, fu⟩ (burnCh at_ l)).1.fuel], .arr .int (doCh ⟨ws, fu⟩ (burnCh at_ l)).1.words])
  | _, _ => none
def Γ_flash_Burn : Ctx := [(n_flash_burn, c_flash_burn)]
theorem ok_flash_Burn : Ok Try.prog tab Γ_flash_Burn := (ok_nil.consC hf_flash_burn hB_flash_burn sound_flash_burn)
noncomputable def flash_Burn_L0 : List It := [.inLoop [11, 10, 9, 6, 0, 1] (Code.sub (bodyOf fn_flash_Burn) [1, 0, 1, 0, 0]), .inBlock 0, .code (Code.sub (bodyOf fn_flash_Burn) [1, 1])]
def flash_Burn_S0 (x0 : Int) (x1 : Int) (x2 : (List Int)) (x3 : Bool) (x4 : Int) (x5 : Int) (x6 : (List Int)) : St := ⟨[(11, .one (.dat Ty.int x0)), (10, .one (.dat Ty.int x1)), (9, .one (.dat (Ty.list Ty.int) x2)), (6, .one (.dat Ty.bool x3)), (0, .one (.ptr 0 0)), (1, .one (.dat Ty.int x4))], [(0, .box [.own 1, .dat Ty.int x5]), (1, .arr Ty.int x6)], 2⟩
theorem flash_Burn_vc (ws : List Int) (fu : Int) (at_ : Int) (l : List Int) (rec : List It → St → Prop) (K : V → List Blk → Prop) : segD Γ_flash_Burn tab fn_flash_Burn 2 K rec [.code (bodyOf fn_flash_Burn)] (initSt [.one (.ptr 0 0), .one (.dat Ty.int at_), .one (.dat (Ty.list Ty.int) l)] [.box [.own 1, .dat Ty.int fu], .arr Ty.int ws]) = (
    rec flash_Burn_L0 (flash_Burn_S0 (0 : Int) (((len l) : Nat) : Int) l false at_ fu ws)) := by kernel_rfl
theorem flash_Burn_w (ws : List Int) (fu : Int) (at_ : Int) (l : List Int) (m : Nat) (K : V → List Blk → Prop) : goD Γ_flash_Burn tab fn_flash_Burn 2 K (m + 1) [.code (bodyOf fn_flash_Burn)] (initSt [.one (.ptr 0 0), .one (.dat Ty.int at_), .one (.dat (Ty.list Ty.int) l)] [.box [.own 1, .dat Ty.int fu], .arr Ty.int ws]) = segD Γ_flash_Burn tab fn_flash_Burn 2 K (goD Γ_flash_Burn tab fn_flash_Burn 2 K m) [.code (bodyOf fn_flash_Burn)] (initSt [.one (.ptr 0 0), .one (.dat Ty.int at_), .one (.dat (Ty.list Ty.int) l)] [.box [.own 1, .dat Ty.int fu], .arr Ty.int ws]) := rfl
theorem flash_Burn_vc0 (x0 : Int) (x1 : Int) (x2 : (List Int)) (x3 : Bool) (x4 : Int) (x5 : Int) (x6 : (List Int)) (rec : List It → St → Prop) (K : V → List Blk → Prop) v0 (hv0 : v0 = (burnFuel x5)) : segD Γ_flash_Burn tab fn_flash_Burn 2 K rec (.code (Code.sub (bodyOf fn_flash_Burn) [1, 0, 1, 0, 0]) :: flash_Burn_L0) (flash_Burn_S0 x0 x1 x2 x3 x4 x5 x6) = (
    br (lti x0 x1)
     ((((0 : Int) ≤ x0) ∧ (x0 < (((len x2) : Nat) : Int))) ∧
      ((x5 ≤ (100000 : Int)) ∧
      (br (!(!(eqi x5 (0 : Int))))
       (K (.one (.dat Ty.bool false)) [.box [.own 1, .dat Ty.int v0], .arr Ty.int x6])
       ((((0 : Int) ≤ (w64 (x4 + x0))) ∧ ((w64 (x4 + x0)) < (((len x6) : Nat) : Int))) ∧
        (((Int.toNat (w64 (x4 + x0))) < (len x6)) ∧
        ((((0 : Int) ≤ (w64 (x4 + x0))) ∧ ((w64 (x4 + x0)) < (((len x6) : Nat) : Int))) ∧
        (((Int.toNat (w64 (x4 + x0))) < (len x6)) ∧
        (rec flash_Burn_L0 (flash_Burn_S0 (w64 (x0 + (1 : Int))) x1 x2 x3 x4 v0 (setAt x6 (Int.toNat (w64 (x4 + x0))) (andi (nth x6 (Int.toNat (w64 (x4 + x0))) (Ty.dflt Ty.int)) (nth x2 (Int.toNat x0) (Ty.dflt Ty.int)))))))))))))
     (K (.one (.dat Ty.bool true)) [.box [.own 1, .dat Ty.int x5], .arr Ty.int x6])) := by subst hv0; kernel_rfl
theorem flash_Burn_w0 (x0 : Int) (x1 : Int) (x2 : (List Int)) (x3 : Bool) (x4 : Int) (x5 : Int) (x6 : (List Int)) (m : Nat) (K : V → List Blk → Prop) : goD Γ_flash_Burn tab fn_flash_Burn 2 K (m + 1) flash_Burn_L0 (flash_Burn_S0 x0 x1 x2 x3 x4 x5 x6) = segD Γ_flash_Burn tab fn_flash_Burn 2 K (goD Γ_flash_Burn tab fn_flash_Burn 2 K m) (.code (Code.sub (bodyOf fn_flash_Burn) [1, 0, 1, 0, 0]) :: flash_Burn_L0) (flash_Burn_S0 x0 x1 x2 x3 x4 x5 x6) := rfl

theorem loop_flash_Burn (at_ : Int) (hs : 0 ≤ at_) (l : List Int) (K : V → List Blk → Prop) : ∀ (n : Nat) (k : Nat) (ws : List Int) (fu : Int), k + n = l.length → -1 ≤ fu → fu ≤ 100000 → at_ + (l.length : Nat) ≤ (ws.length : Nat) → ws.length ≤ 192 →
    K (.one (.dat .bool (doCh ⟨ws, fu⟩ (burnCh (at_ + k) (l.drop k))).2)) [.box [.own 1, .dat .int (doCh ⟨ws, fu⟩ (burnCh (at_ + k) (l.drop k))).1.fuel], .arr .int (doCh ⟨ws, fu⟩ (burnCh (at_ + k) (l.drop k))).1.words] →
    goD Γ_flash_Burn tab fn_flash_Burn 2 K (n + 1) flash_Burn_L0 (flash_Burn_S0 (k : Int) (((len l) : Nat) : Int) l false at_ fu ws)
  | 0, k, ws, fu, hk, h1, h2, h3, h4, hK => by
    rw [flash_Burn_w0, flash_Burn_vc0 _ _ _ _ _ _ _ _ _ _ rfl]
    refine lt_f (by simp only [len]; omega) ?_
    rw [List.drop_of_length_le (by omega)] at hK
    simp only [burnCh, doCh_nil] at hK
    exact hK
  | n + 1, k, ws, fu, hk, h1, h2, h3, h4, hK => by
    rw [flash_Burn_w0, flash_Burn_vc0 _ _ _ _ _ _ _ _ _ _ rfl]
    rw [w64_id (n := at_ + k) (by omega) (by omega)]
    rw [drop_step (by omega) (Ty.dflt Ty.int)] at hK
    simp only [burnCh, doCh_cons] at hK
    refine lt_t (by simp only [len]; omega) ⟨⟨by omega, by simp only [len]; omega⟩, h2, ?_⟩
    by_cases h0 : fu = 0
    · subst h0
      refine br_t (by simp [eqi]) ?_
      simp only [if_true] at hK
      exact hK
    · rw [if_neg h0] at hK
      refine br_f (by simp [eqi, h0]) ⟨⟨by omega, by simp only [len]; omega⟩, by simp only [len]; omega, ⟨by omega, by simp only [len]; omega⟩, by simp only [len]; omega, ?_⟩
      rw [w64_succ (by omega)]
      refine loop_flash_Burn at_ hs l K n (k + 1) _ _ (by omega) ?_ ?_ (by simpa [setAt] using h3) (by simpa [setAt] using h4) ?_
      · unfold burnFuel; split <;> omega
      · unfold burnFuel; split <;> omega
      · rw [show at_ + ((k + 1 : Nat) : Int) = at_ + k + 1 by omega]
        exact hK
set_option maxHeartbeats 4000000 in
theorem run_flash_Burn (ws : List Int) (fu at_ : Int) (l : List Int) (hp : -1 ≤ fu ∧ fu ≤ 100000 ∧ 0 ≤ at_ ∧ at_ + (len l : Nat) ≤ (len ws : Nat) ∧ len ws ≤ 192) (K : V → List Blk → Prop) (hK : K (.one (.dat .bool (doCh ⟨ws, fu⟩ (burnCh at_ l)).2)) [.box [.own 1, .dat .int (doCh ⟨ws, fu⟩ (burnCh at_ l)).1.fuel], .arr .int (doCh ⟨ws, fu⟩ (burnCh at_ l)).1.words]) : ∃ m, goD Γ_flash_Burn tab fn_flash_Burn 2 K m [.code (bodyOf fn_flash_Burn)] (initSt [.one (.ptr 0 0), .one (.dat .int at_), .one (.dat (.list .int) l)] [.box [.own 1, .dat .int fu], .arr .int ws]) := by
  obtain ⟨h1, h2, h3, h4, h5⟩ := hp
  refine ⟨l.length + 2, ?_⟩
  rw [flash_Burn_w, flash_Burn_vc _ _ _ _ _ _]
  exact loop_flash_Burn at_ h3 l K l.length 0 ws fu (by omega) h1 h2 h4 h5 (by simpa using hK)
theorem sound_flash_Burn : SoundC Try.prog tab n_flash_Burn c_flash_Burn := soundC_of ok_flash_Burn hf_flash_Burn hB_flash_Burn (by
  intro vs bs p v bs' h hp
  unfold c_flash_Burn at h
  split at h
  · cases h
    exact ⟨by kernel_rfl, rfl, .inl (run_flash_Burn _ _ _ _ hp.1 _ ⟨rfl, rfl⟩)⟩
  · cases h)

def c_flash_Program : Contract := fun vs bs => match vs, bs with
  | [.agg [.dat (.list .int) ws, .dat .int fu], .one (.dat .int at_), .one (.dat (.list .int) l)], [] => some (some (Sm l), .tup [.agg [.dat (.list .int) (programF ⟨ws, fu⟩ at_ l).1.words, .dat .int (programF ⟨ws, fu⟩ at_ l).1.fuel], .one (.dat .int (programF ⟨ws, fu⟩ at_ l).2)], [])
  | _, _ => none
def Γ_flash_Program : Ctx := [(n_flash_Check, c_flash_Check), (n_slices_ContainsFunc_Lint, c_slices_ContainsFunc_Lint), (n_flash_Copy, c_flash_Copy), (n_flash_Burn, c_flash_Burn)]
theorem ok_flash_Program : Ok Try.prog tab Γ_flash_Program := ((((ok_nil.consC hf_flash_Burn hB_flash_Burn sound_flash_Burn).consC hf_flash_Copy hB_flash_Copy sound_flash_Copy).consC hf_slices_ContainsFunc_Lint hB_slices_ContainsFunc_Lint sound_slices_ContainsFunc_Lint).consC hf_flash_Check hB_flash_Check sound_flash_Check)
theorem flash_Program_vc (ws : List Int) (fu : Int) (at_ : Int) (l : List Int) (rec : List It → St → Prop) (K : V → List Blk → Prop) v0 (hv0 : v0 = (checkFlash ⟨ws, fu⟩)) v1 (hv1 : v1 = (okWords l)) v2 (hv2 : v2 = (burnCh at_ l)) v3 (hv3 : v3 = (doCh ⟨ws, fu⟩ v2)) : segD Γ_flash_Program tab fn_flash_Program 0 K rec [.code (bodyOf fn_flash_Program)] (initSt [.agg [.dat (Ty.list Ty.int) ws, .dat Ty.int fu], .one (.dat Ty.int at_), .one (.dat (Ty.list Ty.int) l)] []) = (
    br (!(eqi v0 (0 : Int)))
     (K (.tup [.agg [.dat (Ty.list Ty.int) [], .dat Ty.int (0 : Int)], .one (.dat Ty.int v0)]) [])
     (br (lti at_ (0 : Int))
       (K (.tup [.agg [.dat (Ty.list Ty.int) [], .dat Ty.int (0 : Int)], .one (.dat Ty.int (5 : Int))]) [])
       (br (lti (((len ws) : Nat) : Int) at_)
         (K (.tup [.agg [.dat (Ty.list Ty.int) [], .dat Ty.int (0 : Int)], .one (.dat Ty.int (5 : Int))]) [])
         (br (lti (w64 ((((len ws) : Nat) : Int) - at_)) (((len l) : Nat) : Int))
           (K (.tup [.agg [.dat (Ty.list Ty.int) [], .dat Ty.int (0 : Int)], .one (.dat Ty.int (5 : Int))]) [])
           (((List.length l) ≤ 140737488355328) ∧
            (br (!v1)
             (K (.tup [.agg [.dat (Ty.list Ty.int) [], .dat Ty.int (0 : Int)], .one (.dat Ty.int (3 : Int))]) [])
             ((((len ws) * 8) ≤ 140737488355328) ∧
              ((((-(1 : Int)) ≤ fu) ∧ ((fu ≤ (100000 : Int)) ∧ (((0 : Int) ≤ at_) ∧ (((at_ + (((len l) : Nat) : Int)) ≤ (((len ws) : Nat) : Int)) ∧ ((len ws) ≤ 192))))) ∧
              (br (!(v3).snd)
               (K (.tup [.agg [.dat (Ty.list Ty.int) ((v3).fst).words, .dat Ty.int ((v3).fst).fuel], .one (.dat Ty.int (7 : Int))]) [])
               (K (.tup [.agg [.dat (Ty.list Ty.int) ((v3).fst).words, .dat Ty.int ((v3).fst).fuel], .one (.dat Ty.int (0 : Int))]) [])))))))))) := by subst hv3; subst hv2; subst hv1; subst hv0; kernel_rfl
theorem flash_Program_w (ws : List Int) (fu : Int) (at_ : Int) (l : List Int) (m : Nat) (K : V → List Blk → Prop) : goD Γ_flash_Program tab fn_flash_Program 0 K (m + 1) [.code (bodyOf fn_flash_Program)] (initSt [.agg [.dat (Ty.list Ty.int) ws, .dat Ty.int fu], .one (.dat Ty.int at_), .one (.dat (Ty.list Ty.int) l)] []) = segD Γ_flash_Program tab fn_flash_Program 0 K (goD Γ_flash_Program tab fn_flash_Program 0 K m) [.code (bodyOf fn_flash_Program)] (initSt [.agg [.dat (Ty.list Ty.int) ws, .dat Ty.int fu], .one (.dat Ty.int at_), .one (.dat (Ty.list Ty.int) l)] []) := rfl

set_option maxHeartbeats 4000000 in
theorem run_flash_Program (ws : List Int) (fu at_ : Int) (l : List Int) (hp : Sm l) (K : V → List Blk → Prop) (hK : K (.tup [.agg [.dat (.list .int) (programF ⟨ws, fu⟩ at_ l).1.words, .dat .int (programF ⟨ws, fu⟩ at_ l).1.fuel], .one (.dat .int (programF ⟨ws, fu⟩ at_ l).2)]) []) : ∃ m, goD Γ_flash_Program tab fn_flash_Program 0 K m [.code (bodyOf fn_flash_Program)] (initSt [.agg [.dat (.list .int) ws, .dat .int fu], .one (.dat .int at_), .one (.dat (.list .int) l)] []) := by
  refine ⟨1, ?_⟩
  rw [flash_Program_w, flash_Program_vc _ _ _ _ _ _ _ rfl _ rfl _ rfl _ rfl]
  unfold programF at hK
  refine ne_s (fun h => ?_) (fun h => ?_)
  · rw [if_neg h] at hK; exact hK
  rw [if_pos h] at hK
  obtain ⟨c1, c2, c3, c4⟩ := checkFlash_ok h
  obtain ⟨c5, c6⟩ := okLen_le c1
  simp only at c2 c3 c5 c6
  have five : ¬ (0 ≤ at_ ∧ at_ ≤ (ws.length : Int) ∧ (l.length : Int) ≤ ws.length - at_) → K (.tup [.agg [.dat (.list .int) [], .dat .int 0], .one (.dat .int 5)]) [] := fun hn => by
    rw [if_neg hn] at hK; exact hK
  simp only [len]
  refine lt_s (fun h1 => five (by omega)) (fun h1 => lt_s (fun h2 => five (by omega)) (fun h2 => ?_))
  rw [w64_id (by omega) (by omega)]
  refine lt_s (fun h3 => five (by omega)) (fun h3 => ⟨hp, nt_s (fun h4 => ?_) (fun h4 => ?_)⟩)
  · rw [if_pos ⟨h1, h2, h3⟩, if_neg (by rw [h4]; simp)] at hK; exact hK
  · rw [if_pos ⟨h1, h2, h3⟩, if_pos h4] at hK
    refine ⟨by omega, ⟨c2, c3, h1, by omega, by omega⟩, nt_s (fun h5 => ?_) (fun h5 => ?_)⟩
    · simp only [power, powerE, h5] at hK; exact hK
    · simp only [power, powerE, h5] at hK; exact hK
theorem sound_flash_Program : SoundC Try.prog tab n_flash_Program c_flash_Program := soundC_of ok_flash_Program hf_flash_Program hB_flash_Program (by
  intro vs bs p v bs' h hp
  unfold c_flash_Program at h
  split at h
  · cases h
    exact ⟨by kernel_rfl, rfl, .inl (run_flash_Program _ _ _ _ hp.1 _ ⟨rfl, rfl⟩)⟩
  · cases h)

def c_slot_Fill : Contract := fun vs bs => match vs, bs with
  | [.agg [.dat (.list .int) ws, .dat .int fu], .one (.dat .int slot), .one (.dat .int at_), .one (.dat (.list .int) l)], [] => some (some (Sm l), .tup [.agg [.dat (.list .int) (fillS ⟨ws, fu⟩ slot at_ l).1.words, .dat .int (fillS ⟨ws, fu⟩ slot at_ l).1.fuel], .one (.dat .int (fillS ⟨ws, fu⟩ slot at_ l).2)], [])
  | _, _ => none
def Γ_slot_Fill : Ctx := [(n_slot_check, c_slot_check), (n_slot_begin, c_slot_begin), (n_flash_Program, c_flash_Program)]
theorem ok_slot_Fill : Ok Try.prog tab Γ_slot_Fill := (((ok_nil.consC hf_flash_Program hB_flash_Program sound_flash_Program).consC hf_slot_begin hB_slot_begin sound_slot_begin).consC hf_slot_check hB_slot_check sound_slot_check)
theorem slot_Fill_vc (ws : List Int) (fu : Int) (slot : Int) (at_ : Int) (l : List Int) (rec : List It → St → Prop) (K : V → List Blk → Prop) v0 (hv0 : v0 = (checkSlot (⟨ws, fu⟩ : Flash) slot)) v1 (hv1 : v1 = (programF (⟨ws, fu⟩ : Flash) (w64 ((w64 (((64 : Int) + ((64 : Int) * slot)) + (4 : Int))) + at_)) l)) : segD Γ_slot_Fill tab fn_slot_Fill 0 K rec [.code (bodyOf fn_slot_Fill)] (initSt [.agg [.dat (Ty.list Ty.int) ws, .dat Ty.int fu], .one (.dat Ty.int slot), .one (.dat Ty.int at_), .one (.dat (Ty.list Ty.int) l)] []) = (
    br (!(eqi v0 (0 : Int)))
     (K (.tup [.agg [.dat (Ty.list Ty.int) [], .dat Ty.int (0 : Int)], .one (.dat Ty.int v0)]) [])
     (br (lti at_ (0 : Int))
       (K (.tup [.agg [.dat (Ty.list Ty.int) [], .dat Ty.int (0 : Int)], .one (.dat Ty.int (2 : Int))]) [])
       (br (lti (40 : Int) at_)
         (K (.tup [.agg [.dat (Ty.list Ty.int) [], .dat Ty.int (0 : Int)], .one (.dat Ty.int (2 : Int))]) [])
         (br (lti (w64 ((40 : Int) - at_)) (((len l) : Nat) : Int))
           (K (.tup [.agg [.dat (Ty.list Ty.int) [], .dat Ty.int (0 : Int)], .one (.dat Ty.int (2 : Int))]) [])
           ((((0 : Int) ≤ slot) ∧ (slot ≤ (1 : Int))) ∧
            (((List.length l) ≤ 140737488355328) ∧
            (K (.tup [.agg [.dat (Ty.list Ty.int) ((v1).fst).words, .dat Ty.int ((v1).fst).fuel], .one (.dat Ty.int (v1).snd)]) []))))))) := by subst hv1; subst hv0; kernel_rfl
theorem slot_Fill_w (ws : List Int) (fu : Int) (slot : Int) (at_ : Int) (l : List Int) (m : Nat) (K : V → List Blk → Prop) : goD Γ_slot_Fill tab fn_slot_Fill 0 K (m + 1) [.code (bodyOf fn_slot_Fill)] (initSt [.agg [.dat (Ty.list Ty.int) ws, .dat Ty.int fu], .one (.dat Ty.int slot), .one (.dat Ty.int at_), .one (.dat (Ty.list Ty.int) l)] []) = segD Γ_slot_Fill tab fn_slot_Fill 0 K (goD Γ_slot_Fill tab fn_slot_Fill 0 K m) [.code (bodyOf fn_slot_Fill)] (initSt [.agg [.dat (Ty.list Ty.int) ws, .dat Ty.int fu], .one (.dat Ty.int slot), .one (.dat Ty.int at_), .one (.dat (Ty.list Ty.int) l)] []) := rfl

set_option maxHeartbeats 4000000 in
theorem run_slot_Fill (ws : List Int) (fu slot at_ : Int) (l : List Int) (hp : Sm l) (K : V → List Blk → Prop) (hK : K (.tup [.agg [.dat (.list .int) (fillS ⟨ws, fu⟩ slot at_ l).1.words, .dat .int (fillS ⟨ws, fu⟩ slot at_ l).1.fuel], .one (.dat .int (fillS ⟨ws, fu⟩ slot at_ l).2)]) []) : ∃ m, goD Γ_slot_Fill tab fn_slot_Fill 0 K m [.code (bodyOf fn_slot_Fill)] (initSt [.agg [.dat (.list .int) ws, .dat .int fu], .one (.dat .int slot), .one (.dat .int at_), .one (.dat (.list .int) l)] []) := by
  refine ⟨1, ?_⟩
  rw [slot_Fill_w, slot_Fill_vc _ _ _ _ _ _ _ _ rfl _ rfl]
  unfold fillS at hK
  refine ne_s (fun h => ?_) (fun h => ?_)
  · rw [if_neg h] at hK; exact hK
  rw [if_pos h] at hK
  obtain ⟨h1, h2, h3⟩ := checkSlot_ok h
  simp only [len]
  refine lt_s (fun h4 => ?_) (fun h4 => lt_s (fun h5 => ?_) (fun h5 => ?_))
  · rw [if_neg (by omega)] at hK; exact hK
  · rw [if_neg (by omega)] at hK; exact hK
  rw [w64_id (n := 40 - at_) (by omega) (by omega)]
  refine lt_s (fun h6 => ?_) (fun h6 => ?_)
  · rw [if_neg (by omega)] at hK; exact hK
  rw [w64_id (n := 64 + 64 * slot + 4) (by omega) (by omega), w64_id (by omega) (by omega), show 64 + 64 * slot + 4 + at_ = 68 + 64 * slot + at_ by omega]
  rw [if_pos (by omega)] at hK
  exact ⟨by omega, hp, hK⟩
theorem sound_slot_Fill : SoundC Try.prog tab n_slot_Fill c_slot_Fill := soundC_of ok_slot_Fill hf_slot_Fill hB_slot_Fill (by
  intro vs bs p v bs' h hp
  unfold c_slot_Fill at h
  split at h
  · cases h
    exact ⟨by kernel_rfl, rfl, .inl (run_slot_Fill _ _ _ _ _ hp.1 _ ⟨rfl, rfl⟩)⟩
  · cases h)

def c_slot_Image : Contract := fun vs bs => match vs, bs with
  | [.agg [.dat (.list .int) ws, .dat .int fu], .one (.dat .int slot)], [] => some (none, .tup [.one (.dat (.list .int) (imageS ⟨ws, fu⟩ slot).1), .one (.dat .int (imageS ⟨ws, fu⟩ slot).2.1), .one (.dat .int (imageS ⟨ws, fu⟩ slot).2.2)], [])
  | _, _ => none
def Γ_slot_Image : Ctx := [(n_slot_check, c_slot_check), (n_slot_begin, c_slot_begin), (n_slices_Clone_Lint, c_slices_Clone_Lint)]
theorem ok_slot_Image : Ok Try.prog tab Γ_slot_Image := (((ok_nil.consC hf_slices_Clone_Lint hB_slices_Clone_Lint sound_slices_Clone_Lint).consC hf_slot_begin hB_slot_begin sound_slot_begin).consC hf_slot_check hB_slot_check sound_slot_check)
theorem slot_Image_vc (ws : List Int) (fu : Int) (slot : Int) (rec : List It → St → Prop) (K : V → List Blk → Prop) v0 (hv0 : v0 = (checkSlot (⟨ws, fu⟩ : Flash) slot)) : segD Γ_slot_Image tab fn_slot_Image 0 K rec [.code (bodyOf fn_slot_Image)] (initSt [.agg [.dat (Ty.list Ty.int) ws, .dat Ty.int fu], .one (.dat Ty.int slot)] []) = (
    br (!(eqi v0 (0 : Int)))
     (K (.tup [.one (.dat (Ty.list Ty.int) []), .one (.dat Ty.int (0 : Int)), .one (.dat Ty.int v0)]) [])
     ((((0 : Int) ≤ slot) ∧ (slot ≤ (1 : Int))) ∧
      ((((0 : Int) ≤ slot) ∧ (slot ≤ (1 : Int))) ∧
      ((((0 : Int) ≤ ((64 : Int) + ((64 : Int) * slot))) ∧ ((((64 : Int) + ((64 : Int) * slot)) ≤ (w64 (((64 : Int) + ((64 : Int) * slot)) + (4 : Int)))) ∧ ((w64 (((64 : Int) + ((64 : Int) * slot)) + (4 : Int))) ≤ (((len ws) : Nat) : Int)))) ∧
      ((((0 : Int) ≤ (0 : Int)) ∧ ((0 : Int) < (((len (slc ws (Int.toNat ((64 : Int) + ((64 : Int) * slot))) (Int.toNat (w64 (((64 : Int) + ((64 : Int) * slot)) + (4 : Int)))))) : Nat) : Int))) ∧
      (br (lti (nth (slc ws (Int.toNat ((64 : Int) + ((64 : Int) * slot))) (Int.toNat (w64 (((64 : Int) + ((64 : Int) * slot)) + (4 : Int))))) (Int.toNat (0 : Int)) (Ty.dflt Ty.int)) (1 : Int))
       (K (.tup [.one (.dat (Ty.list Ty.int) []), .one (.dat Ty.int (0 : Int)), .one (.dat Ty.int (4 : Int))]) [])
       ((((0 : Int) ≤ (0 : Int)) ∧ ((0 : Int) < (((len (slc ws (Int.toNat ((64 : Int) + ((64 : Int) * slot))) (Int.toNat (w64 (((64 : Int) + ((64 : Int) * slot)) + (4 : Int)))))) : Nat) : Int))) ∧
        (br (lti (40 : Int) (nth (slc ws (Int.toNat ((64 : Int) + ((64 : Int) * slot))) (Int.toNat (w64 (((64 : Int) + ((64 : Int) * slot)) + (4 : Int))))) (Int.toNat (0 : Int)) (Ty.dflt Ty.int)))
         (K (.tup [.one (.dat (Ty.list Ty.int) []), .one (.dat Ty.int (0 : Int)), .one (.dat Ty.int (4 : Int))]) [])
         ((((0 : Int) ≤ (1 : Int)) ∧ ((1 : Int) < (((len (slc ws (Int.toNat ((64 : Int) + ((64 : Int) * slot))) (Int.toNat (w64 (((64 : Int) + ((64 : Int) * slot)) + (4 : Int)))))) : Nat) : Int))) ∧
          (br (lti (nth (slc ws (Int.toNat ((64 : Int) + ((64 : Int) * slot))) (Int.toNat (w64 (((64 : Int) + ((64 : Int) * slot)) + (4 : Int))))) (Int.toNat (1 : Int)) (Ty.dflt Ty.int)) (1 : Int))
           (K (.tup [.one (.dat (Ty.list Ty.int) []), .one (.dat Ty.int (0 : Int)), .one (.dat Ty.int (4 : Int))]) [])
           ((((0 : Int) ≤ (1 : Int)) ∧ ((1 : Int) < (((len (slc ws (Int.toNat ((64 : Int) + ((64 : Int) * slot))) (Int.toNat (w64 (((64 : Int) + ((64 : Int) * slot)) + (4 : Int)))))) : Nat) : Int))) ∧
            (br (lti (60 : Int) (nth (slc ws (Int.toNat ((64 : Int) + ((64 : Int) * slot))) (Int.toNat (w64 (((64 : Int) + ((64 : Int) * slot)) + (4 : Int))))) (Int.toNat (1 : Int)) (Ty.dflt Ty.int)))
             (K (.tup [.one (.dat (Ty.list Ty.int) []), .one (.dat Ty.int (0 : Int)), .one (.dat Ty.int (4 : Int))]) [])
             ((((0 : Int) ≤ (2 : Int)) ∧ ((2 : Int) < (((len (slc ws (Int.toNat ((64 : Int) + ((64 : Int) * slot))) (Int.toNat (w64 (((64 : Int) + ((64 : Int) * slot)) + (4 : Int)))))) : Nat) : Int))) ∧
              ((((0 : Int) ≤ (0 : Int)) ∧ ((0 : Int) < (((len (slc ws (Int.toNat ((64 : Int) + ((64 : Int) * slot))) (Int.toNat (w64 (((64 : Int) + ((64 : Int) * slot)) + (4 : Int)))))) : Nat) : Int))) ∧
              (br (!(eqi (nth (slc ws (Int.toNat ((64 : Int) + ((64 : Int) * slot))) (Int.toNat (w64 (((64 : Int) + ((64 : Int) * slot)) + (4 : Int))))) (Int.toNat (2 : Int)) (Ty.dflt Ty.int)) (xori (65535 : Int) (nth (slc ws (Int.toNat ((64 : Int) + ((64 : Int) * slot))) (Int.toNat (w64 (((64 : Int) + ((64 : Int) * slot)) + (4 : Int))))) (Int.toNat (0 : Int)) (Ty.dflt Ty.int)))))
               (K (.tup [.one (.dat (Ty.list Ty.int) []), .one (.dat Ty.int (0 : Int)), .one (.dat Ty.int (4 : Int))]) [])
               ((((0 : Int) ≤ (3 : Int)) ∧ ((3 : Int) < (((len (slc ws (Int.toNat ((64 : Int) + ((64 : Int) * slot))) (Int.toNat (w64 (((64 : Int) + ((64 : Int) * slot)) + (4 : Int)))))) : Nat) : Int))) ∧
                ((((0 : Int) ≤ (1 : Int)) ∧ ((1 : Int) < (((len (slc ws (Int.toNat ((64 : Int) + ((64 : Int) * slot))) (Int.toNat (w64 (((64 : Int) + ((64 : Int) * slot)) + (4 : Int)))))) : Nat) : Int))) ∧
                (br (!(eqi (nth (slc ws (Int.toNat ((64 : Int) + ((64 : Int) * slot))) (Int.toNat (w64 (((64 : Int) + ((64 : Int) * slot)) + (4 : Int))))) (Int.toNat (3 : Int)) (Ty.dflt Ty.int)) (xori (65535 : Int) (nth (slc ws (Int.toNat ((64 : Int) + ((64 : Int) * slot))) (Int.toNat (w64 (((64 : Int) + ((64 : Int) * slot)) + (4 : Int))))) (Int.toNat (1 : Int)) (Ty.dflt Ty.int)))))
                 (K (.tup [.one (.dat (Ty.list Ty.int) []), .one (.dat Ty.int (0 : Int)), .one (.dat Ty.int (4 : Int))]) [])
                 ((((0 : Int) ≤ slot) ∧ (slot ≤ (1 : Int))) ∧
                  ((((0 : Int) ≤ slot) ∧ (slot ≤ (1 : Int))) ∧
                  ((((0 : Int) ≤ (0 : Int)) ∧ ((0 : Int) < (((len (slc ws (Int.toNat ((64 : Int) + ((64 : Int) * slot))) (Int.toNat (w64 (((64 : Int) + ((64 : Int) * slot)) + (4 : Int)))))) : Nat) : Int))) ∧
                  ((((0 : Int) ≤ (w64 (((64 : Int) + ((64 : Int) * slot)) + (4 : Int)))) ∧ (((w64 (((64 : Int) + ((64 : Int) * slot)) + (4 : Int))) ≤ (w64 ((w64 (((64 : Int) + ((64 : Int) * slot)) + (4 : Int))) + (nth (slc ws (Int.toNat ((64 : Int) + ((64 : Int) * slot))) (Int.toNat (w64 (((64 : Int) + ((64 : Int) * slot)) + (4 : Int))))) (Int.toNat (0 : Int)) (Ty.dflt Ty.int))))) ∧ ((w64 ((w64 (((64 : Int) + ((64 : Int) * slot)) + (4 : Int))) + (nth (slc ws (Int.toNat ((64 : Int) + ((64 : Int) * slot))) (Int.toNat (w64 (((64 : Int) + ((64 : Int) * slot)) + (4 : Int))))) (Int.toNat (0 : Int)) (Ty.dflt Ty.int)))) ≤ (((len ws) : Nat) : Int)))) ∧
                  ((((len (slc ws (Int.toNat (w64 (((64 : Int) + ((64 : Int) * slot)) + (4 : Int)))) (Int.toNat (w64 ((w64 (((64 : Int) + ((64 : Int) * slot)) + (4 : Int))) + (nth (slc ws (Int.toNat ((64 : Int) + ((64 : Int) * slot))) (Int.toNat (w64 (((64 : Int) + ((64 : Int) * slot)) + (4 : Int))))) (Int.toNat (0 : Int)) (Ty.dflt Ty.int))))))) * 8) ≤ 140737488355328) ∧
                  ((((0 : Int) ≤ (1 : Int)) ∧ ((1 : Int) < (((len (slc ws (Int.toNat ((64 : Int) + ((64 : Int) * slot))) (Int.toNat (w64 (((64 : Int) + ((64 : Int) * slot)) + (4 : Int)))))) : Nat) : Int))) ∧
                  (K (.tup [.one (.dat (Ty.list Ty.int) (slc ws (Int.toNat (w64 (((64 : Int) + ((64 : Int) * slot)) + (4 : Int)))) (Int.toNat (w64 ((w64 (((64 : Int) + ((64 : Int) * slot)) + (4 : Int))) + (nth (slc ws (Int.toNat ((64 : Int) + ((64 : Int) * slot))) (Int.toNat (w64 (((64 : Int) + ((64 : Int) * slot)) + (4 : Int))))) (Int.toNat (0 : Int)) (Ty.dflt Ty.int))))))), .one (.dat Ty.int (nth (slc ws (Int.toNat ((64 : Int) + ((64 : Int) * slot))) (Int.toNat (w64 (((64 : Int) + ((64 : Int) * slot)) + (4 : Int))))) (Int.toNat (1 : Int)) (Ty.dflt Ty.int))), .one (.dat Ty.int (0 : Int))]) []))))))))))))))))))))))))) := by subst hv0; kernel_rfl
theorem slot_Image_w (ws : List Int) (fu : Int) (slot : Int) (m : Nat) (K : V → List Blk → Prop) : goD Γ_slot_Image tab fn_slot_Image 0 K (m + 1) [.code (bodyOf fn_slot_Image)] (initSt [.agg [.dat (Ty.list Ty.int) ws, .dat Ty.int fu], .one (.dat Ty.int slot)] []) = segD Γ_slot_Image tab fn_slot_Image 0 K (goD Γ_slot_Image tab fn_slot_Image 0 K m) [.code (bodyOf fn_slot_Image)] (initSt [.agg [.dat (Ty.list Ty.int) ws, .dat Ty.int fu], .one (.dat Ty.int slot)] []) := rfl

set_option maxHeartbeats 4000000 in
theorem run_slot_Image (ws : List Int) (fu slot : Int) (K : V → List Blk → Prop) (hK : K (.tup [.one (.dat (.list .int) (imageS ⟨ws, fu⟩ slot).1), .one (.dat .int (imageS ⟨ws, fu⟩ slot).2.1), .one (.dat .int (imageS ⟨ws, fu⟩ slot).2.2)]) []) : ∃ m, goD Γ_slot_Image tab fn_slot_Image 0 K m [.code (bodyOf fn_slot_Image)] (initSt [.agg [.dat (.list .int) ws, .dat .int fu], .one (.dat .int slot)] []) := by
  refine ⟨1, ?_⟩
  rw [slot_Image_w, slot_Image_vc _ _ _ _ _ _ rfl]
  unfold imageS at hK
  refine ne_s (fun h => ?_) (fun h => ?_)
  · rw [if_neg h] at hK; exact hK
  rw [if_pos h] at hK
  obtain ⟨h1, h2, h3⟩ := checkSlot_ok h
  simp only at h2
  obtain ⟨b, hb⟩ : ∃ b, beginS slot = b := ⟨_, rfl⟩
  have hb' : (64 + 64 * slot) = (b : Int) := by unfold beginS at hb; omega
  rw [hb', w64_id (n := (b : Int) + 4) (by omega) (by omega), show Int.toNat ((b : Int) + 4) = b + 4 by omega, toNat_nat]
  have hlen : (slc ws b (b + 4)).length = 4 := by simp [slc]; omega
  have g0 : nth (slc ws b (b + 4)) (Int.toNat (0 : Int)) (Ty.dflt Ty.int) = ws.getD b 0 := slc_getD ws b (b + 4) 0 (by omega)
  have g1 : nth (slc ws b (b + 4)) (Int.toNat (1 : Int)) (Ty.dflt Ty.int) = ws.getD (b + 1) 0 := slc_getD ws b (b + 4) 1 (by omega)
  have g2 : nth (slc ws b (b + 4)) (Int.toNat (2 : Int)) (Ty.dflt Ty.int) = ws.getD (b + 2) 0 := slc_getD ws b (b + 4) 2 (by omega)
  have g3 : nth (slc ws b (b + 4)) (Int.toNat (3 : Int)) (Ty.dflt Ty.int) = ws.getD (b + 3) 0 := slc_getD ws b (b + 4) 3 (by omega)
  rw [g0, g1, g2, g3]
  simp only [len, hlen]
  unfold imageR at hK
  simp only [hb] at hK
  have four : ¬ (okHead (ws.getD b 0) (ws.getD (b + 1) 0) = true ∧ ws.getD (b + 2) 0 = 65535 - ws.getD b 0 ∧ ws.getD (b + 3) 0 = 65535 - ws.getD (b + 1) 0) → K (.tup [.one (.dat (.list .int) []), .one (.dat .int 0), .one (.dat .int 4)]) [] := fun hn => by
    have : sealedAt ws b = false := by
      unfold sealedAt
      cases hh : okHead (ws.getD b 0) (ws.getD (b + 1) 0)
      · rfl
      · simp only [Bool.true_and, Bool.and_eq_false_iff, decide_eq_false_iff_not]
        by_cases c : ws.getD (b + 2) 0 = 65535 - ws.getD b 0
        · exact .inr fun c2 => hn ⟨hh, c, c2⟩
        · exact .inl c
    rw [this] at hK
    exact hK
  have hd : okHead (ws.getD b 0) (ws.getD (b + 1) 0) = true ↔ (1 ≤ ws.getD b 0 ∧ ws.getD b 0 ≤ 40 ∧ 1 ≤ ws.getD (b + 1) 0 ∧ ws.getD (b + 1) 0 ≤ 60) := by
    simp only [okHead, Bool.and_eq_true, decide_eq_true_eq]; omega
  rw [hd] at four
  refine ⟨by omega, by omega, by omega, by omega, lt_s (fun h4 => four (by omega)) (fun h4 => ⟨by omega, lt_s (fun h5 => four (by omega)) (fun h5 => ⟨by omega, lt_s (fun h6 => four (by omega)) (fun h6 => ⟨by omega, lt_s (fun h7 => four (by omega)) (fun h7 => ⟨by omega, by omega, ?_⟩)⟩)⟩)⟩)⟩
  rw [xori_int (a := ws.getD b 0) (by omega) (by omega), xori_int (a := ws.getD (b + 1) 0) (by omega) (by omega)]
  refine ne_s (fun h8 => four (by omega)) (fun h8 => ⟨by omega, by omega, ne_s (fun h9 => four (by omega)) (fun h9 => ?_)⟩)
  rw [w64_id (by omega) (by omega), show Int.toNat ((b : Int) + 4 + ws.getD b 0) = b + 4 + (ws.getD b 0).toNat by omega]
  have hs : sealedAt ws b = true := by
    unfold sealedAt
    rw [hd.2 (by omega)]
    simp only [Bool.true_and, Bool.and_eq_true, decide_eq_true_eq]
    exact ⟨h8, h9⟩
  rw [hs] at hK
  have hll : (slc ws (b + 4) (b + 4 + (ws.getD b 0).toNat)).length ≤ 192 := by simp [slc]; omega
  exact ⟨by omega, by omega, by omega, by omega, by omega, by omega, hK⟩
theorem sound_slot_Image : SoundC Try.prog tab n_slot_Image c_slot_Image := soundC_of ok_slot_Image hf_slot_Image hB_slot_Image (by
  intro vs bs p v bs' h hp
  unfold c_slot_Image at h
  split at h
  · cases h
    exact ⟨by kernel_rfl, rfl, .inl (run_slot_Image _ _ _ _ ⟨rfl, rfl⟩)⟩
  · cases h)

def c_slot_Seal : Contract := fun vs bs => match vs, bs with
  | [.agg [.dat (.list .int) ws, .dat .int fu], .one (.dat .int slot), .one (.dat .int long), .one (.dat .int name)], [] => some (none, .tup [.agg [.dat (.list .int) (sealS ⟨ws, fu⟩ slot long name).1.words, .dat .int (sealS ⟨ws, fu⟩ slot long name).1.fuel], .one (.dat .int (sealS ⟨ws, fu⟩ slot long name).2)], [])
  | _, _ => none
def Γ_slot_Seal : Ctx := [(n_slot_check, c_slot_check), (n_slot_begin, c_slot_begin), (n_flash_Program, c_flash_Program)]
theorem ok_slot_Seal : Ok Try.prog tab Γ_slot_Seal := (((ok_nil.consC hf_flash_Program hB_flash_Program sound_flash_Program).consC hf_slot_begin hB_slot_begin sound_slot_begin).consC hf_slot_check hB_slot_check sound_slot_check)
theorem slot_Seal_vc (ws : List Int) (fu : Int) (slot : Int) (long : Int) (name : Int) (rec : List It → St → Prop) (K : V → List Blk → Prop) v0 (hv0 : v0 = (checkSlot (⟨ws, fu⟩ : Flash) slot)) v1 (hv1 : v1 = (programF (⟨ws, fu⟩ : Flash) ((64 : Int) + ((64 : Int) * slot)) (long :: (name :: ((xori (65535 : Int) long) :: ((xori (65535 : Int) name) :: [])))))) : segD Γ_slot_Seal tab fn_slot_Seal 0 K rec [.code (bodyOf fn_slot_Seal)] (initSt [.agg [.dat (Ty.list Ty.int) ws, .dat Ty.int fu], .one (.dat Ty.int slot), .one (.dat Ty.int long), .one (.dat Ty.int name)] []) = (
    br (!(eqi v0 (0 : Int)))
     (K (.tup [.agg [.dat (Ty.list Ty.int) [], .dat Ty.int (0 : Int)], .one (.dat Ty.int v0)]) [])
     (br (lti long (1 : Int))
       (K (.tup [.agg [.dat (Ty.list Ty.int) [], .dat Ty.int (0 : Int)], .one (.dat Ty.int (3 : Int))]) [])
       (br (lti (40 : Int) long)
         (K (.tup [.agg [.dat (Ty.list Ty.int) [], .dat Ty.int (0 : Int)], .one (.dat Ty.int (3 : Int))]) [])
         (br (lti name (1 : Int))
           (K (.tup [.agg [.dat (Ty.list Ty.int) [], .dat Ty.int (0 : Int)], .one (.dat Ty.int (3 : Int))]) [])
           (br (lti (60 : Int) name)
             (K (.tup [.agg [.dat (Ty.list Ty.int) [], .dat Ty.int (0 : Int)], .one (.dat Ty.int (3 : Int))]) [])
             ((((0 : Int) ≤ slot) ∧ (slot ≤ (1 : Int))) ∧
              (((List.length (long :: (name :: ((xori (65535 : Int) long) :: ((xori (65535 : Int) name) :: []))))) ≤ 140737488355328) ∧
              (K (.tup [.agg [.dat (Ty.list Ty.int) ((v1).fst).words, .dat Ty.int ((v1).fst).fuel], .one (.dat Ty.int (v1).snd)]) [])))))))) := by subst hv1; subst hv0; kernel_rfl
theorem slot_Seal_w (ws : List Int) (fu : Int) (slot : Int) (long : Int) (name : Int) (m : Nat) (K : V → List Blk → Prop) : goD Γ_slot_Seal tab fn_slot_Seal 0 K (m + 1) [.code (bodyOf fn_slot_Seal)] (initSt [.agg [.dat (Ty.list Ty.int) ws, .dat Ty.int fu], .one (.dat Ty.int slot), .one (.dat Ty.int long), .one (.dat Ty.int name)] []) = segD Γ_slot_Seal tab fn_slot_Seal 0 K (goD Γ_slot_Seal tab fn_slot_Seal 0 K m) [.code (bodyOf fn_slot_Seal)] (initSt [.agg [.dat (Ty.list Ty.int) ws, .dat Ty.int fu], .one (.dat Ty.int slot), .one (.dat Ty.int long), .one (.dat Ty.int name)] []) := rfl

set_option maxHeartbeats 4000000 in
theorem run_slot_Seal (ws : List Int) (fu slot long name : Int) (K : V → List Blk → Prop) (hK : K (.tup [.agg [.dat (.list .int) (sealS ⟨ws, fu⟩ slot long name).1.words, .dat .int (sealS ⟨ws, fu⟩ slot long name).1.fuel], .one (.dat .int (sealS ⟨ws, fu⟩ slot long name).2)]) []) : ∃ m, goD Γ_slot_Seal tab fn_slot_Seal 0 K m [.code (bodyOf fn_slot_Seal)] (initSt [.agg [.dat (.list .int) ws, .dat .int fu], .one (.dat .int slot), .one (.dat .int long), .one (.dat .int name)] []) := by
  refine ⟨1, ?_⟩
  rw [slot_Seal_w, slot_Seal_vc _ _ _ _ _ _ _ _ rfl _ rfl]
  unfold sealS at hK
  refine ne_s (fun h => ?_) (fun h => ?_)
  · rw [if_neg h] at hK; exact hK
  rw [if_pos h] at hK
  obtain ⟨h1, h2, h3⟩ := checkSlot_ok h
  have three : ¬ (1 ≤ long ∧ long ≤ 40 ∧ 1 ≤ name ∧ name ≤ 60) → K (.tup [.agg [.dat (.list .int) [], .dat .int 0], .one (.dat .int 3)]) [] := fun hn => by
    rw [if_neg (by simp only [okHead, Bool.and_eq_true, decide_eq_true_eq]; omega)] at hK; exact hK
  refine lt_s (fun h4 => three (by omega)) (fun h4 => lt_s (fun h5 => three (by omega)) (fun h5 => lt_s (fun h6 => three (by omega)) (fun h6 => lt_s (fun h7 => three (by omega)) (fun h7 => ?_))))
  rw [if_pos (by simp only [okHead, Bool.and_eq_true, decide_eq_true_eq]; omega)] at hK
  rw [xori_int (by omega) (by omega), xori_int (by omega) (by omega)]
  exact ⟨by omega, by simp only [List.length_cons, List.length_nil]; omega, hK⟩
theorem sound_slot_Seal : SoundC Try.prog tab n_slot_Seal c_slot_Seal := soundC_of ok_slot_Seal hf_slot_Seal hB_slot_Seal (by
  intro vs bs p v bs' h hp
  unfold c_slot_Seal at h
  split at h
  · cases h
    exact ⟨by kernel_rfl, rfl, .inl (run_slot_Seal _ _ _ _ _ _ ⟨rfl, rfl⟩)⟩
  · cases h)

def c_slices_Equal_Lint : Contract := fun vs bs => match vs, bs with
  | [.one (.dat (.list .int) a), .one (.dat (.list .int) b)], [] => some (some (Sm a), .one (.dat .bool (eqIs a b)), [])
  | _, _ => none
def Γ_slices_Equal_Lint : Ctx := []
theorem ok_slices_Equal_Lint : Ok Try.prog tab Γ_slices_Equal_Lint := ok_nil
noncomputable def slices_Equal_Lint_L0 : List It := [.inLoop [13, 12, 4, 0, 1] (Code.sub (bodyOf fn_slices_Equal_Lint) [1, 1, 0, 1, 0, 0]), .inBlock 0, .code (Code.sub (bodyOf fn_slices_Equal_Lint) [1, 1, 1])]
def slices_Equal_Lint_S0 (x0 : Int) (x1 : Int) (x2 : Bool) (x3 : (List Int)) (x4 : (List Int)) : St := ⟨[(13, .one (.dat Ty.int x0)), (12, .one (.dat Ty.int x1)), (4, .one (.dat Ty.bool x2)), (0, .one (.dat (Ty.list Ty.int) x3)), (1, .one (.dat (Ty.list Ty.int) x4))], [], 0⟩
theorem slices_Equal_Lint_vc (a : List Int) (b : List Int) (rec : List It → St → Prop) (K : V → List Blk → Prop) : segD Γ_slices_Equal_Lint tab fn_slices_Equal_Lint 0 K rec [.code (bodyOf fn_slices_Equal_Lint)] (initSt [.one (.dat (Ty.list Ty.int) a), .one (.dat (Ty.list Ty.int) b)] []) = (
    br (!(eqi (((len a) : Nat) : Int) (((len b) : Nat) : Int)))
     (K (.one (.dat Ty.bool false)) [])
     (rec slices_Equal_Lint_L0 (slices_Equal_Lint_S0 (0 : Int) (((len a) : Nat) : Int) false a b))) := by kernel_rfl
theorem slices_Equal_Lint_w (a : List Int) (b : List Int) (m : Nat) (K : V → List Blk → Prop) : goD Γ_slices_Equal_Lint tab fn_slices_Equal_Lint 0 K (m + 1) [.code (bodyOf fn_slices_Equal_Lint)] (initSt [.one (.dat (Ty.list Ty.int) a), .one (.dat (Ty.list Ty.int) b)] []) = segD Γ_slices_Equal_Lint tab fn_slices_Equal_Lint 0 K (goD Γ_slices_Equal_Lint tab fn_slices_Equal_Lint 0 K m) [.code (bodyOf fn_slices_Equal_Lint)] (initSt [.one (.dat (Ty.list Ty.int) a), .one (.dat (Ty.list Ty.int) b)] []) := rfl
theorem slices_Equal_Lint_vc0 (x0 : Int) (x1 : Int) (x2 : Bool) (x3 : (List Int)) (x4 : (List Int)) (rec : List It → St → Prop) (K : V → List Blk → Prop) : segD Γ_slices_Equal_Lint tab fn_slices_Equal_Lint 0 K rec (.code (Code.sub (bodyOf fn_slices_Equal_Lint) [1, 1, 0, 1, 0, 0]) :: slices_Equal_Lint_L0) (slices_Equal_Lint_S0 x0 x1 x2 x3 x4) = (
    br (lti x0 x1)
     ((((0 : Int) ≤ x0) ∧ (x0 < (((len x3) : Nat) : Int))) ∧
      ((((0 : Int) ≤ x0) ∧ (x0 < (((len x4) : Nat) : Int))) ∧
      (br (!(eqi (nth x3 (Int.toNat x0) (Ty.dflt Ty.int)) (nth x4 (Int.toNat x0) (Ty.dflt Ty.int))))
       (K (.one (.dat Ty.bool false)) [])
       (rec slices_Equal_Lint_L0 (slices_Equal_Lint_S0 (w64 (x0 + (1 : Int))) x1 x2 x3 x4)))))
     (K (.one (.dat Ty.bool true)) [])) := by kernel_rfl
theorem slices_Equal_Lint_w0 (x0 : Int) (x1 : Int) (x2 : Bool) (x3 : (List Int)) (x4 : (List Int)) (m : Nat) (K : V → List Blk → Prop) : goD Γ_slices_Equal_Lint tab fn_slices_Equal_Lint 0 K (m + 1) slices_Equal_Lint_L0 (slices_Equal_Lint_S0 x0 x1 x2 x3 x4) = segD Γ_slices_Equal_Lint tab fn_slices_Equal_Lint 0 K (goD Γ_slices_Equal_Lint tab fn_slices_Equal_Lint 0 K m) (.code (Code.sub (bodyOf fn_slices_Equal_Lint) [1, 1, 0, 1, 0, 0]) :: slices_Equal_Lint_L0) (slices_Equal_Lint_S0 x0 x1 x2 x3 x4) := rfl

theorem loop_slices_Equal_Lint (a b : List Int) (hl : a.length = b.length) (hs : Sm a) (K : V → List Blk → Prop) (hK : K (.one (.dat .bool (eqIs a b))) []) : ∀ (d k : Nat), k + d = a.length → a.take k = b.take k →
    goD Γ_slices_Equal_Lint tab fn_slices_Equal_Lint 0 K (d + 1) slices_Equal_Lint_L0 (slices_Equal_Lint_S0 (k : Int) (((len a) : Nat) : Int) false a b)
  | 0, k, hk, he => by
    rw [slices_Equal_Lint_w0, slices_Equal_Lint_vc0 _ _ _ _ _ _ _]
    refine lt_f (by simp only [len]; omega) ?_
    rw [List.take_of_length_le (by omega), List.take_of_length_le (by omega)] at he
    rw [show eqIs a b = true from by simp [eqIs, he]] at hK
    exact hK
  | d + 1, k, hk, he => by
    unfold Sm at hs
    rw [slices_Equal_Lint_w0, slices_Equal_Lint_vc0 _ _ _ _ _ _ _]
    refine lt_t (by simp only [len]; omega) ⟨⟨by omega, by simp only [len]; omega⟩, ⟨by omega, by simp only [len]; omega⟩, ne_s (fun hne => ?_) (fun heq => ?_)⟩
    · rw [show eqIs a b = false from by simp only [eqIs, decide_eq_false_iff_not]; rintro rfl; exact hne rfl] at hK
      exact hK
    · rw [w64_succ (by omega)]
      refine loop_slices_Equal_Lint a b hl ‹Sm a› K hK d (k + 1) (by omega) ?_
      rw [take_step (by omega) (Ty.dflt Ty.int), take_step (by omega) (Ty.dflt Ty.int), he]
      rw [toNat_nat] at heq
      rw [heq]
set_option maxHeartbeats 4000000 in
theorem run_slices_Equal_Lint (a b : List Int) (hp : Sm a) (K : V → List Blk → Prop) (hK : K (.one (.dat .bool (eqIs a b))) []) : ∃ m, goD Γ_slices_Equal_Lint tab fn_slices_Equal_Lint 0 K m [.code (bodyOf fn_slices_Equal_Lint)] (initSt [.one (.dat (.list .int) a), .one (.dat (.list .int) b)] []) := by
  refine ⟨a.length + 2, ?_⟩
  rw [slices_Equal_Lint_w, slices_Equal_Lint_vc _ _ _ _]
  refine ne_s (fun h => ?_) (fun h => ?_)
  · rw [show eqIs a b = false from by simp only [eqIs, decide_eq_false_iff_not]; rintro rfl; exact h rfl] at hK
    exact hK
  · exact loop_slices_Equal_Lint a b (by simp only [len] at h; omega) hp K hK a.length 0 (by omega) rfl
theorem sound_slices_Equal_Lint : SoundC Try.prog tab n_slices_Equal_Lint c_slices_Equal_Lint := soundC_of ok_slices_Equal_Lint hf_slices_Equal_Lint hB_slices_Equal_Lint (by
  intro vs bs p v bs' h hp
  unfold c_slices_Equal_Lint at h
  split at h
  · cases h
    exact ⟨by kernel_rfl, rfl, .inl (run_slices_Equal_Lint _ _ hp.1 _ ⟨rfl, rfl⟩)⟩
  · cases h)

def c_law_slotted : Contract := fun vs bs => match vs, bs with
  | [], [] => some (none, .one (.dat .bool true), [])
  | _, _ => none
def Γ_law_slotted : Ctx := [(n_flash_New, c_flash_New), (n_slot_Fill, c_slot_Fill), (n_slot_Image, c_slot_Image), (n_slot_Seal, c_slot_Seal), (n_slices_Equal_Lint, c_slices_Equal_Lint)]
theorem ok_law_slotted : Ok Try.prog tab Γ_law_slotted := (((((ok_nil.consC hf_slices_Equal_Lint hB_slices_Equal_Lint sound_slices_Equal_Lint).consC hf_slot_Seal hB_slot_Seal sound_slot_Seal).consC hf_slot_Image hB_slot_Image sound_slot_Image).consC hf_slot_Fill hB_slot_Fill sound_slot_Fill).consC hf_flash_New hB_flash_New sound_flash_New)
theorem law_slotted_vc (rec : List It → St → Prop) (K : V → List Blk → Prop) v0 (hv0 : v0 = (burnCh (((68 : Int) + ((64 : Int) * (1 : Int))) + (0 : Int)) ((3 : Int) :: ((4 : Int) :: [])))) v1 (hv1 : v1 = (applyCh (zeros (Int.toNat ((6 : Int) * (32 : Int))) (65535 : Int)) v0)) v2 (hv2 : v2 = (headOf (2 : Int) (9 : Int))) v3 (hv3 : v3 = (burnCh ((64 : Int) + ((64 : Int) * (1 : Int))) v2)) v4 (hv4 : v4 = (applyCh v1 v3)) v5 (hv5 : v5 = (beginS (1 : Int))) : segD Γ_law_slotted tab fn_law_slotted 0 K rec [.code (bodyOf fn_law_slotted)] (initSt [] []) = (
    ((List.length ((3 : Int) :: ((4 : Int) :: []))) ≤ 140737488355328) ∧
    (((List.length (slc v4 (v5 + 4) ((v5 + 4) + (Int.toNat (List.getD v4 v5 (0 : Int)))))) ≤ 140737488355328) ∧
    (K (.one (.dat Ty.bool (eqi (List.getD v4 (v5 + 1) (0 : Int)) (9 : Int)))) []))) := by subst hv5; subst hv4; subst hv3; subst hv2; subst hv1; subst hv0; kernel_rfl
theorem law_slotted_w (m : Nat) (K : V → List Blk → Prop) : goD Γ_law_slotted tab fn_law_slotted 0 K (m + 1) [.code (bodyOf fn_law_slotted)] (initSt [] []) = segD Γ_law_slotted tab fn_law_slotted 0 K (goD Γ_law_slotted tab fn_law_slotted 0 K m) [.code (bodyOf fn_law_slotted)] (initSt [] []) := rfl

set_option maxHeartbeats 4000000 in
theorem run_law_slotted  (K : V → List Blk → Prop) (hK : K (.one (.dat .bool true)) []) : ∃ m, goD Γ_law_slotted tab fn_law_slotted 0 K m [.code (bodyOf fn_law_slotted)] (initSt [] []) := by
  refine ⟨1, ?_⟩
  rw [law_slotted_w, law_slotted_vc _ _ _ rfl _ rfl _ rfl _ rfl _ rfl _ rfl]
  refine ⟨by decide, by decide +kernel, ?_⟩
  exact hK
theorem sound_law_slotted : SoundC Try.prog tab n_law_slotted c_law_slotted := soundC_of ok_law_slotted hf_law_slotted hB_law_slotted (by
  intro vs bs p v bs' h hp
  unfold c_law_slotted at h
  split at h
  · cases h
    exact ⟨by kernel_rfl, rfl, .inl (run_law_slotted  _ ⟨rfl, rfl⟩)⟩
  · cases h)

def c_flash_Read : Contract := fun vs bs => match vs, bs with
  | [.agg [.dat (.list .int) ws, .dat .int fu], .one (.dat .int at_), .one (.dat .int n)], [] => some (some (I64 at_ ∧ I64 n), .tup [.one (.dat (.list .int) (readF ⟨ws, fu⟩ at_ n).1), .one (.dat .int (readF ⟨ws, fu⟩ at_ n).2)], [])
  | _, _ => none
def Γ_flash_Read : Ctx := [(n_flash_Check, c_flash_Check), (n_slices_Clone_Lint, c_slices_Clone_Lint)]
theorem ok_flash_Read : Ok Try.prog tab Γ_flash_Read := ((ok_nil.consC hf_slices_Clone_Lint hB_slices_Clone_Lint sound_slices_Clone_Lint).consC hf_flash_Check hB_flash_Check sound_flash_Check)
theorem flash_Read_vc (ws : List Int) (fu : Int) (at_ : Int) (n : Int) (rec : List It → St → Prop) (K : V → List Blk → Prop) v0 (hv0 : v0 = (checkFlash ⟨ws, fu⟩)) : segD Γ_flash_Read tab fn_flash_Read 0 K rec [.code (bodyOf fn_flash_Read)] (initSt [.agg [.dat (Ty.list Ty.int) ws, .dat Ty.int fu], .one (.dat Ty.int at_), .one (.dat Ty.int n)] []) = (
    br (!(eqi v0 (0 : Int)))
     (K (.tup [.one (.dat (Ty.list Ty.int) []), .one (.dat Ty.int v0)]) [])
     (br (lti at_ (0 : Int))
       (K (.tup [.one (.dat (Ty.list Ty.int) []), .one (.dat Ty.int (5 : Int))]) [])
       (br (lti n (0 : Int))
         (K (.tup [.one (.dat (Ty.list Ty.int) []), .one (.dat Ty.int (5 : Int))]) [])
         (br (lti (((len ws) : Nat) : Int) at_)
           (K (.tup [.one (.dat (Ty.list Ty.int) []), .one (.dat Ty.int (5 : Int))]) [])
           (br (lti (w64 ((((len ws) : Nat) : Int) - at_)) n)
             (K (.tup [.one (.dat (Ty.list Ty.int) []), .one (.dat Ty.int (5 : Int))]) [])
             ((((0 : Int) ≤ at_) ∧ ((at_ ≤ (w64 (at_ + n))) ∧ ((w64 (at_ + n)) ≤ (((len ws) : Nat) : Int)))) ∧
              ((((len (slc ws (Int.toNat at_) (Int.toNat (w64 (at_ + n))))) * 8) ≤ 140737488355328) ∧
              (K (.tup [.one (.dat (Ty.list Ty.int) (slc ws (Int.toNat at_) (Int.toNat (w64 (at_ + n))))), .one (.dat Ty.int (0 : Int))]) [])))))))) := by subst hv0; kernel_rfl
theorem flash_Read_w (ws : List Int) (fu : Int) (at_ : Int) (n : Int) (m : Nat) (K : V → List Blk → Prop) : goD Γ_flash_Read tab fn_flash_Read 0 K (m + 1) [.code (bodyOf fn_flash_Read)] (initSt [.agg [.dat (Ty.list Ty.int) ws, .dat Ty.int fu], .one (.dat Ty.int at_), .one (.dat Ty.int n)] []) = segD Γ_flash_Read tab fn_flash_Read 0 K (goD Γ_flash_Read tab fn_flash_Read 0 K m) [.code (bodyOf fn_flash_Read)] (initSt [.agg [.dat (Ty.list Ty.int) ws, .dat Ty.int fu], .one (.dat Ty.int at_), .one (.dat Ty.int n)] []) := rfl

set_option maxHeartbeats 4000000 in
theorem run_flash_Read (ws : List Int) (fu at_ n : Int) (hp : I64 at_ ∧ I64 n) (K : V → List Blk → Prop) (hK : K (.tup [.one (.dat (.list .int) (readF ⟨ws, fu⟩ at_ n).1), .one (.dat .int (readF ⟨ws, fu⟩ at_ n).2)]) []) : ∃ m, goD Γ_flash_Read tab fn_flash_Read 0 K m [.code (bodyOf fn_flash_Read)] (initSt [.agg [.dat (.list .int) ws, .dat .int fu], .one (.dat .int at_), .one (.dat .int n)] []) := by
  obtain ⟨⟨ha, hb⟩, hc, hd⟩ := hp
  refine ⟨1, ?_⟩
  rw [flash_Read_w, flash_Read_vc _ _ _ _ _ _ _ rfl]
  unfold readF at hK
  refine ne_s (fun h => ?_) (fun h => ?_)
  · rw [if_neg h] at hK; exact hK
  rw [if_pos h] at hK
  obtain ⟨c1, c2, c3, c4⟩ := checkFlash_ok h
  obtain ⟨c5, c6⟩ := okLen_le c1
  simp only at c2 c3 c5 c6
  have five : ¬ (0 ≤ at_ ∧ 0 ≤ n ∧ at_ + n ≤ (ws.length : Int)) → K (.tup [.one (.dat (.list .int) []), .one (.dat .int 5)]) [] := fun hn => by
    rw [if_neg hn] at hK; exact hK
  simp only [len]
  refine lt_s (fun h1 => five (by omega)) (fun h1 => lt_s (fun h2 => five (by omega)) (fun h2 => lt_s (fun h3 => five (by omega)) (fun h3 => ?_)))
  rw [w64_id (by omega) (by omega)]
  refine lt_s (fun h4 => five (by omega)) (fun h4 => ?_)
  rw [if_pos (by simp only; omega)] at hK
  rw [w64_id (by omega) (by omega)]
  refine ⟨⟨h1, by omega, by omega⟩, ?_, hK⟩
  have : (slc ws at_.toNat (at_ + n).toNat).length ≤ 192 := by simp [slc]; omega
  omega
theorem sound_flash_Read : SoundC Try.prog tab n_flash_Read c_flash_Read := soundC_of ok_flash_Read hf_flash_Read hB_flash_Read (by
  intro vs bs p v bs' h hp
  unfold c_flash_Read at h
  split at h
  · cases h
    exact ⟨by kernel_rfl, rfl, .inl (run_flash_Read _ _ _ _ hp.1 _ ⟨rfl, rfl⟩)⟩
  · cases h)

def c_law_SlotHolds : Contract := fun vs bs => match vs, bs with
  | [.agg [.dat (.list .int) ws, .dat .int _], .one (.dat .int which), .one (.dat (.list .int) l), .one (.dat .int name), .one (.dat .int fuel)], [] => some (some (len ws * 8 ≤ 140737488351232 ∧ Sm l ∧ I64 which ∧ I64 name ∧ I64 fuel), .one (.dat .bool true), [])
  | _, _ => none
def Γ_law_SlotHolds : Ctx := [(n_law_at, c_law_at), (n_slot_Clear, c_slot_Clear), (n_law_slotted, c_law_slotted), (n_slot_Fill, c_slot_Fill), (n_slot_Seal, c_slot_Seal), (n_slot_Image, c_slot_Image), (n_flash_Read, c_flash_Read), (n_slices_Equal_Lint, c_slices_Equal_Lint)]
theorem ok_law_SlotHolds : Ok Try.prog tab Γ_law_SlotHolds := ((((((((ok_nil.consC hf_slices_Equal_Lint hB_slices_Equal_Lint sound_slices_Equal_Lint).consC hf_flash_Read hB_flash_Read sound_flash_Read).consC hf_slot_Image hB_slot_Image sound_slot_Image).consC hf_slot_Seal hB_slot_Seal sound_slot_Seal).consC hf_slot_Fill hB_slot_Fill sound_slot_Fill).consC hf_law_slotted hB_law_slotted sound_law_slotted).consC hf_slot_Clear hB_slot_Clear sound_slot_Clear).consC hf_law_at hB_law_at sound_law_at)
noncomputable def law_SlotHolds_L0 : List It := [.inLoop [13, 12, 11, 10, 5, 1, 2, 3, 4] (Code.sub (bodyOf fn_law_SlotHolds) [1, 1, 1, 1, 1, 1, 0, 1, 0, 0]), .inBlock 0, .code (Code.sub (bodyOf fn_law_SlotHolds) [1, 1, 1, 1, 1, 1, 1])]
def law_SlotHolds_S0 (x0 : Int) (x1 : Int) (x2 : Bool) (x3 : Int) (x4 : (List Int)) (x5 : Int) (x6 : Int) (x7 : (List Int)) (x8 : Int) (x9 : (List Int)) (x10 : Int) : St := ⟨[(13, .one (.dat Ty.int x0)), (12, .one (.dat Ty.int x1)), (11, .one (.ptr 0 0)), (10, .one (.dat Ty.bool x2)), (5, .one (.ptr 1 0)), (1, .one (.dat Ty.int x3)), (2, .one (.dat (Ty.list Ty.int) x4)), (3, .one (.dat Ty.int x5)), (4, .one (.dat Ty.int x6))], [(0, .box [.dat (Ty.list Ty.int) x7, .dat Ty.int x8]), (1, .box [.dat (Ty.list Ty.int) x9, .dat Ty.int x10])], 2⟩
theorem law_SlotHolds_vc (ws : List Int) (fu : Int) (which : Int) (l : List Int) (name : Int) (fuel : Int) (rec : List It → St → Prop) (K : V → List Blk → Prop) v0 (hv0 : v0 = (clearS (⟨ws, (-(1 : Int))⟩ : Flash) (which % (2 : Int)))) : segD Γ_law_SlotHolds tab fn_law_SlotHolds 0 K rec [.code (bodyOf fn_law_SlotHolds)] (initSt [.agg [.dat (Ty.list Ty.int) ws, .dat Ty.int fu], .one (.dat Ty.int which), .one (.dat (Ty.list Ty.int) l), .one (.dat Ty.int name), .one (.dat Ty.int fuel)] []) = (
    (((0 : Int) < (2 : Int)) ∧ ((2 : Int) ≤ (1000 : Int))) ∧
    ((((0 : Int) ≤ (0 : Int)) ∧ (((0 : Int) ≤ (min (((len l) : Nat) : Int) (40 : Int))) ∧ ((min (((len l) : Nat) : Int) (40 : Int)) ≤ (((len l) : Nat) : Int)))) ∧
    (br (!(eqi (v0).snd (0 : Int)))
     (K (.one (.dat Ty.bool true)) [])
     (rec law_SlotHolds_L0 (law_SlotHolds_S0 (0 : Int) (v0).snd false (which % (2 : Int)) (slc l (Int.toNat (0 : Int)) (Int.toNat (min (((len l) : Nat) : Int) (40 : Int)))) name fuel ((v0).fst).words ((v0).fst).fuel ws (-(1 : Int))))))) := by subst hv0; kernel_rfl
theorem law_SlotHolds_w (ws : List Int) (fu : Int) (which : Int) (l : List Int) (name : Int) (fuel : Int) (m : Nat) (K : V → List Blk → Prop) : goD Γ_law_SlotHolds tab fn_law_SlotHolds 0 K (m + 1) [.code (bodyOf fn_law_SlotHolds)] (initSt [.agg [.dat (Ty.list Ty.int) ws, .dat Ty.int fu], .one (.dat Ty.int which), .one (.dat (Ty.list Ty.int) l), .one (.dat Ty.int name), .one (.dat Ty.int fuel)] []) = segD Γ_law_SlotHolds tab fn_law_SlotHolds 0 K (goD Γ_law_SlotHolds tab fn_law_SlotHolds 0 K m) [.code (bodyOf fn_law_SlotHolds)] (initSt [.agg [.dat (Ty.list Ty.int) ws, .dat Ty.int fu], .one (.dat Ty.int which), .one (.dat (Ty.list Ty.int) l), .one (.dat Ty.int name), .one (.dat Ty.int fuel)] []) := rfl
theorem law_SlotHolds_vc0 (x0 : Int) (x1 : Int) (x2 : Bool) (x3 : Int) (x4 : (List Int)) (x5 : Int) (x6 : Int) (x7 : (List Int)) (x8 : Int) (x9 : (List Int)) (x10 : Int) (rec : List It → St → Prop) (K : V → List Blk → Prop) v0 (hv0 : v0 = (fillS (⟨x7, x8⟩ : Flash) x3 x0 (slc x4 (Int.toNat x0) (Int.toNat (min (((len x4) : Nat) : Int) (w64 (x0 + (8 : Int)))))))) v1 (hv1 : v1 = (sealS (⟨x7, (x6 % (6 : Int))⟩ : Flash) x3 (((len x4) : Nat) : Int) x5)) v2 (hv2 : v2 = (imageS (⟨((v1).fst).words, ((v1).fst).fuel⟩ : Flash) x3)) v3 (hv3 : v3 = (eqIs (v2).fst x4)) v4 (hv4 : v4 = (imageS (⟨x9, x10⟩ : Flash) (w64 ((1 : Int) - x3)))) v5 (hv5 : v5 = (imageS (⟨((v1).fst).words, ((v1).fst).fuel⟩ : Flash) (w64 ((1 : Int) - x3)))) v6 (hv6 : v6 = (eqIs (v4).fst (v5).fst)) v7 (hv7 : v7 = (readF (⟨x9, x10⟩ : Flash) (0 : Int) (64 : Int))) v8 (hv8 : v8 = (readF (⟨((v1).fst).words, ((v1).fst).fuel⟩ : Flash) (0 : Int) (64 : Int))) v9 (hv9 : v9 = (eqIs (v7).fst (v8).fst)) : segD Γ_law_SlotHolds tab fn_law_SlotHolds 0 K rec (.code (Code.sub (bodyOf fn_law_SlotHolds) [1, 1, 1, 1, 1, 1, 0, 1, 0, 0]) :: law_SlotHolds_L0) (law_SlotHolds_S0 x0 x1 x2 x3 x4 x5 x6 x7 x8 x9 x10) = (
    br (lti x0 (((len x4) : Nat) : Int))
     ((((0 : Int) ≤ x0) ∧ ((x0 ≤ (min (((len x4) : Nat) : Int) (w64 (x0 + (8 : Int))))) ∧ ((min (((len x4) : Nat) : Int) (w64 (x0 + (8 : Int)))) ≤ (((len x4) : Nat) : Int)))) ∧
      (((List.length (slc x4 (Int.toNat x0) (Int.toNat (min (((len x4) : Nat) : Int) (w64 (x0 + (8 : Int))))))) ≤ 140737488355328) ∧
      (br (!(eqi (v0).snd (0 : Int)))
       (K (.one (.dat Ty.bool (eqi (v0).snd (3 : Int)))) [])
       (rec law_SlotHolds_L0 (law_SlotHolds_S0 (w64 (x0 + (8 : Int))) (v0).snd x2 x3 x4 x5 x6 ((v0).fst).words ((v0).fst).fuel x9 x10)))))
     ((((0 : Int) < (6 : Int)) ∧ ((6 : Int) ≤ (1000 : Int))) ∧
      (br (!(eqi (v1).snd (0 : Int)))
       (br (!(eqi (v1).snd (7 : Int)))
         (K (.one (.dat Ty.bool (eqi (v1).snd (3 : Int)))) [])
         (br (!(eqb (eqi (v1).snd (0 : Int)) (eqi ((v2).snd).snd (0 : Int))))
           (K (.one (.dat Ty.bool false)) [])
           (br (eqi ((v2).snd).snd (0 : Int))
             (br (!(eqi ((v2).snd).fst x5))
               (K (.one (.dat Ty.bool false)) [])
               (((List.length (v2).fst) ≤ 140737488355328) ∧
                (br (!v3)
                 (K (.one (.dat Ty.bool false)) [])
                 (br (!(eqi ((v2).snd).snd (0 : Int)))
                   (br (!(eqi ((v2).snd).snd (4 : Int)))
                     (K (.one (.dat Ty.bool false)) [])
                     (((((-(9223372036854775808 : Int)) ≤ (0 : Int)) ∧ ((0 : Int) ≤ (9223372036854775807 : Int))) ∧ (((-(9223372036854775808 : Int)) ≤ (64 : Int)) ∧ ((64 : Int) ≤ (9223372036854775807 : Int)))) ∧
                      (((((-(9223372036854775808 : Int)) ≤ (0 : Int)) ∧ ((0 : Int) ≤ (9223372036854775807 : Int))) ∧ (((-(9223372036854775808 : Int)) ≤ (64 : Int)) ∧ ((64 : Int) ≤ (9223372036854775807 : Int)))) ∧
                      (br (eqi ((v4).snd).snd ((v5).snd).snd)
                       (br (eqi ((v4).snd).fst ((v5).snd).fst)
                         (((List.length (v4).fst) ≤ 140737488355328) ∧
                          (br v6
                           (br (eqi (v7).snd (0 : Int))
                             (br (eqi (v8).snd (0 : Int))
                               (((List.length (v7).fst) ≤ 140737488355328) ∧
                                (K (.one (.dat Ty.bool v9)) []))
                               (K (.one (.dat Ty.bool false)) []))
                             (K (.one (.dat Ty.bool false)) []))
                           (K (.one (.dat Ty.bool false)) [])))
                         (K (.one (.dat Ty.bool false)) []))
                       (K (.one (.dat Ty.bool false)) [])))))
                   (((((-(9223372036854775808 : Int)) ≤ (0 : Int)) ∧ ((0 : Int) ≤ (9223372036854775807 : Int))) ∧ (((-(9223372036854775808 : Int)) ≤ (64 : Int)) ∧ ((64 : Int) ≤ (9223372036854775807 : Int)))) ∧
                    (((((-(9223372036854775808 : Int)) ≤ (0 : Int)) ∧ ((0 : Int) ≤ (9223372036854775807 : Int))) ∧ (((-(9223372036854775808 : Int)) ≤ (64 : Int)) ∧ ((64 : Int) ≤ (9223372036854775807 : Int)))) ∧
                    (br (eqi ((v4).snd).snd ((v5).snd).snd)
                     (br (eqi ((v4).snd).fst ((v5).snd).fst)
                       (((List.length (v4).fst) ≤ 140737488355328) ∧
                        (br v6
                         (br (eqi (v7).snd (0 : Int))
                           (br (eqi (v8).snd (0 : Int))
                             (((List.length (v7).fst) ≤ 140737488355328) ∧
                              (K (.one (.dat Ty.bool v9)) []))
                             (K (.one (.dat Ty.bool false)) []))
                           (K (.one (.dat Ty.bool false)) []))
                         (K (.one (.dat Ty.bool false)) [])))
                       (K (.one (.dat Ty.bool false)) []))
                     (K (.one (.dat Ty.bool false)) []))))))))
             (br (!(eqi ((v2).snd).snd (0 : Int)))
               (br (!(eqi ((v2).snd).snd (4 : Int)))
                 (K (.one (.dat Ty.bool false)) [])
                 (((((-(9223372036854775808 : Int)) ≤ (0 : Int)) ∧ ((0 : Int) ≤ (9223372036854775807 : Int))) ∧ (((-(9223372036854775808 : Int)) ≤ (64 : Int)) ∧ ((64 : Int) ≤ (9223372036854775807 : Int)))) ∧
                  (((((-(9223372036854775808 : Int)) ≤ (0 : Int)) ∧ ((0 : Int) ≤ (9223372036854775807 : Int))) ∧ (((-(9223372036854775808 : Int)) ≤ (64 : Int)) ∧ ((64 : Int) ≤ (9223372036854775807 : Int)))) ∧
                  (br (eqi ((v4).snd).snd ((v5).snd).snd)
                   (br (eqi ((v4).snd).fst ((v5).snd).fst)
                     (((List.length (v4).fst) ≤ 140737488355328) ∧
                      (br v6
                       (br (eqi (v7).snd (0 : Int))
                         (br (eqi (v8).snd (0 : Int))
                           (((List.length (v7).fst) ≤ 140737488355328) ∧
                            (K (.one (.dat Ty.bool v9)) []))
                           (K (.one (.dat Ty.bool false)) []))
                         (K (.one (.dat Ty.bool false)) []))
                       (K (.one (.dat Ty.bool false)) [])))
                     (K (.one (.dat Ty.bool false)) []))
                   (K (.one (.dat Ty.bool false)) [])))))
               (((((-(9223372036854775808 : Int)) ≤ (0 : Int)) ∧ ((0 : Int) ≤ (9223372036854775807 : Int))) ∧ (((-(9223372036854775808 : Int)) ≤ (64 : Int)) ∧ ((64 : Int) ≤ (9223372036854775807 : Int)))) ∧
                (((((-(9223372036854775808 : Int)) ≤ (0 : Int)) ∧ ((0 : Int) ≤ (9223372036854775807 : Int))) ∧ (((-(9223372036854775808 : Int)) ≤ (64 : Int)) ∧ ((64 : Int) ≤ (9223372036854775807 : Int)))) ∧
                (br (eqi ((v4).snd).snd ((v5).snd).snd)
                 (br (eqi ((v4).snd).fst ((v5).snd).fst)
                   (((List.length (v4).fst) ≤ 140737488355328) ∧
                    (br v6
                     (br (eqi (v7).snd (0 : Int))
                       (br (eqi (v8).snd (0 : Int))
                         (((List.length (v7).fst) ≤ 140737488355328) ∧
                          (K (.one (.dat Ty.bool v9)) []))
                         (K (.one (.dat Ty.bool false)) []))
                       (K (.one (.dat Ty.bool false)) []))
                     (K (.one (.dat Ty.bool false)) [])))
                   (K (.one (.dat Ty.bool false)) []))
                 (K (.one (.dat Ty.bool false)) []))))))))
       (br (!(eqb (eqi (v1).snd (0 : Int)) (eqi ((v2).snd).snd (0 : Int))))
         (K (.one (.dat Ty.bool false)) [])
         (br (eqi ((v2).snd).snd (0 : Int))
           (br (!(eqi ((v2).snd).fst x5))
             (K (.one (.dat Ty.bool false)) [])
             (((List.length (v2).fst) ≤ 140737488355328) ∧
              (br (!v3)
               (K (.one (.dat Ty.bool false)) [])
               (br (!(eqi ((v2).snd).snd (0 : Int)))
                 (br (!(eqi ((v2).snd).snd (4 : Int)))
                   (K (.one (.dat Ty.bool false)) [])
                   (((((-(9223372036854775808 : Int)) ≤ (0 : Int)) ∧ ((0 : Int) ≤ (9223372036854775807 : Int))) ∧ (((-(9223372036854775808 : Int)) ≤ (64 : Int)) ∧ ((64 : Int) ≤ (9223372036854775807 : Int)))) ∧
                    (((((-(9223372036854775808 : Int)) ≤ (0 : Int)) ∧ ((0 : Int) ≤ (9223372036854775807 : Int))) ∧ (((-(9223372036854775808 : Int)) ≤ (64 : Int)) ∧ ((64 : Int) ≤ (9223372036854775807 : Int)))) ∧
                    (br (eqi ((v4).snd).snd ((v5).snd).snd)
                     (br (eqi ((v4).snd).fst ((v5).snd).fst)
                       (((List.length (v4).fst) ≤ 140737488355328) ∧
                        (br v6
                         (br (eqi (v7).snd (0 : Int))
                           (br (eqi (v8).snd (0 : Int))
                             (((List.length (v7).fst) ≤ 140737488355328) ∧
                              (K (.one (.dat Ty.bool v9)) []))
                             (K (.one (.dat Ty.bool false)) []))
                           (K (.one (.dat Ty.bool false)) []))
                         (K (.one (.dat Ty.bool false)) [])))
                       (K (.one (.dat Ty.bool false)) []))
                     (K (.one (.dat Ty.bool false)) [])))))
                 (((((-(9223372036854775808 : Int)) ≤ (0 : Int)) ∧ ((0 : Int) ≤ (9223372036854775807 : Int))) ∧ (((-(9223372036854775808 : Int)) ≤ (64 : Int)) ∧ ((64 : Int) ≤ (9223372036854775807 : Int)))) ∧
                  (((((-(9223372036854775808 : Int)) ≤ (0 : Int)) ∧ ((0 : Int) ≤ (9223372036854775807 : Int))) ∧ (((-(9223372036854775808 : Int)) ≤ (64 : Int)) ∧ ((64 : Int) ≤ (9223372036854775807 : Int)))) ∧
                  (br (eqi ((v4).snd).snd ((v5).snd).snd)
                   (br (eqi ((v4).snd).fst ((v5).snd).fst)
                     (((List.length (v4).fst) ≤ 140737488355328) ∧
                      (br v6
                       (br (eqi (v7).snd (0 : Int))
                         (br (eqi (v8).snd (0 : Int))
                           (((List.length (v7).fst) ≤ 140737488355328) ∧
                            (K (.one (.dat Ty.bool v9)) []))
                           (K (.one (.dat Ty.bool false)) []))
                         (K (.one (.dat Ty.bool false)) []))
                       (K (.one (.dat Ty.bool false)) [])))
                     (K (.one (.dat Ty.bool false)) []))
                   (K (.one (.dat Ty.bool false)) []))))))))
           (br (!(eqi ((v2).snd).snd (0 : Int)))
             (br (!(eqi ((v2).snd).snd (4 : Int)))
               (K (.one (.dat Ty.bool false)) [])
               (((((-(9223372036854775808 : Int)) ≤ (0 : Int)) ∧ ((0 : Int) ≤ (9223372036854775807 : Int))) ∧ (((-(9223372036854775808 : Int)) ≤ (64 : Int)) ∧ ((64 : Int) ≤ (9223372036854775807 : Int)))) ∧
                (((((-(9223372036854775808 : Int)) ≤ (0 : Int)) ∧ ((0 : Int) ≤ (9223372036854775807 : Int))) ∧ (((-(9223372036854775808 : Int)) ≤ (64 : Int)) ∧ ((64 : Int) ≤ (9223372036854775807 : Int)))) ∧
                (br (eqi ((v4).snd).snd ((v5).snd).snd)
                 (br (eqi ((v4).snd).fst ((v5).snd).fst)
                   (((List.length (v4).fst) ≤ 140737488355328) ∧
                    (br v6
                     (br (eqi (v7).snd (0 : Int))
                       (br (eqi (v8).snd (0 : Int))
                         (((List.length (v7).fst) ≤ 140737488355328) ∧
                          (K (.one (.dat Ty.bool v9)) []))
                         (K (.one (.dat Ty.bool false)) []))
                       (K (.one (.dat Ty.bool false)) []))
                     (K (.one (.dat Ty.bool false)) [])))
                   (K (.one (.dat Ty.bool false)) []))
                 (K (.one (.dat Ty.bool false)) [])))))
             (((((-(9223372036854775808 : Int)) ≤ (0 : Int)) ∧ ((0 : Int) ≤ (9223372036854775807 : Int))) ∧ (((-(9223372036854775808 : Int)) ≤ (64 : Int)) ∧ ((64 : Int) ≤ (9223372036854775807 : Int)))) ∧
              (((((-(9223372036854775808 : Int)) ≤ (0 : Int)) ∧ ((0 : Int) ≤ (9223372036854775807 : Int))) ∧ (((-(9223372036854775808 : Int)) ≤ (64 : Int)) ∧ ((64 : Int) ≤ (9223372036854775807 : Int)))) ∧
              (br (eqi ((v4).snd).snd ((v5).snd).snd)
               (br (eqi ((v4).snd).fst ((v5).snd).fst)
                 (((List.length (v4).fst) ≤ 140737488355328) ∧
                  (br v6
                   (br (eqi (v7).snd (0 : Int))
                     (br (eqi (v8).snd (0 : Int))
                       (((List.length (v7).fst) ≤ 140737488355328) ∧
                        (K (.one (.dat Ty.bool v9)) []))
                       (K (.one (.dat Ty.bool false)) []))
                     (K (.one (.dat Ty.bool false)) []))
                   (K (.one (.dat Ty.bool false)) [])))
                 (K (.one (.dat Ty.bool false)) []))
               (K (.one (.dat Ty.bool false)) [])))))))))) := by subst hv9; subst hv8; subst hv7; subst hv6; subst hv5; subst hv4; subst hv3; subst hv2; subst hv1; subst hv0; kernel_rfl
theorem law_SlotHolds_w0 (x0 : Int) (x1 : Int) (x2 : Bool) (x3 : Int) (x4 : (List Int)) (x5 : Int) (x6 : Int) (x7 : (List Int)) (x8 : Int) (x9 : (List Int)) (x10 : Int) (m : Nat) (K : V → List Blk → Prop) : goD Γ_law_SlotHolds tab fn_law_SlotHolds 0 K (m + 1) law_SlotHolds_L0 (law_SlotHolds_S0 x0 x1 x2 x3 x4 x5 x6 x7 x8 x9 x10) = segD Γ_law_SlotHolds tab fn_law_SlotHolds 0 K (goD Γ_law_SlotHolds tab fn_law_SlotHolds 0 K m) (.code (Code.sub (bodyOf fn_law_SlotHolds) [1, 1, 1, 1, 1, 1, 0, 1, 0, 0]) :: law_SlotHolds_L0) (law_SlotHolds_S0 x0 x1 x2 x3 x4 x5 x6 x7 x8 x9 x10) := rfl

theorem loop_law_SlotHolds (s : Nat) (hs : s ≤ 1) (ws cs m : List Int) (name fuel : Int) (hm : m.length ≤ 40) (hcl : cs.length = 192) (hc : okWords cs = true) (K : V → List Blk → Prop) (hK : K (.one (.dat .bool true)) [])
    (hend : ∀ M k : Nat, m.length ≤ k → k ≤ 48 → okWords m = true → goD Γ_law_SlotHolds tab fn_law_SlotHolds 0 K (M + 1) law_SlotHolds_L0 (law_SlotHolds_S0 (k : Int) 0 false (s : Int) m name fuel (applyCh cs (burnCh (68 + 64 * (s : Int)) m)) (-1) ws (-1))) :
    ∀ (d k : Nat), m.length ≤ k + d → k ≤ 48 → okWords (m.take k) = true →
    goD Γ_law_SlotHolds tab fn_law_SlotHolds 0 K (d + 1) law_SlotHolds_L0 (law_SlotHolds_S0 (k : Int) 0 false (s : Int) m name fuel (applyCh cs (burnCh (68 + 64 * (s : Int)) (m.take k))) (-1) ws (-1))
  | 0, k, hk, h48, hok => by
    rw [List.take_of_length_le (by omega)] at hok ⊢
    exact hend 0 k (by omega) h48 hok
  | d + 1, k, hk, h48, hok => by
    by_cases c : m.length ≤ k
    · rw [List.take_of_length_le c] at hok ⊢
      exact hend (d + 1) k c h48 hok
    · have lt : (m.take k).length = k := by simp; omega
      have xok : okWords (applyCh cs (burnCh (68 + 64 * (s : Int)) (m.take k))) = true := burn_ok (by omega) (by omega) hc hok
      have xl : (applyCh cs (burnCh (68 + 64 * (s : Int)) (m.take k))).length = 192 := (applyCh_len _ _).trans hcl
      have tp := take_piece m k (by omega)
      obtain ⟨x, hx⟩ : ∃ x, applyCh cs (burnCh (68 + 64 * (s : Int)) (m.take k)) = x := ⟨_, rfl⟩
      obtain ⟨p, hp⟩ : ∃ p, slc m k (min m.length (k + 8)) = p := ⟨_, rfl⟩
      rw [hx] at xok xl ⊢
      rw [hp] at tp
      have lp : p.length = min m.length (k + 8) - k := by rw [← hp]; simp [slc]
      have ef : fillS ⟨x, -1⟩ (s : Int) (k : Int) p = programF ⟨x, -1⟩ (68 + 64 * (s : Int) + (k : Int)) p := by
        unfold fillS
        rw [if_pos (checkSlot_mk xl (by simp) (by simp) xok hs), if_pos (by omega)]
      rw [law_SlotHolds_w0, law_SlotHolds_vc0 _ _ _ _ _ _ _ _ _ _ _ _ _ _ rfl _ rfl _ rfl _ rfl _ rfl _ rfl _ rfl _ rfl _ rfl _ rfl, w64_id (n := (k : Int) + 8) (by omega) (by omega), show (min (((len m) : Nat) : Int) ((k : Int) + 8)) = ((min m.length (k + 8) : Nat) : Int) by simp only [len]; omega, toNat_nat, toNat_nat, hp, ef]
      refine lt_t (by simp only [len]; omega) ⟨⟨by omega, by omega, by simp only [len]; omega⟩, by omega, ?_⟩
      by_cases c2 : okWords p = true
      · have e1 : programF ⟨x, -1⟩ (68 + 64 * (s : Int) + (k : Int)) p = (⟨applyCh x (burnCh (68 + 64 * (s : Int) + (k : Int)) p), -1⟩, 0) := by
          rw [programF_ok (by simp only [xl]; rfl) (by simp) (by simp) xok (by omega) (by simp only [xl]; omega) c2, doCh_free]; rfl
        rw [e1]
        refine ne_f rfl ?_
        have := loop_law_SlotHolds s hs ws cs m name fuel hm hcl hc K hK hend d (k + 8) (by omega) (by omega) (by rw [tp]; unfold okWords at *; rw [List.all_append, hok, c2]; rfl)
        rw [tp, burnCh_append, applyCh_append, lt, hx] at this
        exact this
      · have e1 : programF ⟨x, -1⟩ (68 + 64 * (s : Int) + (k : Int)) p = (noFlash, 3) := by
          unfold programF
          rw [if_pos (checkFlash_mk (by simp only [xl]; rfl) (by simp) (by simp) xok), if_pos (by simp only [xl]; omega), if_neg c2]
        rw [e1]
        exact ne_t (by decide) hK
theorem end_law_SlotHolds (s : Nat) (hs : s ≤ 1) (ws g m : List Int) (name fuel : Int) (hm : m.length ≤ 40) (hwl : ws.length = 192) (hw : okWords ws = true) (hgl : g.length = 192) (hg : okWords g = true)
    (hg0 : ∀ i, 64 + 64 * s ≤ i → i < 68 + 64 * s → g.getD i 0 = 65535) (hg1 : slc g (68 + 64 * s) (68 + 64 * s + m.length) = m) (hg2 : ∀ i, i < 64 + 64 * s ∨ 128 + 64 * s ≤ i → g.getD i 0 = ws.getD i 0)
    (K : V → List Blk → Prop) (hK : K (.one (.dat .bool true)) []) (M k : Nat) (hk : m.length ≤ k) :
    goD Γ_law_SlotHolds tab fn_law_SlotHolds 0 K (M + 1) law_SlotHolds_L0 (law_SlotHolds_S0 (k : Int) 0 false (s : Int) m name fuel g (-1) ws (-1)) := by
  rw [law_SlotHolds_w0, law_SlotHolds_vc0 _ _ _ _ _ _ _ _ _ _ _ _ _ _ rfl _ rfl _ rfl _ rfl _ rfl _ rfl _ rfl _ rfl _ rfl _ rfl]
  have q0 := Int.emod_nonneg fuel (show (6 : Int) ≠ 0 by omega)
  have q1 := Int.emod_lt_of_pos fuel (show (0 : Int) < 6 by omega)
  obtain ⟨q, hq⟩ := Int.eq_ofNat_of_zero_le q0
  rw [hq] at q1 ⊢
  rw [show ((len m : Nat) : Int) = (m.length : Int) from rfl]
  have csg : checkSlot ⟨g, (q : Int)⟩ (s : Int) = 0 := checkSlot_mk hgl (by omega) (by omega) hg hs
  refine lt_f (by omega) ⟨⟨by omega, by omega⟩, ?_⟩
  by_cases ch : okHead (m.length : Int) name = true
  case neg =>
    rw [show sealS ⟨g, (q : Int)⟩ (s : Int) (m.length : Int) name = (noFlash, 3) from by unfold sealS; rw [if_pos csg, if_neg ch]]
    exact ne_t (by decide) (ne_t (by decide) hK)
  have ch' := ch
  simp only [okHead, Bool.and_eq_true, decide_eq_true_eq] at ch'
  have hd : okWords (headOf (m.length : Int) name) = true := by
    simp only [headOf, okWords, okWord, List.all_cons, List.all_nil, Bool.and_eq_true, decide_eq_true_eq, Bool.and_true]; omega
  have hdl : (headOf (m.length : Int) name).length = 4 := rfl
  obtain ⟨hd4, hhd⟩ : ∃ x, headOf (m.length : Int) name = x := ⟨_, rfl⟩
  have es : sealS ⟨g, (q : Int)⟩ (s : Int) (m.length : Int) name = power (doCh ⟨g, (q : Int)⟩ (burnCh (64 + 64 * (s : Int)) hd4)) := by
    unfold sealS
    rw [if_pos csg, if_pos ch, hhd]
    rw [hhd] at hd hdl
    exact programF_ok (by simp only [hgl]; rfl) (by simp only; omega) (by simp only; omega) hg (by omega) (by simp only [hgl]; omega) hd
  rw [doCh_weak] at es
  rw [hhd] at hd hdl
  rw [hdl] at es
  have lt : (hd4.take q).length = min q 4 := by rw [List.length_take, hdl]
  have hok : okWords (applyCh g (burnCh (64 + 64 * (s : Int)) (hd4.take q))) = true := burn_ok (by omega) (by omega) hg (okWords_take hd q)
  have hhl : (applyCh g (burnCh (64 + 64 * (s : Int)) (hd4.take q))).length = 192 := (applyCh_len _ _).trans hgl
  have h_at : ∀ i : Nat, (applyCh g (burnCh (64 + 64 * (s : Int)) (hd4.take q))).getD i 0 = if 64 + 64 * s ≤ i ∧ i < 64 + 64 * s + min q 4 then hd4.getD (i - (64 + 64 * s)) 0 else g.getD i 0 := fun i => by
    rw [burn_at (hd4.take q) _ g (by omega) (by omega) i, lt]
    by_cases c : 64 + 64 * s ≤ i ∧ i < 64 + 64 * s + min q 4
    · rw [if_pos (by omega), if_pos c, hg0 i (by omega) (by omega), show (64 + 64 * (s : Int)).toNat = 64 + 64 * s by omega, andi_all (okWords_at (okWords_take hd q) _ (by omega))]
      simp only [List.getD_eq_getElem?_getD]
      rw [List.getElem?_take_of_lt (by omega)]
    · rw [if_neg (by omega), if_neg c]
  obtain ⟨h, hh⟩ : ∃ x, applyCh g (burnCh (64 + 64 * (s : Int)) (hd4.take q)) = x := ⟨_, rfl⟩
  rw [hh] at es hok hhl h_at
  have h_out : ∀ i, i < 64 + 64 * s ∨ 128 + 64 * s ≤ i → h.getD i 0 = ws.getD i 0 := fun i hi => by
    rw [h_at, if_neg (by omega), hg2 i hi]
  have other : ∀ hf : Int, -1 ≤ hf → hf ≤ 100000 → imageS ⟨ws, -1⟩ (w64 (1 - (s : Int))) = imageS ⟨h, hf⟩ (w64 (1 - (s : Int))) := fun hf f1 f2 => by
    rw [w64_id (by omega) (by omega), show 1 - (s : Int) = ((1 - s : Nat) : Int) by omega]
    exact (imageS_alike (checkSlot_mk hhl f1 f2 hok (by omega)) (checkSlot_mk hwl (by simp) (by simp) hw (by omega)) (hhl.trans hwl.symm) (fun i h1 h2 => h_out i (by omega))).symm
  have r1 : readF ⟨ws, -1⟩ 0 64 = (slc ws 0 64, 0) := by
    unfold readF
    rw [if_pos (checkFlash_mk (by simp only [hwl]; rfl) (by simp) (by simp) hw), if_pos (by simp only [hwl]; omega)]; rfl
  have r2 : ∀ hf : Int, -1 ≤ hf → hf ≤ 100000 → readF ⟨h, hf⟩ 0 64 = (slc h 0 64, 0) := fun hf f1 f2 => by
    unfold readF
    rw [if_pos (checkFlash_mk (by simp only [hhl]; rfl) f1 f2 hok), if_pos (by simp only [hhl]; omega)]; rfl
  have e64 : slc h 0 64 = slc ws 0 64 := slc_alike _ _ (hhl.trans hwl.symm) (fun i _ h2 => h_out i (by omega))
  have is6 : (imageS ⟨ws, -1⟩ (w64 (1 - (s : Int)))).1.length ≤ 140737488355328 := by
    unfold imageS
    split
    · exact imageR_len _ _ (by simp only [hwl]; omega)
    · exact Nat.zero_le _
  have s64 : (slc ws 0 64).length ≤ 140737488355328 := slc_le _ _ _ (by omega)
  have eq : ∀ l : List Int, eqIs l l = true := fun l => by simp [eqIs]
  rw [es]
  by_cases c : 4 ≤ q
  · have hsl : sealedAt h (beginS (s : Int)) = true ∧ h.getD (64 + 64 * s) 0 = (m.length : Int) ∧ h.getD (64 + 64 * s + 1) 0 = name := by
      rw [beginS_nat]
      have e0 := h_at (64 + 64 * s); have e1 := h_at (64 + 64 * s + 1); have e2 := h_at (64 + 64 * s + 2); have e3 := h_at (64 + 64 * s + 3)
      rw [if_pos (by omega), ← hhd] at e0 e1 e2 e3
      rw [show 64 + 64 * s - (64 + 64 * s) = 0 by omega] at e0
      rw [show 64 + 64 * s + 1 - (64 + 64 * s) = 1 by omega] at e1
      rw [show 64 + 64 * s + 2 - (64 + 64 * s) = 2 by omega] at e2
      rw [show 64 + 64 * s + 3 - (64 + 64 * s) = 3 by omega] at e3
      refine ⟨?_, e0, e1⟩
      unfold sealedAt
      rw [e0, e1, e2, e3]
      simp only [headOf, List.getD_cons_zero, List.getD_cons_succ, ch, decide_true, Bool.true_and]
    have eimg : imageS ⟨h, (q : Int) - 4⟩ (s : Int) = (m, name, 0) := by
      unfold imageS
      rw [if_pos (checkSlot_mk hhl (by omega) (by omega) hok hs), if_pos hsl.1]
      unfold imageR
      rw [if_pos hsl.1, beginS_nat, hsl.2.1, hsl.2.2, toNat_nat]
      have : slc h (68 + 64 * s) (68 + 64 * s + m.length) = m := (slc_alike _ _ (hhl.trans hgl.symm) (fun i h1 h2 => by rw [h_at, if_neg (by omega)])).trans hg1
      rw [show 64 + 64 * s + 4 = 68 + 64 * s by omega]
      rw [this]
    rw [show (decide (4 ≤ q)) = true from by simp [c], if_pos c]
    simp only [power, powerE]
    rw [show ((4 : Nat) : Int) = 4 from rfl, eimg]
    refine ne_f rfl (nt_f rfl (eq_t rfl (ne_f rfl ⟨by show m.length ≤ _; omega, nt_f (eq m) (ne_f rfl ⟨by omega, by omega, ?_⟩)⟩)))
    rw [← other ((q : Int) - 4) (by omega) (by omega), r1, r2 ((q : Int) - 4) (by omega) (by omega), e64, eq, eq]
    exact eq_t rfl (eq_t rfl ⟨is6, br_t rfl (eq_t rfl (eq_t rfl ⟨s64, hK⟩))⟩)
  · have hsl : sealedAt h (beginS (s : Int)) = false := by
      rw [beginS_nat]
      cases hc : sealedAt h (64 + 64 * s)
      · rfl
      · have := sealedAt_ok hc
        have e3 := h_at (64 + 64 * s + 3)
        rw [if_neg (by omega), hg0 _ (by omega) (by omega)] at e3
        omega
    have eimg : imageS ⟨h, 0⟩ (s : Int) = ([], 0, 4) := by
      unfold imageS
      rw [if_pos (checkSlot_mk hhl (by omega) (by omega) hok hs)]
      unfold imageR
      rw [hsl]; rfl
    rw [show (decide (4 ≤ q)) = false from by simp [c], if_neg c]
    simp only [power, powerE]
    rw [eimg]
    refine ne_t (by decide) (ne_f rfl (nt_f rfl (eq_f (by decide) (ne_t (by decide) (ne_f rfl ⟨by omega, by omega, ?_⟩)))))
    rw [← other 0 (by omega) (by omega), r1, r2 0 (by omega) (by omega), e64, eq, eq]
    exact eq_t rfl (eq_t rfl ⟨is6, br_t rfl (eq_t rfl (eq_t rfl ⟨s64, hK⟩))⟩)
set_option maxHeartbeats 4000000 in
theorem run_law_SlotHolds (ws : List Int) (fu which : Int) (l : List Int) (name fuel : Int) (hp : len ws * 8 ≤ 140737488351232 ∧ Sm l ∧ I64 which ∧ I64 name ∧ I64 fuel) (K : V → List Blk → Prop) (hK : K (.one (.dat .bool true)) []) : ∃ m, goD Γ_law_SlotHolds tab fn_law_SlotHolds 0 K m [.code (bodyOf fn_law_SlotHolds)] (initSt [.agg [.dat (.list .int) ws, .dat .int fu], .one (.dat .int which), .one (.dat (.list .int) l), .one (.dat .int name), .one (.dat .int fuel)] []) := by
  obtain ⟨hw, hl, hwh, hna, hfu⟩ := hp
  have p0 := Int.emod_nonneg which (show (2 : Int) ≠ 0 by omega)
  have p1 := Int.emod_lt_of_pos which (show (0 : Int) < 2 by omega)
  obtain ⟨s, hs⟩ := Int.eq_ofNat_of_zero_le p0
  rw [hs] at p1
  have hs1 : s ≤ 1 := by omega
  have emin : (min (((len l) : Nat) : Int) 40) = ((min l.length 40 : Nat) : Int) := by simp only [len]; omega
  by_cases c0 : (clearS ⟨ws, -1⟩ (s : Int)).2 = 0
  case neg =>
    refine ⟨1, ?_⟩
    rw [law_SlotHolds_w, law_SlotHolds_vc _ _ _ _ _ _ _ _ _ rfl, hs]
    exact ⟨⟨by omega, by omega⟩, ⟨by omega, by omega, by simp only [len]; omega⟩, ne_t c0 hK⟩
  obtain ⟨c1, e0⟩ := clearS_out (.inl c0)
  obtain ⟨k1, k2, _⟩ := checkSlot_ok c1
  obtain ⟨_, _, _, k4⟩ := checkFlash_ok k1
  simp only at k2 k4
  rw [doCh_free] at e0
  obtain ⟨d1, d2, d3⟩ := clear_at k2 hs1 k4
  have dl : (applyCh ws (clearCh (s : Int))).length = 192 := (applyCh_len _ _).trans k2
  obtain ⟨cs, hcs⟩ : ∃ x, applyCh ws (clearCh (s : Int)) = x := ⟨_, rfl⟩
  rw [hcs] at e0 d1 d2 d3 dl
  obtain ⟨m, hm⟩ : ∃ x, l.take (min l.length 40) = x := ⟨_, rfl⟩
  have lm : m.length ≤ 40 := by rw [← hm, List.length_take]; omega
  refine ⟨40 + 1 + 1, ?_⟩
  rw [law_SlotHolds_w, law_SlotHolds_vc _ _ _ _ _ _ _ _ _ rfl, hs, e0]
  simp only [power]
  rw [emin, toNat_nat, show Int.toNat (0 : Int) = 0 from rfl, slc_take, hm]
  refine ⟨⟨by omega, by omega⟩, ⟨by omega, by omega, by simp only [len]; omega⟩, ne_f rfl ?_⟩
  refine loop_law_SlotHolds s hs1 ws cs m name fuel lm dl d1 K hK (fun M k h1 h2 h3 => ?_) 40 0 (by omega) (by omega) rfl
  have b_at := burn_at m (68 + 64 * (s : Int)) cs (by omega) (by omega)
  refine end_law_SlotHolds s hs1 ws _ m name fuel lm k2 k4 ((applyCh_len _ _).trans dl) (burn_ok (by omega) (by omega) d1 h3) (fun i i1 i2 => ?_) ?_ (fun i hi => ?_) K hK M k h1
  · rw [b_at, if_neg (by omega), d2 i i1 (by omega)]
  · refine ext_getD (by rw [slc_len _ _ _ (by rw [applyCh_len, dl]; omega)]) fun i hi => ?_
    rw [slc_len _ _ _ (by rw [applyCh_len, dl]; omega)] at hi
    rw [slc_getD _ _ _ _ (by omega), b_at, if_pos (by omega), d2 _ (by omega) (by omega), andi_all (okWords_at h3 _ (by omega))]
    rw [show 68 + 64 * s + i - (68 + 64 * (s : Int)).toNat = i by omega]
  · rw [b_at, if_neg (by omega), d3 i hi]
theorem sound_law_SlotHolds : SoundC Try.prog tab n_law_SlotHolds c_law_SlotHolds := soundC_of ok_law_SlotHolds hf_law_SlotHolds hB_law_SlotHolds (by
  intro vs bs p v bs' h hp
  unfold c_law_SlotHolds at h
  split at h
  · cases h
    exact ⟨by kernel_rfl, rfl, .inl (run_law_SlotHolds _ _ _ _ _ _ hp.1 _ ⟨rfl, rfl⟩)⟩
  · cases h)
end Go.Proofs.Ytlbppjmekiemiaa
