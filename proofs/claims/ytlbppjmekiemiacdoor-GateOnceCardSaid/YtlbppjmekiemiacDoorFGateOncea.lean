/- What the functions of GateOnce compute (part 1 of 2). No condition. -/
import Derived.Test.YtlbppjmekiemiacDoorTab
import Derived.Test.YtlbppjmekiemiacDoorSpec
import Derived.KernelRfl
import Derived.WalkKit
import Derived.Lib.Mul64
import Derived.Laws.Bits64b
import Derived.Test.YtlbppjmekiemiacDoorShelf
/- math/bits.Mul: the whole product. Both factors are of 64 bits. -/
namespace Go.Proofs.YtlbppjmekiemiacDoor
open Go.RowKit Go.Lib Vm
namespace Mul64
theorem maskN (a : Nat) (ha : a < 18446744073709551616) : bits .and .u64 (a : Int) 4294967295 = ((a % 4294967296 : Nat) : Int) := by
  have h := bits_and_u64_nat a 4294967295 ha (by omega)
  have e : a &&& 4294967295 = a % 4294967296 := Nat.and_two_pow_sub_one_eq_mod a 32
  rw [e] at h
  exact h
theorem divN (a : Nat) : (a : Int) / 4294967296 = ((a / 4294967296 : Nat) : Int) := by omega
theorem mulN (a b : Nat) : (a : Int) * (b : Int) = ((a * b : Nat) : Int) := (Int.natCast_mul a b).symm
theorem addN (a b : Nat) : (a : Int) + (b : Int) = ((a + b : Nat) : Int) := (Int.natCast_add a b).symm
theorem wrapN (a : Nat) (ha : a < 18446744073709551616) : IntKind.u64.wrap (a : Int) = (a : Int) := by rw [IntKind.wrap_u64]; omega
theorem wrapM (a : Nat) : IntKind.u64.wrap (a : Int) = ((a % 18446744073709551616 : Nat) : Int) := by rw [IntKind.wrap_u64]; omega
end Mul64
set_option maxHeartbeats 1000000 in
theorem mul64_any (x y : Nat) (hx : x < 18446744073709551616) (hy : y < 18446744073709551616) (w : World) :
    Calls Tryd.prog 155 #[.int .u64 x, .int .u64 y] w fun e w' => e = .returned (.tuple #[.int .u64 ((x * y / 18446744073709551616 : Nat) : Int), .int .u64 ((x * y % 18446744073709551616 : Nat) : Int)]) ∧ w' = w := by
  obtain ⟨bd, bt, bw, hhi⟩ := Lib.mul64_hi x y hx hy
  have ba := Lib.half_mul_le (a := x / 4294967296) (b := y / 4294967296) (by omega) (by omega)
  have bb := Lib.half_mul_le (a := x / 4294967296) (b := y % 4294967296) (by omega) (by omega)
  have bc := Lib.half_mul_le (a := x % 4294967296) (b := y / 4294967296) (by omega) (by omega)
  have ba' : x / 4294967296 * (y / 4294967296) < 18446744073709551616 := by omega
  have bb' : x / 4294967296 * (y % 4294967296) < 18446744073709551616 := by omega
  have bc' : x % 4294967296 * (y / 4294967296) < 18446744073709551616 := by omega
  have bh1 : x / 4294967296 * (y / 4294967296) + (x / 4294967296 * (y % 4294967296) + x % 4294967296 * (y % 4294967296) / 4294967296) / 4294967296 < 18446744073709551616 := by omega
  have bh : x / 4294967296 * (y / 4294967296) + (x / 4294967296 * (y % 4294967296) + x % 4294967296 * (y % 4294967296) / 4294967296) / 4294967296 + ((x / 4294967296 * (y % 4294967296) + x % 4294967296 * (y % 4294967296) / 4294967296) % 4294967296 + x % 4294967296 * (y / 4294967296)) / 4294967296 < 18446744073709551616 := by omega
  go_enter Tryd.func155, Tryd.ntmps155
  go_wp2
  simp only [Mul64.maskN x hx, Mul64.maskN y hy, Mul64.divN, Mul64.mulN, Mul64.addN, Mul64.wrapN _ bd, Mul64.wrapN _ bb', Mul64.wrapN _ bt, Mul64.maskN _ bt, Mul64.wrapN _ bc', Mul64.wrapN _ bw, Mul64.wrapN _ ba', Mul64.wrapN _ bh1, Mul64.wrapN _ bh, Mul64.wrapM (x * y)]
  rw [hhi]
  go_ret2
  exact ⟨rfl, rfl⟩
set_option maxHeartbeats 1000000 in
theorem mul_any (x y : Nat) (hx : x < 18446744073709551616) (hy : y < 18446744073709551616) (w : World) :
    Calls Tryd.prog 130 #[.int .u64 x, .int .u64 y] w fun e w' => e = .returned (.tuple #[.int .u64 ((x * y / 18446744073709551616 : Nat) : Int), .int .u64 ((x * y % 18446744073709551616 : Nat) : Int)]) ∧ w' = w := by
  have c64 := mul64_any x y hx hy w
  go_enter Tryd.func130, Tryd.ntmps130
  go_wp2_with (go_at_call 155; refine c64.mono ?_; rintro e w' ⟨rfl, hw⟩; rw [hw])
  go_ret2
  exact ⟨rfl, rfl⟩
def c_math_bits_Mul : Contract := fun vs bs => match vs, bs with
  | [.one (.dat .u64 a), .one (.dat .u64 b)], [] => some (some (inU64 a = true ∧ inU64 b = true), .tup [.one (.dat .u64 ((a * b) / two64)), .one (.dat .u64 ((a * b) % two64))], [])
  | _, _ => none
theorem sound_math_bits_Mul : SoundC Tryd.prog tab n_math_bits_Mul c_math_bits_Mul := by
  intro vs bs p v bs' h hp w S μ xs I hx
  unfold c_math_bits_Mul at h
  split at h
  · cases h
    rename_i a b
    obtain ⟨⟨h1, h2⟩, _⟩ := hp
    simp only [inU64, Bool.and_eq_true, decide_eq_true_eq] at h1 h2
    obtain ⟨x, rfl⟩ := Int.eq_ofNat_of_zero_le h1.1
    obtain ⟨y, rfl⟩ := Int.eq_ofNat_of_zero_le h2.1
    match xs, hx with
    | [X, Y], ⟨g1, g2, _⟩ =>
      have e1 := rel_u64 g1
      have e2 := rel_u64 g2
      subst e1 e2
      refine (mul_any x y (by omega) (by omega) w).mono fun e w' ⟨he, hw⟩ => ?_
      subst hw he
      refine ⟨_, μ, S, rfl, Ext.refl, I, _, rfl, rfl, fun i u hu => ?_⟩
      match i, hu with
      | 0, hu => cases hu; exact ⟨_, rfl, mk_u64 _⟩
      | 1, hu => cases hu; exact ⟨_, rfl, mk_u64 _⟩
  · cases h
end Go.Proofs.YtlbppjmekiemiacDoor

/- strconv.Itoa: the shelf's contract as one of ours. The number is no less than 0. -/
namespace Go.Proofs.YtlbppjmekiemiacDoor
open Go.RowKit Go.Lib Go.Sort Vm
def c_strconv_Itoa : Contract := fun vs bs => match vs, bs with
  | [.one (.dat .int n)], [] => some (some (0 ≤ n ∧ n ≤ 9223372036854775807), .one (.dat .str (numT n)), [])
  | _, _ => none
theorem sound_strconv_Itoa : SoundC Tryd.prog tab n_strconv_Itoa c_strconv_Itoa := by
  intro vs bs p v bs' h hp w S μ xs I hx
  unfold c_strconv_Itoa at h
  split at h
  · cases h
    rename_i n
    obtain ⟨⟨h1, h2⟩, _⟩ := hp
    have h1 : (0 : Int) ≤ n := h1
    have h2 : (n : Int) ≤ 9223372036854775807 := h2
    match xs, hx with
    | [X], ⟨g1, _⟩ =>
      have e1 := rel_int g1
      subst e1
      obtain ⟨g, hg⟩ : ∃ g, tab.pow = some g := ⟨_, rfl⟩
      obtain ⟨_, ty, m, hb⟩ := I.pow g hg
      have htab : Go.Lib.TabIs Tryd.prog w "internal/strconv.uint64pow10" .u64 Go.Lib.pow10Tab := by
        have hgn : Tryd.prog.globalNamed "internal/strconv.uint64pow10" = tab.pow := by kernel_rfl
        unfold Go.Lib.TabIs World.var?
        rw [hgn, hg]
        simp only [Option.bind_some, hb]
        rfl
      refine (Tryd.strconv_Itoa n (by omega) h2 w htab).mono fun e w' ⟨he, k, os, hw⟩ => ?_
      subst hw he
      have hsz : (grow (w.drewN k) os).heap = w.heap ++ os := rfl
      have E : Ext μ (memL []) w S μ (memL []) (grow (w.drewN k) os) S := ⟨fun _ h => h, (Ext.refl (μ := μ) (mem := memL []) (w := w) (S := S)).kinds, fun _ h => h, by rw [hsz]; simp, fun b hb _ => by rw [hsz, Array.getElem?_append_left hb], fun _ h => .inl h, fun _ h => .inl h, rfl, rfl, rfl⟩
      refine ⟨_, μ, S, rfl, E, ⟨fun r B h => by simp [memL] at h, fun r r' _ ⟨B, h, _⟩ => by simp [memL] at h, fun r ⟨B, h, _⟩ => by simp [memL] at h, fun b hb => Nat.lt_of_lt_of_le (I.lt b hb) E.size, I.powExt E⟩, ?_⟩
      rw [itoa_eq h1 h2]
      exact mk_str _
  · cases h
end Go.Proofs.YtlbppjmekiemiacDoor

/- strings.Join: the shelf's contract as one of ours. What comes of it is no longer than memory holds. -/
namespace Go.Proofs.YtlbppjmekiemiacDoor
open Go.RowKit Go.Lib Vm
theorem below_EI {μ : Mu} {w w' : World} {S : Nat → Prop} (I : Inv tab μ (memL []) w S) (hb : Below w.heap.size w w') : Ext μ (memL []) w S μ (memL []) w' S ∧ Inv tab μ (memL []) w' S := by
  have E : Ext μ (memL []) w S μ (memL []) w' S := ⟨fun _ h => h, (Ext.refl (μ := μ) (mem := memL []) (w := w) (S := S)).kinds, fun _ h => h, hb.size, fun b hlt _ => hb.block b hlt, fun _ h => .inl h, fun _ h => .inl h, hb.os, hb.tape, hb.output⟩
  exact ⟨E, ⟨fun r B h => by simp [memL] at h, fun r r' _ ⟨B, h, _⟩ => by simp [memL] at h, fun r ⟨B, h, _⟩ => by simp [memL] at h, fun b hb => Nat.lt_of_lt_of_le (I.lt b hb) E.size, I.powExt E⟩⟩
def c_strings_Join : Contract := fun vs bs => match vs, bs with
  | [.one (.dat (.list .str) l), .one (.dat .str sep)], [] => some (some (l.length ≤ 140737488355328 ∧ (joinT sep l).length ≤ 140737488355328), .one (.dat .str (joinT sep l)), [])
  | _, _ => none
theorem sound_strings_Join : SoundC Tryd.prog tab n_strings_Join c_strings_Join := by
  intro vs bs p v bs' h hp w S μ xs I hx
  unfold c_strings_Join at h
  split at h
  · cases h
    rename_i l sep
    obtain ⟨⟨h1, h2⟩, _⟩ := hp
    match xs, hx with
    | [X, Y], ⟨g1, g2, _⟩ =>
      have e2 := rel_str g2
      subst e2
      obtain ⟨_, hr⟩ := g1
      cases hr with
      | empty t a cap =>
        refine (Tryd.strings_Join_none a cap ⟨sep.toArray⟩ w).mono fun e w' ⟨he, hw⟩ => ?_
        subst hw he
        exact ⟨_, μ, S, rfl, Ext.refl, I, mk_str []⟩
      | list t l b off cap cs hS hcap hc hr =>
        have hm : (l.map fun s : List UInt8 => (⟨s.toArray⟩ : ByteArray)).map (·.data.toList) = l := by simp [List.map_map, Function.comp_def]
        have hj : (Go.Lib.join ((l.map fun s : List UInt8 => (⟨s.toArray⟩ : ByteArray)).map (·.data.toList)) (⟨sep.toArray⟩ : ByteArray).data.toList) = joinT sep l := by rw [hm]; exact join_eq sep l
        have key := Tryd.strings_Join b off cap (l.map fun s : List UInt8 => (⟨s.toArray⟩ : ByteArray)) ⟨sep.toArray⟩ w (fun j x hx => by
          rw [List.getElem?_map] at hx
          obtain ⟨s, hs, rfl⟩ := Option.map_eq_some_iff.1 hx
          have hjl : j < l.length := (List.getElem?_eq_some_iff.1 hs).1
          have c1 := hc j 0 hjl (by decide)
          have e : nth l j (Ty.dflt .str) = s := by simp [nth, List.getD_eq_getElem?_getD, hs]
          have c2 := hr j 0 (.dat .str s) hjl (by rw [e]; rfl)
          have c3 : cs j 0 = .string ⟨s.toArray⟩ := by
            generalize cs j 0 = y at c2
            cases c2; rfl
          rw [c3] at c1
          simpa [at0, Ty.width] using c1) (I.lt b hS) (by simpa using h1) (by simpa using hcap) (by rw [hj]; exact h2)
        rw [List.length_map, hj] at key
        refine key.mono fun e w' ⟨he, hb⟩ => ?_
        subst he
        obtain ⟨E, I'⟩ := below_EI I hb
        exact ⟨_, μ, S, rfl, E, I', mk_str _⟩
  · cases h
end Go.Proofs.YtlbppjmekiemiacDoor
namespace Go.Proofs.YtlbppjmekiemiacDoor
open Vm
def c_law_at : Contract := fun vs bs => match vs, bs with
  | [.one (.dat .int k), .one (.dat .int n)], [] => some (some (0 < n ∧ n ≤ 1000), .one (.dat .int (k % n)), [])
  | _, _ => none
def Γ_law_at : Ctx := []
theorem ok_law_at : Ok Tryd.prog tab Γ_law_at := ok_nil
theorem law_at_vc (k : Int) (n : Int) (rec : RK) (K : KK) : segD Γ_law_at tab fn_law_at 0 K rec [.code (bodyOf fn_law_at)] (initSt [.one (dI k), .one (dI n)] []) = (
 (n ≠ (0 : Int)) ∧
 (br (lti (Int.tmod k n) (0 : Int))
 (K (.one (dI (w64 ((Int.tmod k n) + n)))) [])
 (K (.one (dI (Int.tmod k n))) []))) := by kernel_rfl
theorem law_at_w (m : Nat) (K : KK) (st : St) : goD Γ_law_at tab fn_law_at 0 K (m + 1) [.code (bodyOf fn_law_at)] st = segD Γ_law_at tab fn_law_at 0 K (goD Γ_law_at tab fn_law_at 0 K m) [.code (bodyOf fn_law_at)] st := rfl

set_option maxHeartbeats 4000000 in
theorem run_law_at (k n : Int) (hp : 0 < n ∧ n ≤ 1000) (K : KK) (hK : K (.one (dI (k % n))) []) : ∃ m, goD Γ_law_at tab fn_law_at 0 K m [.code (bodyOf fn_law_at)] (initSt [.one (dI k), .one (dI n)] []) := by
  refine ⟨1, ?_⟩
  rw [law_at_w, law_at_vc _ _ _ _]
  refine ⟨by omega, ?_⟩
  have h1 := Int.tmod_eq_emod (a := k) (b := n)
  have h2 := Int.emod_nonneg k (show n ≠ 0 by omega)
  have h3 := Int.emod_lt_of_pos k (show 0 < n by omega)
  have h4 : Int.tmod k n = k % n ∨ Int.tmod k n = k % n - n := by
    rw [h1]; split
    · left; omega
    · right; omega
  have h5 : (Int.tmod k n < 0 → Int.tmod k n = k % n - n) := by omega
  refine lt_s (fun h => ?_) (fun h => ?_)
  · rw [w64_id (by omega) (by omega), show Int.tmod k n + n = k % n by omega]; exact hK
  · rw [show Int.tmod k n = k % n by omega]; exact hK
theorem sound_law_at : SoundC Tryd.prog tab n_law_at c_law_at := soundC_of ok_law_at hf_law_at hB_law_at (by
  intro vs bs p v bs' h hp
  unfold c_law_at at h
  split at h
  · cases h
    exact ⟨by kernel_rfl, rfl, .inl (run_law_at _ _ hp.1 _ ⟨rfl, rfl⟩)⟩
  · cases h)

def c_flash_Check : Contract := fun vs bs => match vs, bs with
  | [.agg [.dat (.list .int) ws, .dat .int fu]], [] => some (none, .one (.dat .int (checkFlash ⟨ws, fu⟩)), [])
  | _, _ => none
def Γ_flash_Check : Ctx := []
theorem ok_flash_Check : Ok Tryd.prog tab Γ_flash_Check := ok_nil
noncomputable def flash_Check_L0 : List It := [.inLoop [31, 30, 29, 2] (Code.sub (bodyOf fn_flash_Check) [1, 1, 1, 0, 1, 0, 0]), .inBlock 0, .code (Code.sub (bodyOf fn_flash_Check) [1, 1, 1, 1])]
def flash_Check_S0 (x0 : Int) (x1 : Int) (x2 : (List Int)) (x3 : Int) : St := ⟨[(31, .one (dI x0)), (30, .one (dI x1)), (29, .one (dL x2)), (2, .one (dI x3))], [], 0⟩
theorem flash_Check_vc (ws : List Int) (fu : Int) (rec : RK) (K : KK) : segD Γ_flash_Check tab fn_flash_Check 0 K rec [.code (bodyOf fn_flash_Check)] (initSt [.agg [dL ws, dI fu]] []) = (
 br (eqi (((len ws) : Nat) : Int) (0 : Int))
 (K (.one (dI (4 : Int))) [])
 (((32 : Int) ≠ (0 : Int)) ∧
 (br (!(eqi (Int.tmod (((len ws) : Nat) : Int) (32 : Int)) (0 : Int)))
 (K (.one (dI (4 : Int))) [])
 (br (lti (192 : Int) (((len ws) : Nat) : Int))
 (K (.one (dI (4 : Int))) [])
 (br (lti fu (-(1 : Int)))
 (K (.one (dI (3 : Int))) [])
 (br (lti (100000 : Int) fu)
 (K (.one (dI (3 : Int))) [])
 (rec flash_Check_L0 (flash_Check_S0 (0 : Int) (((len ws) : Nat) : Int) ws (0 : Int))))))))) := by kernel_rfl
theorem flash_Check_w (m : Nat) (K : KK) (st : St) : goD Γ_flash_Check tab fn_flash_Check 0 K (m + 1) [.code (bodyOf fn_flash_Check)] st = segD Γ_flash_Check tab fn_flash_Check 0 K (goD Γ_flash_Check tab fn_flash_Check 0 K m) [.code (bodyOf fn_flash_Check)] st := rfl
theorem flash_Check_vc0 (x0 : Int) (x1 : Int) (x2 : (List Int)) (x3 : Int) (rec : RK) (K : KK) : segD Γ_flash_Check tab fn_flash_Check 0 K rec (.code (Code.sub (bodyOf fn_flash_Check) [1, 1, 1, 0, 1, 0, 0]) :: flash_Check_L0) (flash_Check_S0 x0 x1 x2 x3) = (
 br (lti x0 x1)
 ((((0 : Int) ≤ x0) ∧ (x0 < (((len x2) : Nat) : Int))) ∧
 (br (lti (nth x2 (Int.toNat x0) (Ty.dflt Ty.int)) (0 : Int))
 (K (.one (dI (3 : Int))) [])
 (br (lti (65535 : Int) (nth x2 (Int.toNat x0) (Ty.dflt Ty.int)))
 (K (.one (dI (3 : Int))) [])
 (rec flash_Check_L0 (flash_Check_S0 (w64 (x0 + (1 : Int))) x1 x2 x3)))))
 (K (.one (dI (0 : Int))) [])) := by kernel_rfl
theorem flash_Check_w0 (m : Nat) (K : KK) (st : St) : goD Γ_flash_Check tab fn_flash_Check 0 K (m + 1) flash_Check_L0 st = segD Γ_flash_Check tab fn_flash_Check 0 K (goD Γ_flash_Check tab fn_flash_Check 0 K m) (.code (Code.sub (bodyOf fn_flash_Check) [1, 1, 1, 0, 1, 0, 0]) :: flash_Check_L0) st := rfl

theorem loop_flash_Check (ws : List Int) (hl : ws.length ≤ 192) (K : KK) (hK : K (.one (dI (if okWords ws then 0 else 3))) []) : ∀ (d k : Nat), k + d = ws.length → okWords (ws.take k) = true →
    goD Γ_flash_Check tab fn_flash_Check 0 K (d + 1) flash_Check_L0 (flash_Check_S0 (k : Int) (((len ws) : Nat) : Int) ws (0 : Int))
  | 0, k, hk, he => by
    rw [flash_Check_w0, flash_Check_vc0 _ _ _ _ _ _]
    refine lt_f (by simp only [len]; omega) ?_
    rw [List.take_of_length_le (by omega)] at he
    rw [if_pos he] at hK
    exact hK
  | d + 1, k, hk, he => by
    rw [flash_Check_w0, flash_Check_vc0 _ _ _ _ _ _]
    have bad : okWord (nth ws k (Ty.dflt Ty.int)) = false → K (.one (dI 3)) [] := fun h => by
      rw [show okWords ws = false from all_false (k := k) (by omega) _ h] at hK; exact hK
    refine lt_t (by simp only [len]; omega) ⟨⟨by omega, by simp only [len]; omega⟩, lt_s (fun h => ?_) (fun h => lt_s (fun h2 => ?_) (fun h2 => ?_))⟩
    · rw [toNat_nat] at h
      exact bad (by simp only [okWord, Bool.and_eq_false_iff, decide_eq_false_iff_not]; exact .inl (by omega))
    · rw [toNat_nat] at h2
      exact bad (by simp only [okWord, Bool.and_eq_false_iff, decide_eq_false_iff_not]; exact .inr (by omega))
    · rw [w64_succ (by omega)]
      rw [toNat_nat] at h h2
      exact loop_flash_Check ws hl K hK d (k + 1) (by omega) (all_take_step (by omega) (Ty.dflt Ty.int) he (by simp [okWord, h, h2]))
set_option maxHeartbeats 4000000 in
theorem run_flash_Check (ws : List Int) (fu : Int) (K : KK) (hK : K (.one (dI (checkFlash ⟨ws, fu⟩))) []) : ∃ m, goD Γ_flash_Check tab fn_flash_Check 0 K m [.code (bodyOf fn_flash_Check)] (initSt [.agg [dL ws, dI fu]] []) := by
  refine ⟨ws.length + 2, ?_⟩
  rw [flash_Check_w, flash_Check_vc _ _ _ _]
  have four : okLen ws.length = false → K (.one (dI 4)) [] := fun h => by
    rw [show checkFlash ⟨ws, fu⟩ = 4 from by simp [checkFlash, h]] at hK; exact hK
  refine eq_s (fun h => four ?_) (fun h => ⟨by decide, ne_s (fun h2 => four ?_) (fun h2 => lt_s (fun h3 => four ?_) (fun h3 => ?_))⟩)
  · simp only [len] at h; simp [okLen]; omega
  · simp only [len] at h2; rw [Int.tmod_eq_emod_of_nonneg (by omega)] at h2; simp [okLen]; omega
  · simp only [len] at h3; simp [okLen]; omega
  · have hlen : okLen ws.length = true := by simp only [len] at h h2 h3; rw [Int.tmod_eq_emod_of_nonneg (by omega)] at h2; simp [okLen]; omega
    have three : (decide (-1 ≤ fu) && decide (fu ≤ 100000)) = false → K (.one (dI 3)) [] := fun h => by
      rw [show checkFlash ⟨ws, fu⟩ = 3 from by simp [checkFlash, hlen, h]] at hK; exact hK
    refine lt_s (fun h4 => three ?_) (fun h4 => lt_s (fun h5 => three ?_) (fun h5 => ?_))
    · simp; omega
    · simp; omega
    · refine loop_flash_Check ws (by simp only [len] at h3; omega) K ?_ ws.length 0 (by omega) rfl
      rw [show checkFlash ⟨ws, fu⟩ = if okWords ws then 0 else 3 from by simp [checkFlash, hlen, h4, h5]] at hK
      exact hK
theorem sound_flash_Check : SoundC Tryd.prog tab n_flash_Check c_flash_Check := soundC_of ok_flash_Check hf_flash_Check hB_flash_Check (by
  intro vs bs p v bs' h hp
  unfold c_flash_Check at h
  split at h
  · cases h
    exact ⟨by kernel_rfl, rfl, .inl (run_flash_Check _ _ _ ⟨rfl, rfl⟩)⟩
  · cases h)

def c_log_live : Contract := fun vs bs => match vs, bs with
  | [.agg [.dat (.list .int) ws, .dat .int _]], [] => some (some (64 ≤ len ws ∧ okWords ws = true), .tup [.one (.dat .int (liveS ws)), .one (.dat .int (liveG ws)), .one (.dat .bool (liveOk ws))], [])
  | _, _ => none
def Γ_log_live : Ctx := []
theorem ok_log_live : Ok Tryd.prog tab Γ_log_live := ok_nil
theorem log_live_vc (ws : List Int) (fu : Int) (rec : RK) (K : KK) v0 (hv0 : v0 = (K (.tup [.one (dI (0 : Int)), .one (dI (nth ws (Int.toNat (0 : Int)) (Ty.dflt Ty.int))), .one (dB (lti (0 : Int) (nth ws (Int.toNat (0 : Int)) (Ty.dflt Ty.int))))]) [])) v1 (hv1 : v1 = (K (.tup [.one (dI (1 : Int)), .one (dI (nth ws (Int.toNat (32 : Int)) (Ty.dflt Ty.int))), .one (dB true)]) [])) v2 (hv2 : v2 = (K (.tup [.one (dI (0 : Int)), .one (dI (0 : Int)), .one (dB (lti (0 : Int) (0 : Int)))]) [])) : segD Γ_log_live tab fn_log_live 0 K rec [.code (bodyOf fn_log_live)] (initSt [.agg [dL ws, dI fu]] []) = (
 (((0 : Int) ≤ (0 : Int)) ∧ ((0 : Int) < (((len ws) : Nat) : Int))) ∧
 ((((0 : Int) ≤ (32 : Int)) ∧ ((32 : Int) < (((len ws) : Nat) : Int))) ∧
 (br (eqi (nth ws (Int.toNat (0 : Int)) (Ty.dflt Ty.int)) (65535 : Int))
 (br (eqi (nth ws (Int.toNat (32 : Int)) (Ty.dflt Ty.int)) (65535 : Int))
 v2
 (br (lti (0 : Int) (nth ws (Int.toNat (32 : Int)) (Ty.dflt Ty.int)))
 v1
 v2))
 (br (eqi (nth ws (Int.toNat (32 : Int)) (Ty.dflt Ty.int)) (65535 : Int))
 (br (lti (nth ws (Int.toNat (0 : Int)) (Ty.dflt Ty.int)) (0 : Int))
 (K (.tup [.one (dI (1 : Int)), .one (dI (0 : Int)), .one (dB true)]) [])
 v0)
 (br (lti (nth ws (Int.toNat (0 : Int)) (Ty.dflt Ty.int)) (nth ws (Int.toNat (32 : Int)) (Ty.dflt Ty.int)))
 v1
 v0))))) := by subst_vars; kernel_rfl
theorem log_live_w (m : Nat) (K : KK) (st : St) : goD Γ_log_live tab fn_log_live 0 K (m + 1) [.code (bodyOf fn_log_live)] st = segD Γ_log_live tab fn_log_live 0 K (goD Γ_log_live tab fn_log_live 0 K m) [.code (bodyOf fn_log_live)] st := rfl

set_option maxHeartbeats 4000000 in
theorem run_log_live (ws : List Int) (fu : Int) (hp : 64 ≤ len ws ∧ okWords ws = true) (K : KK) (hK : K (.tup [.one (dI (liveS ws)), .one (dI (liveG ws)), .one (dB (liveOk ws))]) []) : ∃ m, goD Γ_log_live tab fn_log_live 0 K m [.code (bodyOf fn_log_live)] (initSt [.agg [dL ws, dI fu]] []) := by
  obtain ⟨hl, hok⟩ := hp
  refine ⟨1, ?_⟩
  rw [log_live_w, log_live_vc _ _ _ _ _ rfl _ rfl _ rfl]
  have o0 := getD_ok hok 0
  have o1 := getD_ok hok 32
  have e0 : nth ws (Int.toNat (0 : Int)) (Ty.dflt Ty.int) = ws.getD 0 0 := rfl
  have e1 : nth ws (Int.toNat (32 : Int)) (Ty.dflt Ty.int) = ws.getD 32 0 := rfl
  rw [e0, e1]
  have g0 : genOf ws 0 = if ws.getD 0 0 = 65535 then 0 else ws.getD 0 0 := rfl
  have g1 : genOf ws 1 = if ws.getD 32 0 = 65535 then 0 else ws.getD 32 0 := rfl
  unfold liveOk liveG liveS at hK
  refine ⟨⟨by omega, by omega⟩, ⟨by omega, by omega⟩, eq_s (fun h => eq_s (fun h2 => ?_) (fun h2 => lt_s (fun h3 => ?_) (fun h3 => ?_))) (fun h => eq_s (fun h2 => lt_s (fun h3 => ?_) (fun h3 => ?_)) (fun h2 => lt_s (fun h3 => ?_) (fun h3 => ?_)))⟩
  · rw [if_pos h] at g0; rw [if_pos h2] at g1
    rw [if_neg (by omega), g0] at hK; exact hK
  · rw [if_pos h] at g0; rw [if_neg h2] at g1
    rw [if_pos (by omega), g1, show decide (0 < ws.getD 32 0) = true from decide_eq_true h3] at hK; exact hK
  · rw [if_pos h] at g0; rw [if_neg h2] at g1
    rw [if_neg (by omega), g0] at hK; exact hK
  · omega
  · rw [if_neg h] at g0; rw [if_pos h2] at g1
    rw [if_neg (by omega), g0] at hK; exact hK
  · rw [if_neg h] at g0; rw [if_neg h2] at g1
    rw [if_pos (by omega), g1, show decide (0 < ws.getD 32 0) = true from decide_eq_true (by omega)] at hK; exact hK
  · rw [if_neg h] at g0; rw [if_neg h2] at g1
    rw [if_neg (by omega), g0] at hK; exact hK
theorem sound_log_live : SoundC Tryd.prog tab n_log_live c_log_live := soundC_of ok_log_live hf_log_live hB_log_live (by
  intro vs bs p v bs' h hp
  unfold c_log_live at h
  split at h
  · cases h
    exact ⟨by kernel_rfl, rfl, .inl (run_log_live _ _ hp.1 _ ⟨rfl, rfl⟩)⟩
  · cases h)

def c_log_Check : Contract := fun vs bs => match vs, bs with
  | [.agg [.dat (.list .int) ws, .dat .int fu]], [] => some (none, .one (.dat .int (checkLog ⟨ws, fu⟩)), [])
  | _, _ => none
def Γ_log_Check : Ctx := [(n_flash_Check, c_flash_Check), (n_log_live, c_log_live)]
theorem ok_log_Check : Ok Tryd.prog tab Γ_log_Check := ((ok_nil.consC hf_log_live hB_log_live sound_log_live).consC hf_flash_Check hB_flash_Check sound_flash_Check)
theorem log_Check_vc (ws : List Int) (fu : Int) (rec : RK) (K : KK) v0 (hv0 : v0 = (checkFlash (⟨ws, fu⟩ : Flash))) v1 (hv1 : v1 = (okWords ws)) v2 (hv2 : v2 = (liveOk ws)) v3 (hv3 : v3 = (liveG ws)) : segD Γ_log_Check tab fn_log_Check 0 K rec [.code (bodyOf fn_log_Check)] (initSt [.agg [dL ws, dI fu]] []) = (
 br (!(eqi v0 (0 : Int)))
 (K (.one (dI v0)) [])
 (br (lti (((len ws) : Nat) : Int) (64 : Int))
 (K (.one (dI (4 : Int))) [])
 (((64 ≤ (len ws)) ∧ (v1 = true)) ∧
 (br (!v2)
 (K (.one (dI (5 : Int))) [])
 (br (lti (60000 : Int) v3)
 (K (.one (dI (5 : Int))) [])
 (K (.one (dI (0 : Int))) [])))))) := by subst_vars; kernel_rfl
theorem log_Check_w (m : Nat) (K : KK) (st : St) : goD Γ_log_Check tab fn_log_Check 0 K (m + 1) [.code (bodyOf fn_log_Check)] st = segD Γ_log_Check tab fn_log_Check 0 K (goD Γ_log_Check tab fn_log_Check 0 K m) [.code (bodyOf fn_log_Check)] st := rfl

set_option maxHeartbeats 4000000 in
theorem run_log_Check (ws : List Int) (fu : Int) (K : KK) (hK : K (.one (dI (checkLog ⟨ws, fu⟩))) []) : ∃ m, goD Γ_log_Check tab fn_log_Check 0 K m [.code (bodyOf fn_log_Check)] (initSt [.agg [dL ws, dI fu]] []) := by
  refine ⟨1, ?_⟩
  rw [log_Check_w, log_Check_vc _ _ _ _ _ rfl _ rfl _ rfl _ rfl]
  unfold checkLog at hK
  refine ne_s (fun h => ?_) (fun h => ?_)
  · rw [if_neg h] at hK; exact hK
  rw [if_pos h] at hK
  refine lt_s (fun h2 => ?_) (fun h2 => ?_)
  · rw [if_neg (by simp only [len] at h2 ⊢; omega)] at hK; exact hK
  rw [if_pos (by simp only [len] at h2 ⊢; omega)] at hK
  refine ⟨⟨by simp only [len] at h2 ⊢; omega, (checkFlash_ok h).2.2.2⟩, nt_s (fun h3 => ?_) (fun h3 => lt_s (fun h4 => ?_) (fun h4 => ?_))⟩
  · rw [if_neg (by simp only [liveOk, decide_eq_false_iff_not] at h3 ⊢; omega)] at hK; exact hK
  · rw [if_neg (by simp only; omega)] at hK; exact hK
  · rw [if_pos (by simp only [liveOk, decide_eq_true_eq] at h3 ⊢; omega)] at hK; exact hK
theorem sound_log_Check : SoundC Tryd.prog tab n_log_Check c_log_Check := soundC_of ok_log_Check hf_log_Check hB_log_Check (by
  intro vs bs p v bs' h hp
  unfold c_log_Check at h
  split at h
  · cases h
    exact ⟨by kernel_rfl, rfl, .inl (run_log_Check _ _ _ ⟨rfl, rfl⟩)⟩
  · cases h)

def c_meta_CheckRoot : Contract := fun vs bs => match vs, bs with
  | [.agg [.dat .int v, .dat (.list .int) ks, .dat .int t]], [] => some (none, .one (.dat .int (checkRoot v ks t)), [])
  | _, _ => none
def Γ_meta_CheckRoot : Ctx := []
theorem ok_meta_CheckRoot : Ok Tryd.prog tab Γ_meta_CheckRoot := ok_nil
noncomputable def meta_CheckRoot_L0 : List It := [.inLoop [26, 25, 24, 2, 1] (Code.sub (bodyOf fn_meta_CheckRoot) [1, 1, 1, 0, 1, 0, 0]), .inBlock 0, .code (Code.sub (bodyOf fn_meta_CheckRoot) [1, 1, 1, 1])]
def meta_CheckRoot_S0 (x0 : Int) (x1 : Int) (x2 : (List Int)) (x3 : Int) (x4 : Int) (x5 : (List Int)) (x6 : Int) : St := ⟨[(26, .one (dI x0)), (25, .one (dI x1)), (24, .one (dL x2)), (2, .one (dI x3)), (1, .one (.ptr 0 0))], [(0, .box [dI x4, dL x5, dI x6])], 1⟩
theorem meta_CheckRoot_vc (v : Int) (ks : List Int) (t : Int) (rec : RK) (K : KK) : segD Γ_meta_CheckRoot tab fn_meta_CheckRoot 0 K rec [.code (bodyOf fn_meta_CheckRoot)] (initSt [.agg [dI v, dL ks, dI t]] []) = (
 br (lti v (1 : Int))
 (K (.one (dI (3 : Int))) [])
 (br (lti (1000 : Int) v)
 (K (.one (dI (3 : Int))) [])
 (br (eqi (((len ks) : Nat) : Int) (0 : Int))
 (K (.one (dI (2 : Int))) [])
 (br (lti (6 : Int) (((len ks) : Nat) : Int))
 (K (.one (dI (2 : Int))) [])
 (rec meta_CheckRoot_L0 (meta_CheckRoot_S0 (0 : Int) (((len ks) : Nat) : Int) ks (0 : Int) v ks t)))))) := by kernel_rfl
theorem meta_CheckRoot_w (m : Nat) (K : KK) (st : St) : goD Γ_meta_CheckRoot tab fn_meta_CheckRoot 0 K (m + 1) [.code (bodyOf fn_meta_CheckRoot)] st = segD Γ_meta_CheckRoot tab fn_meta_CheckRoot 0 K (goD Γ_meta_CheckRoot tab fn_meta_CheckRoot 0 K m) [.code (bodyOf fn_meta_CheckRoot)] st := rfl
theorem meta_CheckRoot_vc0 (x0 : Int) (x1 : Int) (x2 : (List Int)) (x3 : Int) (x4 : Int) (x5 : (List Int)) (x6 : Int) (rec : RK) (K : KK) v0 (hv0 : v0 = (rec meta_CheckRoot_L0 (meta_CheckRoot_S0 (w64 (x0 + (1 : Int))) x1 x2 x3 x4 x5 x6))) : segD Γ_meta_CheckRoot tab fn_meta_CheckRoot 0 K rec (.code (Code.sub (bodyOf fn_meta_CheckRoot) [1, 1, 1, 0, 1, 0, 0]) :: meta_CheckRoot_L0) (meta_CheckRoot_S0 x0 x1 x2 x3 x4 x5 x6) = (
 br (lti x0 x1)
 ((((0 : Int) ≤ x0) ∧ (x0 < (((len x2) : Nat) : Int))) ∧
 (br (lti (nth x2 (Int.toNat x0) (Ty.dflt Ty.int)) (1 : Int))
 (K (.one (dI (3 : Int))) [])
 (br (lti (50 : Int) (nth x2 (Int.toNat x0) (Ty.dflt Ty.int)))
 (K (.one (dI (3 : Int))) [])
 (br (lti (0 : Int) x0)
 ((((0 : Int) ≤ (w64 (x0 - (1 : Int)))) ∧ ((w64 (x0 - (1 : Int))) < (((len x5) : Nat) : Int))) ∧
 (br (lei (nth x2 (Int.toNat x0) (Ty.dflt Ty.int)) (nth x5 (Int.toNat (w64 (x0 - (1 : Int)))) (Ty.dflt Ty.int)))
 (K (.one (dI (6 : Int))) [])
 v0))
 v0))))
 (br (lti x6 (1 : Int))
 (K (.one (dI (4 : Int))) [])
 (br (lti (((len x5) : Nat) : Int) x6)
 (K (.one (dI (4 : Int))) [])
 (K (.one (dI (0 : Int))) [])))) := by subst_vars; kernel_rfl
theorem meta_CheckRoot_w0 (m : Nat) (K : KK) (st : St) : goD Γ_meta_CheckRoot tab fn_meta_CheckRoot 0 K (m + 1) meta_CheckRoot_L0 st = segD Γ_meta_CheckRoot tab fn_meta_CheckRoot 0 K (goD Γ_meta_CheckRoot tab fn_meta_CheckRoot 0 K m) (.code (Code.sub (bodyOf fn_meta_CheckRoot) [1, 1, 1, 0, 1, 0, 0]) :: meta_CheckRoot_L0) st := rfl

theorem loop_meta_CheckRoot (ks : List Int) (v t : Int) (hl : ks.length ≤ 6) (K : KK) (last : Nat → Option Int) (h0 : last 0 = none) (hs : ∀ k, k < ks.length → last (k + 1) = some (nth ks k 0)) : ∀ (d k : Nat), k + d = ks.length →
    K (.one (dI (rootEnd (keysFrom (last k) (ks.drop k)) t ks.length))) [] →
    goD Γ_meta_CheckRoot tab fn_meta_CheckRoot 0 K (d + 1) meta_CheckRoot_L0 (meta_CheckRoot_S0 (k : Int) (((len ks) : Nat) : Int) ks 0 v ks t)
  | 0, k, hk, hK => by
    rw [meta_CheckRoot_w0, meta_CheckRoot_vc0 _ _ _ _ _ _ _ _ _ _ rfl]
    rw [List.drop_of_length_le (by omega)] at hK
    rw [show rootEnd (keysFrom (last k) []) t ks.length = if t < 1 ∨ (ks.length : Int) < t then 4 else 0 from rfl] at hK
    refine lt_f (by simp only [len]; omega) (lt_s (fun h => ?_) (fun h => lt_s (fun h2 => ?_) (fun h2 => ?_)))
    · rw [if_pos (.inl h)] at hK; exact hK
    · rw [if_pos (.inr h2)] at hK; exact hK
    · rw [if_neg (by simp only [len] at h2; omega)] at hK; exact hK
  | d + 1, k, hk, hK => by
    rw [meta_CheckRoot_w0, meta_CheckRoot_vc0 _ _ _ _ _ _ _ _ _ _ rfl, toNat_nat]
    rw [drop_step (by omega) (Ty.dflt Ty.int)] at hK
    have hsk := hs k (by omega)
    have e : nth ks k (Ty.dflt Ty.int) = nth ks k 0 := rfl
    rw [e] at hK ⊢
    obtain ⟨x, hx⟩ : ∃ x, nth ks k (0 : Int) = x := ⟨_, rfl⟩
    rw [hx] at hK hsk ⊢
    have ek : w64 ((k : Int) + 1) = ((k + 1 : Nat) : Int) := w64_succ (by omega)
    rw [ek]
    refine lt_t (by simp only [len]; omega) ⟨⟨by omega, by simp only [len]; omega⟩, lt_s (fun h => ?_) (fun h => lt_s (fun h2 => ?_) (fun h2 => ?_))⟩
    · rw [show keysFrom (last k) (x :: ks.drop (k + 1)) = 3 from if_pos (.inl h)] at hK; exact hK
    · rw [show keysFrom (last k) (x :: ks.drop (k + 1)) = 3 from if_pos (.inr h2)] at hK; exact hK
    · rw [show keysFrom (last k) (x :: ks.drop (k + 1)) = if notBehind (last k) x then 6 else keysFrom (some x) (ks.drop (k + 1)) from if_neg (by omega)] at hK
      refine lt_s (fun h3 => ?_) (fun h3 => ?_)
      · obtain ⟨j, rfl⟩ : ∃ j, k = j + 1 := ⟨k - 1, by omega⟩
        have hj := hs j (by omega)
        rw [hj] at hK
        rw [w64_id (n := ((j + 1 : Nat) : Int) - 1) (by omega) (by omega), show Int.toNat (((j + 1 : Nat) : Int) - 1) = j by omega]
        have e2 : nth ks j (Ty.dflt Ty.int) = nth ks j 0 := rfl
        rw [e2]
        refine ⟨⟨by omega, by simp only [len]; omega⟩, br_split (fun h4 => ?_) (fun h4 => ?_)⟩
        · rw [lei_true] at h4
          rw [if_pos (show notBehind (some (nth ks j 0)) x = true from decide_eq_true h4)] at hK; exact hK
        · rw [lei_false] at h4
          rw [if_neg (show ¬ notBehind (some (nth ks j 0)) x = true from by simp only [notBehind, decide_eq_true_eq]; omega)] at hK
          refine loop_meta_CheckRoot ks v t hl K last h0 hs d (j + 1 + 1) (by omega) ?_
          rw [hsk]; exact hK
      · have hk0 : k = 0 := by omega
        subst hk0
        rw [h0] at hK
        rw [if_neg (show ¬ notBehind none x = true from by simp [notBehind])] at hK
        refine loop_meta_CheckRoot ks v t hl K last h0 hs d 1 (by omega) ?_
        rw [hsk]; exact hK
set_option maxHeartbeats 4000000 in
theorem run_meta_CheckRoot (v : Int) (ks : List Int) (t : Int) (K : KK) (hK : K (.one (dI (checkRoot v ks t))) []) : ∃ m, goD Γ_meta_CheckRoot tab fn_meta_CheckRoot 0 K m [.code (bodyOf fn_meta_CheckRoot)] (initSt [.agg [dI v, dL ks, dI t]] []) := by
  refine ⟨ks.length + 2, ?_⟩
  rw [meta_CheckRoot_w, meta_CheckRoot_vc _ _ _ _ _]
  unfold checkRoot at hK
  refine lt_s (fun h => ?_) (fun h => lt_s (fun h2 => ?_) (fun h2 => eq_s (fun h3 => ?_) (fun h3 => lt_s (fun h4 => ?_) (fun h4 => ?_))))
  · rw [if_pos (.inl h)] at hK; exact hK
  · rw [if_pos (.inr h2)] at hK; exact hK
  · rw [if_neg (by omega), if_pos (by simp only [len] at h3; omega)] at hK; exact hK
  · rw [if_neg (by omega), if_pos (by simp only [len] at h4; omega)] at hK; exact hK
  · rw [if_neg (by omega), if_neg (by simp only [len] at h3 h4; omega)] at hK
    exact loop_meta_CheckRoot ks v t (by simp only [len] at h4; omega) K (fun k => match k with | 0 => none | k + 1 => some (nth ks k 0)) rfl (fun k _ => rfl) ks.length 0 (by omega) hK
theorem sound_meta_CheckRoot : SoundC Tryd.prog tab n_meta_CheckRoot c_meta_CheckRoot := soundC_of ok_meta_CheckRoot hf_meta_CheckRoot hB_meta_CheckRoot (by
  intro vs bs p v bs' h hp
  unfold c_meta_CheckRoot at h
  split at h
  · cases h
    exact ⟨by kernel_rfl, rfl, .inl (run_meta_CheckRoot _ _ _ _ ⟨rfl, rfl⟩)⟩
  · cases h)

def c_trust_CheckTrust : Contract := fun vs bs => match vs, bs with
  | [.agg [.dat .int v, .dat (.list .int) ks, .dat .int t, .dat .int n]], [] => some (none, .one (.dat .int (checkTrust ⟨⟨v, ks, t⟩, n⟩)), [])
  | _, _ => none
def Γ_trust_CheckTrust : Ctx := [(n_meta_CheckRoot, c_meta_CheckRoot)]
theorem ok_trust_CheckTrust : Ok Tryd.prog tab Γ_trust_CheckTrust := (ok_nil.consC hf_meta_CheckRoot hB_meta_CheckRoot sound_meta_CheckRoot)
theorem trust_CheckTrust_vc (v : Int) (ks : List Int) (t : Int) (n : Int) (rec : RK) (K : KK) v0 (hv0 : v0 = (checkRoot v ks t)) : segD Γ_trust_CheckTrust tab fn_trust_CheckTrust 0 K rec [.code (bodyOf fn_trust_CheckTrust)] (initSt [.agg [dI v, dL ks, dI t, dI n]] []) = (
 br (lti n (0 : Int))
 (K (.one (dI (3 : Int))) [])
 (br (lti (1000 : Int) n)
 (K (.one (dI (3 : Int))) [])
 (K (.one (dI v0)) []))) := by subst_vars; kernel_rfl
theorem trust_CheckTrust_w (m : Nat) (K : KK) (st : St) : goD Γ_trust_CheckTrust tab fn_trust_CheckTrust 0 K (m + 1) [.code (bodyOf fn_trust_CheckTrust)] st = segD Γ_trust_CheckTrust tab fn_trust_CheckTrust 0 K (goD Γ_trust_CheckTrust tab fn_trust_CheckTrust 0 K m) [.code (bodyOf fn_trust_CheckTrust)] st := rfl

set_option maxHeartbeats 4000000 in
theorem run_trust_CheckTrust (v : Int) (ks : List Int) (t n : Int) (K : KK) (hK : K (.one (dI (checkTrust ⟨⟨v, ks, t⟩, n⟩))) []) : ∃ m, goD Γ_trust_CheckTrust tab fn_trust_CheckTrust 0 K m [.code (bodyOf fn_trust_CheckTrust)] (initSt [.agg [dI v, dL ks, dI t, dI n]] []) := by
  refine ⟨1, ?_⟩
  rw [trust_CheckTrust_w, trust_CheckTrust_vc _ _ _ _ _ _ _ rfl]
  unfold checkTrust at hK
  simp only at hK
  refine lt_s (fun h => ?_) (fun h => lt_s (fun h2 => ?_) (fun h2 => ?_))
  · rw [if_pos (.inl h)] at hK; exact hK
  · rw [if_pos (.inr h2)] at hK; exact hK
  · rw [if_neg (by omega)] at hK; exact hK
theorem sound_trust_CheckTrust : SoundC Tryd.prog tab n_trust_CheckTrust c_trust_CheckTrust := soundC_of ok_trust_CheckTrust hf_trust_CheckTrust hB_trust_CheckTrust (by
  intro vs bs p v bs' h hp
  unfold c_trust_CheckTrust at h
  split at h
  · cases h
    exact ⟨by kernel_rfl, rfl, .inl (run_trust_CheckTrust _ _ _ _ _ ⟨rfl, rfl⟩)⟩
  · cases h)

def c_gate_Check : Contract := fun vs bs => match vs, bs with
  | [.agg [.dat (.list .int) ws, .dat .int fu, .dat .bool up, .dat .int tv, .dat (.list .int) tk, .dat .int tt, .dat .int tn, .dat (.list .bool) vo, .dat (.list .bool) di]], [] => some (none, .one (.dat .int (checkG ⟨⟨ws, fu⟩, up, ⟨⟨tv, tk, tt⟩, tn⟩, vo, di⟩)), [])
  | _, _ => none
def Γ_gate_Check : Ctx := [(n_log_Check, c_log_Check), (n_trust_CheckTrust, c_trust_CheckTrust)]
theorem ok_gate_Check : Ok Tryd.prog tab Γ_gate_Check := ((ok_nil.consC hf_trust_CheckTrust hB_trust_CheckTrust sound_trust_CheckTrust).consC hf_log_Check hB_log_Check sound_log_Check)
theorem gate_Check_vc (ws : List Int) (fu : Int) (up : Bool) (tv : Int) (tk : List Int) (tt : Int) (tn : Int) (vo : List Bool) (di : List Bool) (rec : RK) (K : KK) v0 (hv0 : v0 = (checkLog ⟨ws, fu⟩)) v1 (hv1 : v1 = (checkTrust ⟨⟨tv, tk, tt⟩, tn⟩)) : segD Γ_gate_Check tab fn_gate_Check 0 K rec [.code (bodyOf fn_gate_Check)] (initSt [.agg [dL ws, dI fu, dB up, dI tv, dL tk, dI tt, dI tn, dLb vo, dLb di]] []) = (
 br (!(eqi v0 (0 : Int)))
 (K (.one (dI v0)) [])
 (br (lti (((len vo) : Nat) : Int) (1 : Int))
 (K (.one (dI (4 : Int))) [])
 (br (lti (4 : Int) (((len vo) : Nat) : Int))
 (K (.one (dI (4 : Int))) [])
 (br (!(eqi (((len di) : Nat) : Int) (((len vo) : Nat) : Int)))
 (K (.one (dI (4 : Int))) [])
 (K (.one (dI v1)) []))))) := by subst_vars; kernel_rfl
theorem gate_Check_w (m : Nat) (K : KK) (st : St) : goD Γ_gate_Check tab fn_gate_Check 0 K (m + 1) [.code (bodyOf fn_gate_Check)] st = segD Γ_gate_Check tab fn_gate_Check 0 K (goD Γ_gate_Check tab fn_gate_Check 0 K m) [.code (bodyOf fn_gate_Check)] st := rfl

set_option maxHeartbeats 4000000 in
theorem run_gate_Check (ws : List Int) (fu : Int) (up : Bool) (tv : Int) (tk : List Int) (tt tn : Int) (vo di : List Bool) (K : KK) (hK : K (.one (dI (checkG ⟨⟨ws, fu⟩, up, ⟨⟨tv, tk, tt⟩, tn⟩, vo, di⟩))) []) : ∃ m, goD Γ_gate_Check tab fn_gate_Check 0 K m [.code (bodyOf fn_gate_Check)] (initSt [.agg [dL ws, dI fu, dB up, dI tv, dL tk, dI tt, dI tn, dLb vo, dLb di]] []) := by
  refine ⟨1, ?_⟩
  rw [gate_Check_w, gate_Check_vc _ _ _ _ _ _ _ _ _ _ _ _ rfl _ rfl]
  unfold checkG at hK
  simp only at hK
  refine ne_s (fun h => ?_) (fun h => ?_)
  · rw [if_neg h] at hK; exact hK
  · rw [if_pos h] at hK
    have l1 : ((len vo : Nat) : Int) = (vo.length : Int) := rfl
    have l2 : ((len di : Nat) : Int) = (di.length : Int) := rfl
    rw [l1, l2]
    by_cases c : vo.length < 1 ∨ 4 < vo.length ∨ di.length ≠ vo.length
    · rw [if_pos c] at hK
      exact lt_s (fun _ => hK) (fun _ => lt_s (fun _ => hK) (fun _ => ne_t (by omega) hK))
    · rw [if_neg c] at hK
      exact lt_f (by omega) (lt_f (by omega) (ne_f (by omega) hK))
theorem sound_gate_Check : SoundC Tryd.prog tab n_gate_Check c_gate_Check := soundC_of ok_gate_Check hf_gate_Check hB_gate_Check (by
  intro vs bs p v bs' h hp
  unfold c_gate_Check at h
  split at h
  · cases h
    exact ⟨by kernel_rfl, rfl, .inl (run_gate_Check _ _ _ _ _ _ _ _ _ _ ⟨rfl, rfl⟩)⟩
  · cases h)

def c_slices_Clone_Record : Contract := fun vs bs => match vs, bs with
  | [.one (.dat (.list .int) l)], [] => some (some (len l * 8 ≤ 140737488355328), .one (.own 0), [.arr .int l])
  | _, _ => none
def Γ_slices_Clone_Record : Ctx := []
theorem ok_slices_Clone_Record : Ok Tryd.prog tab Γ_slices_Clone_Record := ok_nil
theorem slices_Clone_Record_vc (l : List Int) (rec : RK) (K : KK) : segO Γ_slices_Clone_Record tab fn_slices_Clone_Record 0 K rec [.code (bodyOf fn_slices_Clone_Record)] (initSt [.one (dL l)] []) = (
 (∀ bn : Bool, (((bn = true) → ((len l) = 0)) → br bn
 (K (.one (.own 0)) [.arr Ty.int []])
 ((((0 + (len l)) * 8) ≤ 140737488355328) ∧
 (K (.one (.own 0)) [.arr Ty.int (cat [] l)]))))) := by kernel_rfl
theorem slices_Clone_Record_w (m : Nat) (K : KK) (st : St) : goO Γ_slices_Clone_Record tab fn_slices_Clone_Record 0 K (m + 1) [.code (bodyOf fn_slices_Clone_Record)] st = segO Γ_slices_Clone_Record tab fn_slices_Clone_Record 0 K (goO Γ_slices_Clone_Record tab fn_slices_Clone_Record 0 K m) [.code (bodyOf fn_slices_Clone_Record)] st := rfl

set_option maxHeartbeats 4000000 in
theorem run_slices_Clone_Record (l : List Int) (hp : len l * 8 ≤ 140737488355328) (K : KK) (hK : K (.one (.own 0)) [.arr .int l]) : ∃ m, goO Γ_slices_Clone_Record tab fn_slices_Clone_Record 0 K m [.code (bodyOf fn_slices_Clone_Record)] (initSt [.one (dL l)] []) := by
  refine ⟨1, ?_⟩
  rw [slices_Clone_Record_w, slices_Clone_Record_vc _ _ _]
  intro bn hb
  refine br_split (fun h => ?_) (fun h => ⟨by simp only [len] at hp ⊢; omega, hK⟩)
  have : l = [] := List.length_eq_zero_iff.1 (hb h)
  subst this
  exact hK
theorem sound_slices_Clone_Record : SoundC Tryd.prog tab n_slices_Clone_Record c_slices_Clone_Record := soundC_of ok_slices_Clone_Record hf_slices_Clone_Record hB_slices_Clone_Record (by
  intro vs bs p v bs' h hp
  unfold c_slices_Clone_Record at h
  split at h
  · cases h
    exact ⟨by kernel_rfl, rfl, .inr (.inl (run_slices_Clone_Record _ hp.1 _ ⟨rfl, rfl⟩))⟩
  · cases h)

def c_log_scan : Contract := fun vs bs => match vs, bs with
  | [.agg [.dat (.list .int) ws, .dat .int _], .one (.dat .int sector)], [] => some (some (0 ≤ sector ∧ sector ≤ 1 ∧ 64 ≤ len ws ∧ len ws ≤ 192 ∧ okWords ws = true), .tup [.one (.dat (.list (.list .int)) (scanS ws sector.toNat).1), .one (.dat .int (nextI sector.toNat (scanS ws sector.toNat).2))], [])
  | _, _ => none
def Γ_log_scan : Ctx := [(n_slices_Clone_Record, c_slices_Clone_Record)]
theorem ok_log_scan : Ok Tryd.prog tab Γ_log_scan := (ok_nil.consC hf_slices_Clone_Record hB_slices_Clone_Record sound_slices_Clone_Record)
noncomputable def log_scan_L0 : List It := [.inLoop [7, 6, 5, 4, 1] (Code.sub (bodyOf fn_log_scan) [1, 1, 1, 0, 0, 0]), .inBlock 0, .code (Code.sub (bodyOf fn_log_scan) [1, 1, 1, 1])]
def log_scan_S0 (x0 : Int) (x1 : (List Int)) (x2 : Int) (x3 : Int) (x4 : (List (List Int))) : St := ⟨[(7, .one (dI x0)), (6, .one (dL x1)), (5, .one (dI x2)), (4, .one (.own 0)), (1, .one (dI x3))], [(0, .arr (Ty.list Ty.int) x4)], 1⟩
noncomputable def log_scan_L1 : List It := [.inLoop [74, 73, 72, 7, 5, 4, 1] (Code.sub (bodyOf fn_log_scan) [1, 1, 1, 1, 0, 1, 0, 0]), .inBlock 2, .code (Code.sub (bodyOf fn_log_scan) [1, 1, 1, 1, 1])]
def log_scan_S1 (x0 : Int) (x1 : Int) (x2 : (List Int)) (x3 : Int) (x4 : Int) (x5 : Int) (x6 : (List (List Int))) : St := ⟨[(74, .one (dI x0)), (73, .one (dI x1)), (72, .one (dL x2)), (7, .one (dI x3)), (5, .one (dI x4)), (4, .one (.own 0)), (1, .one (dI x5))], [(0, .arr (Ty.list Ty.int) x6)], 1⟩
theorem log_scan_vc (ws : List Int) (fu : Int) (sector : Int) (rec : RK) (K : KK) : segD Γ_log_scan tab fn_log_scan 0 K rec [.code (bodyOf fn_log_scan)] (initSt [.agg [dL ws, dI fu], .one (dI sector)] []) = (
 (((0 : Int) ≤ (w64 (sector * (32 : Int)))) ∧ (((w64 (sector * (32 : Int))) ≤ (w64 ((w64 (sector + (1 : Int))) * (32 : Int)))) ∧ ((w64 ((w64 (sector + (1 : Int))) * (32 : Int))) ≤ (((len ws) : Nat) : Int)))) ∧
 (rec log_scan_L0 (log_scan_S0 (1 : Int) (slc ws (Int.toNat (w64 (sector * (32 : Int)))) (Int.toNat (w64 ((w64 (sector + (1 : Int))) * (32 : Int))))) (0 : Int) sector []))) := by kernel_rfl
theorem log_scan_w (m : Nat) (K : KK) (st : St) : goD Γ_log_scan tab fn_log_scan 0 K (m + 1) [.code (bodyOf fn_log_scan)] st = segD Γ_log_scan tab fn_log_scan 0 K (goD Γ_log_scan tab fn_log_scan 0 K m) [.code (bodyOf fn_log_scan)] st := rfl
theorem log_scan_vc0 (x0 : Int) (x1 : (List Int)) (x2 : Int) (x3 : Int) (x4 : (List (List Int))) (rec : RK) (K : KK) v0 (hv0 : v0 = (rec log_scan_L1 (log_scan_S1 (0 : Int) (((len (slc x1 (Int.toNat (min x0 (((len x1) : Nat) : Int))) (Int.toNat (((len x1) : Nat) : Int)))) : Nat) : Int) (slc x1 (Int.toNat (min x0 (((len x1) : Nat) : Int))) (Int.toNat (((len x1) : Nat) : Int))) x0 x2 x3 x4))) : segD Γ_log_scan tab fn_log_scan 0 K rec (.code (Code.sub (bodyOf fn_log_scan) [1, 1, 1, 0, 0, 0]) :: log_scan_L0) (log_scan_S0 x0 x1 x2 x3 x4) = (
 br (lti x0 (((len x1) : Nat) : Int))
 ((((0 : Int) ≤ x0) ∧ (x0 < (((len x1) : Nat) : Int))) ∧
 (br (!(eqi (nth x1 (Int.toNat x0) (Ty.dflt Ty.int)) (65535 : Int)))
 ((((0 : Int) ≤ x0) ∧ (x0 < (((len x1) : Nat) : Int))) ∧
 (br (lti (xori (nth x1 (Int.toNat x0) (Ty.dflt Ty.int)) (42240 : Int)) (1 : Int))
 (K (.tup [.one (dR x4), .one (dI (-(1 : Int)))]) [])
 (br (lti (4 : Int) (xori (nth x1 (Int.toNat x0) (Ty.dflt Ty.int)) (42240 : Int)))
 (K (.tup [.one (dR x4), .one (dI (-(1 : Int)))]) [])
 (br (lti (((len x1) : Nat) : Int) (w64 ((w64 (x0 + (xori (nth x1 (Int.toNat x0) (Ty.dflt Ty.int)) (42240 : Int)))) + (1 : Int))))
 (K (.tup [.one (dR x4), .one (dI (-(1 : Int)))]) [])
 ((((0 : Int) ≤ (w64 (x0 + (1 : Int)))) ∧ (((w64 (x0 + (1 : Int))) ≤ (w64 ((w64 (x0 + (1 : Int))) + (xori (nth x1 (Int.toNat x0) (Ty.dflt Ty.int)) (42240 : Int))))) ∧ ((w64 ((w64 (x0 + (1 : Int))) + (xori (nth x1 (Int.toNat x0) (Ty.dflt Ty.int)) (42240 : Int)))) ≤ (((len x1) : Nat) : Int)))) ∧
 ((((len (slc x1 (Int.toNat (w64 (x0 + (1 : Int)))) (Int.toNat (w64 ((w64 (x0 + (1 : Int))) + (xori (nth x1 (Int.toNat x0) (Ty.dflt Ty.int)) (42240 : Int))))))) * 8) ≤ 140737488355328) ∧
 (((((len x4) + (len ((slc x1 (Int.toNat (w64 (x0 + (1 : Int)))) (Int.toNat (w64 ((w64 (x0 + (1 : Int))) + (xori (nth x1 (Int.toNat x0) (Ty.dflt Ty.int)) (42240 : Int)))))) :: []))) * 24) ≤ 140737488355328) ∧
 (rec log_scan_L0 (log_scan_S0 (w64 (x0 + (w64 ((xori (nth x1 (Int.toNat x0) (Ty.dflt Ty.int)) (42240 : Int)) + (1 : Int))))) x1 x2 x3 (cat x4 ((slc x1 (Int.toNat (w64 (x0 + (1 : Int)))) (Int.toNat (w64 ((w64 (x0 + (1 : Int))) + (xori (nth x1 (Int.toNat x0) (Ty.dflt Ty.int)) (42240 : Int)))))) :: [])))))))))))
 ((((0 : Int) ≤ (min x0 (((len x1) : Nat) : Int))) ∧ (((min x0 (((len x1) : Nat) : Int)) ≤ (((len x1) : Nat) : Int)) ∧ ((((len x1) : Nat) : Int) ≤ (((len x1) : Nat) : Int)))) ∧
 v0)))
 ((((0 : Int) ≤ (min x0 (((len x1) : Nat) : Int))) ∧ (((min x0 (((len x1) : Nat) : Int)) ≤ (((len x1) : Nat) : Int)) ∧ ((((len x1) : Nat) : Int) ≤ (((len x1) : Nat) : Int)))) ∧
 v0)) := by subst_vars; kernel_rfl
theorem log_scan_w0 (m : Nat) (K : KK) (st : St) : goD Γ_log_scan tab fn_log_scan 0 K (m + 1) log_scan_L0 st = segD Γ_log_scan tab fn_log_scan 0 K (goD Γ_log_scan tab fn_log_scan 0 K m) (.code (Code.sub (bodyOf fn_log_scan) [1, 1, 1, 0, 0, 0]) :: log_scan_L0) st := rfl
theorem log_scan_vc1 (x0 : Int) (x1 : Int) (x2 : (List Int)) (x3 : Int) (x4 : Int) (x5 : Int) (x6 : (List (List Int))) (rec : RK) (K : KK) : segD Γ_log_scan tab fn_log_scan 0 K rec (.code (Code.sub (bodyOf fn_log_scan) [1, 1, 1, 1, 0, 1, 0, 0]) :: log_scan_L1) (log_scan_S1 x0 x1 x2 x3 x4 x5 x6) = (
 br (lti x0 x1)
 ((((0 : Int) ≤ x0) ∧ (x0 < (((len x2) : Nat) : Int))) ∧
 (br (!(eqi (nth x2 (Int.toNat x0) (Ty.dflt Ty.int)) (65535 : Int)))
 (K (.tup [.one (dR x6), .one (dI (-(1 : Int)))]) [])
 (rec log_scan_L1 (log_scan_S1 (w64 (x0 + (1 : Int))) x1 x2 x3 x4 x5 x6))))
 (K (.tup [.one (dR x6), .one (dI (w64 ((w64 (x5 * (32 : Int))) + x3)))]) [])) := by kernel_rfl
theorem log_scan_w1 (m : Nat) (K : KK) (st : St) : goD Γ_log_scan tab fn_log_scan 0 K (m + 1) log_scan_L1 st = segD Γ_log_scan tab fn_log_scan 0 K (goD Γ_log_scan tab fn_log_scan 0 K m) (.code (Code.sub (bodyOf fn_log_scan) [1, 1, 1, 1, 0, 1, 0, 0]) :: log_scan_L1) st := rfl

theorem clean_log_scan (x3 x4 x5 : Int) (x6 : List (List Int)) (K : KK) (t : List Int) (ht : t.length ≤ 32)
    (hK : K (.tup [.one (dR x6), .one (dI (if allClean t then w64 (w64 (x5 * 32) + x3) else -1))]) []) : ∀ (d k : Nat), t.length ≤ k + d → k ≤ t.length → allClean (t.take k) = true →
    goD Γ_log_scan tab fn_log_scan 0 K (d + 1) log_scan_L1 (log_scan_S1 (k : Int) (((len t) : Nat) : Int) t x3 x4 x5 x6)
  | 0, k, hk, hk2, he => by
    rw [log_scan_w1, log_scan_vc1 _ _ _ _ _ _ _ _ _]
    rw [List.take_of_length_le (by omega)] at he
    rw [if_pos he] at hK
    exact lt_f (by simp only [len]; omega) hK
  | d + 1, k, hk, hk2, he => by
    rw [log_scan_w1, log_scan_vc1 _ _ _ _ _ _ _ _ _, toNat_nat]
    by_cases c : k = t.length
    · rw [List.take_of_length_le (by omega)] at he
      rw [if_pos he] at hK
      exact lt_f (by simp only [len]; omega) hK
    refine lt_t (by simp only [len]; omega) ⟨⟨by omega, by simp only [len]; omega⟩, ne_s (fun hne => ?_) (fun heq => ?_)⟩
    · rw [if_neg (by rw [show allClean t = false from all_false (k := k) (by omega) (Ty.dflt Ty.int) (by simpa using hne)]; simp)] at hK
      exact hK
    · rw [w64_succ (by omega)]
      exact clean_log_scan x3 x4 x5 x6 K t ht hK d (k + 1) (by omega) (by omega) (all_take_step (by omega) (Ty.dflt Ty.int) he (by simpa using heq))
theorem exit_log_scan (s : List Int) (sec : Nat) (hsec : sec ≤ 1) (hl : s.length = 32) (K : KK) (k : Nat) (hk : k ≤ 32) (acc : List (List Int)) (M : Nat)
    (hK : K (.tup [.one (dR acc), .one (dI (if allClean (s.drop k) then 32 * (sec : Int) + k else -1))]) []) :
    goD Γ_log_scan tab fn_log_scan 0 K (M + 33) log_scan_L1 (log_scan_S1 (0 : Int) (((len (slc s (Int.toNat (min (k : Int) (((len s) : Nat) : Int))) (Int.toNat (((len s) : Nat) : Int)))) : Nat) : Int) (slc s (Int.toNat (min (k : Int) (((len s) : Nat) : Int))) (Int.toNat (((len s) : Nat) : Int))) (k : Int) 0 (sec : Int) acc) := by
  rw [show Int.toNat (min (k : Int) (((len s) : Nat) : Int)) = k by simp only [len]; omega, show Int.toNat (((len s) : Nat) : Int) = s.length from rfl, slc_drop]
  refine clean_log_scan _ _ _ _ K (s.drop k) (by simp; omega) ?_ (M + 32) 0 (by simp; omega) (by omega) rfl
  rw [w64_id (n := (sec : Int) * 32) (by omega) (by omega), w64_id (by omega) (by omega), show (sec : Int) * 32 + (k : Int) = 32 * (sec : Int) + k by omega]
  exact hK
theorem loop_log_scan (s : List Int) (sec : Nat) (hsec : sec ≤ 1) (hl : s.length = 32) (hok : okWords s = true) (K : KK) : ∀ (m k : Nat) (acc : List (List Int)), k ≤ 32 → 32 ≤ m + k → acc.length ≤ k →
    K (.tup [.one (dR (acc ++ (scanL m (s.drop k)).1)), .one (dI (match (scanL m (s.drop k)).2 with | some n => 32 * (sec : Int) + k + n | none => -1))]) [] →
    goD Γ_log_scan tab fn_log_scan 0 K (m + 34) log_scan_L0 (log_scan_S0 (k : Int) s 0 (sec : Int) acc)
  | 0, k, acc, hk, hm, ha, hK => by
    have : k = 32 := by omega
    subst this
    rw [show 0 + 34 = 33 + 1 by omega, log_scan_w0, log_scan_vc0 _ _ _ _ _ _ _ _ rfl]
    simp only [scanL, List.append_nil] at hK
    refine lt_f (by simp only [len]; omega) ⟨⟨by simp only [len]; omega, by simp only [len]; omega, by omega⟩, exit_log_scan s sec hsec hl K 32 (by omega) acc 0 ?_⟩
    rw [List.drop_of_length_le (by omega)]
    simpa [allClean] using hK
  | m + 1, k, acc, hk, hm, ha, hK => by
    rw [show m + 1 + 34 = (m + 34) + 1 by omega, log_scan_w0, log_scan_vc0 _ _ _ _ _ _ _ _ rfl, toNat_nat]
    by_cases c : k = 32
    · subst c
      rw [List.drop_of_length_le (by omega)] at hK
      simp only [scanL, List.append_nil] at hK
      refine lt_f (by simp only [len]; omega) ⟨⟨by simp only [len]; omega, by simp only [len]; omega, by omega⟩, exit_log_scan s sec hsec hl K 32 (by omega) acc (m + 1) ?_⟩
      rw [List.drop_of_length_le (by omega)]
      simpa [allClean] using hK
    rw [drop_step (by omega) (Ty.dflt Ty.int)] at hK
    obtain ⟨x, hx⟩ : ∃ x, nth s k (Ty.dflt Ty.int) = x := ⟨_, rfl⟩
    have hxo : okWord x = true := hx ▸ okWords_at hok k (by omega)
    rw [hx] at hK ⊢
    simp only [scanL] at hK
    refine lt_t (by simp only [len]; omega) ⟨⟨by omega, by simp only [len]; omega⟩, ne_s (fun hne => ?_) (fun heq => ?_)⟩
    case refine_2 =>
      rw [if_pos heq] at hK
      refine ⟨⟨by simp only [len]; omega, by simp only [len]; omega, by omega⟩, exit_log_scan s sec hsec hl K k hk acc (m + 1) ?_⟩
      rw [drop_step (by omega) (Ty.dflt Ty.int), hx]
      have e : allClean (x :: s.drop (k + 1)) = allClean (s.drop (k + 1)) := by simp [allClean, heq]
      rw [e]
      cases hc : allClean (s.drop (k + 1))
      · simpa [hc] using hK
      · simpa [hc] using hK
    rw [if_neg hne] at hK
    obtain ⟨g1, g2, g3, g4⟩ := xori_head hxo
    have none' : headN x = 0 → K (.tup [.one (dR acc), .one (dI (-1))]) [] := fun h => by
      rw [if_pos h] at hK
      simpa using hK
    refine ⟨⟨by omega, by simp only [len]; omega⟩, lt_s (fun h1 => none' (g3 (.inl h1))) (fun h1 => lt_s (fun h2 => none' (g3 (.inr h2))) (fun h2 => ?_))⟩
    obtain ⟨e1, e2, e3⟩ := g4 h1 h2
    rw [if_neg e2] at hK
    rw [e1]
    obtain ⟨n, hn⟩ : ∃ n, headN x = n := ⟨_, rfl⟩
    rw [hn] at hK e2 e3 ⊢
    rw [w64_id (n := (k : Int) + (n : Int)) (by omega) (by omega), w64_id (n := (k : Int) + (n : Int) + 1) (by omega) (by omega), w64_id (n := (k : Int) + 1) (by omega) (by omega), w64_id (n := (k : Int) + 1 + (n : Int)) (by omega) (by omega), w64_id (n := (n : Int) + 1) (by omega) (by omega), w64_id (n := (k : Int) + ((n : Int) + 1)) (by omega) (by omega)]
    have ld : (s.drop (k + 1)).length = 31 - k := by simp; omega
    refine lt_s (fun h3 => ?_) (fun h3 => ?_)
    · rw [if_neg (by simp only [len] at h3; omega)] at hK
      simpa using hK
    · simp only [len] at h3
      rw [if_pos (by omega)] at hK
      rw [show Int.toNat ((k : Int) + 1) = k + 1 by omega, show Int.toNat ((k : Int) + 1 + (n : Int)) = k + 1 + n by omega, show (k : Int) + ((n : Int) + 1) = ((k + 1 + n : Nat) : Int) by omega]
      have es : slc s (k + 1) (k + 1 + n) = (s.drop (k + 1)).take n := by simp [slc, List.take_drop]
      rw [es]
      refine ⟨⟨by omega, by omega, by simp only [len]; omega⟩, by simp only [len, List.length_take]; omega, by simp only [len, List.length_cons, List.length_nil]; omega, ?_⟩
      refine loop_log_scan s sec hsec hl hok K m (k + 1 + n) _ (by omega) (by omega) (by simp only [cat, List.length_append, List.length_cons, List.length_nil]; omega) ?_
      rw [List.drop_drop] at hK
      have hK' := hK
      simp only [cat, List.append_assoc, List.cons_append, List.nil_append] at hK' ⊢
      cases hsc : (scanL m (s.drop (k + 1 + n))).2 with
      | none => simpa [hsc] using hK'
      | some p =>
        simp only [hsc, Option.map] at hK'
        rw [show 32 * (sec : Int) + (k : Int) + ((p + n + 1 : Nat) : Int) = 32 * (sec : Int) + ((k + 1 + n : Nat) : Int) + (p : Int) by omega] at hK'
        exact hK'
set_option maxHeartbeats 4000000 in
theorem run_log_scan (ws : List Int) (fu sector : Int) (hp : 0 ≤ sector ∧ sector ≤ 1 ∧ 64 ≤ len ws ∧ len ws ≤ 192 ∧ okWords ws = true) (K : KK) (hK : K (.tup [.one (dR (scanS ws sector.toNat).1), .one (dI (nextI sector.toNat (scanS ws sector.toNat).2))]) []) : ∃ m, goD Γ_log_scan tab fn_log_scan 0 K m [.code (bodyOf fn_log_scan)] (initSt [.agg [dL ws, dI fu], .one (dI sector)] []) := by
  obtain ⟨h0, h1, h2, h3, hok⟩ := hp
  obtain ⟨sec, rfl⟩ := Int.eq_ofNat_of_zero_le h0
  refine ⟨32 + 34 + 1, ?_⟩
  rw [log_scan_w, log_scan_vc _ _ _ _ _]
  rw [w64_id (n := (sec : Int) * 32) (by omega) (by omega), w64_id (n := (sec : Int) + 1) (by omega) (by omega), w64_id (by omega) (by omega)]
  simp only [len] at h2 h3 ⊢
  refine ⟨⟨by omega, by omega, by omega⟩, ?_⟩
  rw [show Int.toNat ((sec : Int) * 32) = 32 * sec by omega, show Int.toNat (((sec : Int) + 1) * 32) = 32 * sec + 32 by omega]
  refine loop_log_scan (slc ws (32 * sec) (32 * sec + 32)) sec (by omega) (slc_len _ _ _ (by omega)) (slc_ok hok _ _) K 32 1 [] (by omega) (by omega) (by simp) ?_
  rw [toNat_nat] at hK
  unfold scanS sectorW at hK
  rw [List.nil_append]
  cases hsc : (scanL 32 ((slc ws (32 * sec) (32 * sec + 32)).drop 1)).2 with
  | none =>
    simp only [hsc, nextI] at hK
    exact hK
  | some p =>
    simp only [hsc, nextI] at hK
    exact hK
theorem sound_log_scan : SoundC Tryd.prog tab n_log_scan c_log_scan := soundC_of ok_log_scan hf_log_scan hB_log_scan (by
  intro vs bs p v bs' h hp
  unfold c_log_scan at h
  split at h
  · cases h
    exact ⟨by kernel_rfl, rfl, .inl (run_log_scan _ _ _ hp.1 _ ⟨rfl, rfl⟩)⟩
  · cases h)

def c_log_Records : Contract := fun vs bs => match vs, bs with
  | [.agg [.dat (.list .int) ws, .dat .int fu]], [] => some (none, .tup [.one (.dat (.list (.list .int)) (recordsF ⟨ws, fu⟩).1), .one (.dat .int (recordsF ⟨ws, fu⟩).2)], [])
  | _, _ => none
def Γ_log_Records : Ctx := [(n_log_Check, c_log_Check), (n_log_live, c_log_live), (n_log_scan, c_log_scan)]
theorem ok_log_Records : Ok Tryd.prog tab Γ_log_Records := (((ok_nil.consC hf_log_scan hB_log_scan sound_log_scan).consC hf_log_live hB_log_live sound_log_live).consC hf_log_Check hB_log_Check sound_log_Check)
theorem log_Records_vc (ws : List Int) (fu : Int) (rec : RK) (K : KK) v0 (hv0 : v0 = (checkLog (⟨ws, fu⟩ : Flash))) v1 (hv1 : v1 = (okWords ws)) v2 (hv2 : v2 = (liveS ws)) v3 (hv3 : v3 = (scanS ws (Int.toNat ((v2 : Nat) : Int)))) : segD Γ_log_Records tab fn_log_Records 0 K rec [.code (bodyOf fn_log_Records)] (initSt [.agg [dL ws, dI fu]] []) = (
 br (!(eqi v0 (0 : Int)))
 (K (.tup [.one (dR []), .one (dI v0)]) [])
 (((64 ≤ (len ws)) ∧ (v1 = true)) ∧
 ((((0 : Int) ≤ ((v2 : Nat) : Int)) ∧ ((((v2 : Nat) : Int) ≤ (1 : Int)) ∧ ((64 ≤ (len ws)) ∧ (((len ws) ≤ 192) ∧ (v1 = true))))) ∧
 (K (.tup [.one (dR v3.fst), .one (dI (0 : Int))]) [])))) := by subst_vars; kernel_rfl
theorem log_Records_w (m : Nat) (K : KK) (st : St) : goD Γ_log_Records tab fn_log_Records 0 K (m + 1) [.code (bodyOf fn_log_Records)] st = segD Γ_log_Records tab fn_log_Records 0 K (goD Γ_log_Records tab fn_log_Records 0 K m) [.code (bodyOf fn_log_Records)] st := rfl

set_option maxHeartbeats 4000000 in
theorem run_log_Records (ws : List Int) (fu : Int) (K : KK) (hK : K (.tup [.one (dR (recordsF ⟨ws, fu⟩).1), .one (dI (recordsF ⟨ws, fu⟩).2)]) []) : ∃ m, goD Γ_log_Records tab fn_log_Records 0 K m [.code (bodyOf fn_log_Records)] (initSt [.agg [dL ws, dI fu]] []) := by
  refine ⟨1, ?_⟩
  rw [log_Records_w, log_Records_vc _ _ _ _ _ rfl _ rfl _ rfl _ rfl]
  unfold recordsF at hK
  refine ne_s (fun h => ?_) (fun h => ?_)
  · rw [if_neg h] at hK; exact hK
  rw [if_pos h] at hK
  obtain ⟨k1, k2, k3, k4⟩ := checkLog_ok h
  obtain ⟨c1, c2, c3, c4⟩ := checkFlash_ok k1
  obtain ⟨c5, c6⟩ := okLen_le c1
  have := liveS_le ws
  exact ⟨⟨k2, c4⟩, ⟨by omega, by omega, k2, c6, c4⟩, hK⟩
theorem sound_log_Records : SoundC Tryd.prog tab n_log_Records c_log_Records := soundC_of ok_log_Records hf_log_Records hB_log_Records (by
  intro vs bs p v bs' h hp
  unfold c_log_Records at h
  split at h
  · cases h
    exact ⟨by kernel_rfl, rfl, .inl (run_log_Records _ _ _ ⟨rfl, rfl⟩)⟩
  · cases h)

def c_gate_state : Contract := fun vs bs => match vs, bs with
  | [.one (.dat (.list (.list .int)) l)], [] => some (some (len l ≤ 1000 ∧ nonE l = true), .agg [.dat .int (stateG l).n, .dat .int (stateG l).version, .dat .bool (stateG l).commit, .dat .bool (stateG l).abort, .dat .bool (stateG l).ended], [])
  | _, _ => none
def Γ_gate_state : Ctx := []
theorem ok_gate_state : Ok Tryd.prog tab Γ_gate_state := ok_nil
noncomputable def gate_state_L0 : List It := [.inLoop [8, 7, 6, 3, 2] (Code.sub (bodyOf fn_gate_state) [1, 1, 0, 1, 0, 0]), .inBlock 0, .code (Code.sub (bodyOf fn_gate_state) [1, 1, 1])]
def gate_state_S0 (x0 : Int) (x1 : Int) (x2 : (List (List Int))) (x3 : Int) (x4 : Int) (x5 : Bool) (x6 : Bool) (x7 : Bool) (x8 : Int) (x9 : Int) (x10 : Bool) (x11 : Bool) (x12 : Bool) : St := ⟨[(8, .one (dI x0)), (7, .one (dI x1)), (6, .one (dR x2)), (3, .one (.ptr 0 0)), (2, .one (.ptr 1 0))], [(0, .box [dI x3, dI x4, dB x5, dB x6, dB x7]), (1, .box [dI x8, dI x9, dB x10, dB x11, dB x12])], 2⟩
theorem gate_state_vc (l : List (List Int)) (rec : RK) (K : KK) : segD Γ_gate_state tab fn_gate_state 0 K rec [.code (bodyOf fn_gate_state)] (initSt [.one (dR l)] []) = (
 rec gate_state_L0 (gate_state_S0 (0 : Int) (((len l) : Nat) : Int) l (0 : Int) (0 : Int) false false false (0 : Int) (0 : Int) false false false)) := by kernel_rfl
theorem gate_state_w (m : Nat) (K : KK) (st : St) : goD Γ_gate_state tab fn_gate_state 0 K (m + 1) [.code (bodyOf fn_gate_state)] st = segD Γ_gate_state tab fn_gate_state 0 K (goD Γ_gate_state tab fn_gate_state 0 K m) [.code (bodyOf fn_gate_state)] st := rfl
theorem gate_state_vc0 (x0 : Int) (x1 : Int) (x2 : (List (List Int))) (x3 : Int) (x4 : Int) (x5 : Bool) (x6 : Bool) (x7 : Bool) (x8 : Int) (x9 : Int) (x10 : Bool) (x11 : Bool) (x12 : Bool) (rec : RK) (K : KK) v3 (hv3 : v3 = (rec gate_state_L0 (gate_state_S0 (w64 (x0 + (1 : Int))) x1 x2 x3 x4 x5 x6 true x8 x9 x10 x11 x12))) v4 (hv4 : v4 = (rec gate_state_L0 (gate_state_S0 (w64 (x0 + (1 : Int))) x1 x2 x3 x4 x5 x6 x7 x8 x9 x10 x11 x12))) v2 (hv2 : v2 = (br (eqi (nth (nth x2 (Int.toNat x0) (Ty.dflt (Ty.list Ty.int))) (Int.toNat (0 : Int)) (Ty.dflt Ty.int)) (4 : Int))
 (br x5
 v3
 (br x6
 v3
 v4))
 v4)) v1 (hv1 : v1 = (br (eqi (nth (nth x2 (Int.toNat x0) (Ty.dflt (Ty.list Ty.int))) (Int.toNat (0 : Int)) (Ty.dflt Ty.int)) (3 : Int))
 (br (!x5)
 (rec gate_state_L0 (gate_state_S0 (w64 (x0 + (1 : Int))) x1 x2 x3 x4 x5 true x7 x8 x9 x10 x11 x12))
 ((((0 : Int) ≤ (0 : Int)) ∧ ((0 : Int) < (((len (nth x2 (Int.toNat x0) (Ty.dflt (Ty.list Ty.int)))) : Nat) : Int))) ∧
 v2))
 ((((0 : Int) ≤ (0 : Int)) ∧ ((0 : Int) < (((len (nth x2 (Int.toNat x0) (Ty.dflt (Ty.list Ty.int)))) : Nat) : Int))) ∧
 v2))) v0 (hv0 : v0 = (br (!(eqi (((len (nth x2 (Int.toNat x0) (Ty.dflt (Ty.list Ty.int)))) : Nat) : Int) (2 : Int)))
 v4
 ((((0 : Int) ≤ (1 : Int)) ∧ ((1 : Int) < (((len (nth x2 (Int.toNat x0) (Ty.dflt (Ty.list Ty.int)))) : Nat) : Int))) ∧
 (br (!(eqi (nth (nth x2 (Int.toNat x0) (Ty.dflt (Ty.list Ty.int))) (Int.toNat (1 : Int)) (Ty.dflt Ty.int)) x3))
 v4
 (br (eqi x3 (0 : Int))
 v4
 ((((0 : Int) ≤ (0 : Int)) ∧ ((0 : Int) < (((len (nth x2 (Int.toNat x0) (Ty.dflt (Ty.list Ty.int)))) : Nat) : Int))) ∧
 (br (eqi (nth (nth x2 (Int.toNat x0) (Ty.dflt (Ty.list Ty.int))) (Int.toNat (0 : Int)) (Ty.dflt Ty.int)) (2 : Int))
 (br (!x6)
 (rec gate_state_L0 (gate_state_S0 (w64 (x0 + (1 : Int))) x1 x2 x3 x4 true x6 x7 x8 x9 x10 x11 x12))
 ((((0 : Int) ≤ (0 : Int)) ∧ ((0 : Int) < (((len (nth x2 (Int.toNat x0) (Ty.dflt (Ty.list Ty.int)))) : Nat) : Int))) ∧
 v1))
 ((((0 : Int) ≤ (0 : Int)) ∧ ((0 : Int) < (((len (nth x2 (Int.toNat x0) (Ty.dflt (Ty.list Ty.int)))) : Nat) : Int))) ∧
 v1)))))))) : segD Γ_gate_state tab fn_gate_state 0 K rec (.code (Code.sub (bodyOf fn_gate_state) [1, 1, 0, 1, 0, 0]) :: gate_state_L0) (gate_state_S0 x0 x1 x2 x3 x4 x5 x6 x7 x8 x9 x10 x11 x12) = (
 br (lti x0 x1)
 ((((0 : Int) ≤ x0) ∧ (x0 < (((len x2) : Nat) : Int))) ∧
 ((((0 : Int) ≤ (0 : Int)) ∧ ((0 : Int) < (((len (nth x2 (Int.toNat x0) (Ty.dflt (Ty.list Ty.int)))) : Nat) : Int))) ∧
 (br (eqi (nth (nth x2 (Int.toNat x0) (Ty.dflt (Ty.list Ty.int))) (Int.toNat (0 : Int)) (Ty.dflt Ty.int)) (1 : Int))
 (br (eqi (((len (nth x2 (Int.toNat x0) (Ty.dflt (Ty.list Ty.int)))) : Nat) : Int) (3 : Int))
 ((((0 : Int) ≤ (1 : Int)) ∧ ((1 : Int) < (((len (nth x2 (Int.toNat x0) (Ty.dflt (Ty.list Ty.int)))) : Nat) : Int))) ∧
 (br (lei (1 : Int) (nth (nth x2 (Int.toNat x0) (Ty.dflt (Ty.list Ty.int))) (Int.toNat (1 : Int)) (Ty.dflt Ty.int)))
 ((((0 : Int) ≤ (1 : Int)) ∧ ((1 : Int) < (((len (nth x2 (Int.toNat x0) (Ty.dflt (Ty.list Ty.int)))) : Nat) : Int))) ∧
 (br (lei (nth (nth x2 (Int.toNat x0) (Ty.dflt (Ty.list Ty.int))) (Int.toNat (1 : Int)) (Ty.dflt Ty.int)) (8 : Int))
 ((((0 : Int) ≤ (1 : Int)) ∧ ((1 : Int) < (((len (nth x2 (Int.toNat x0) (Ty.dflt (Ty.list Ty.int)))) : Nat) : Int))) ∧
 ((((0 : Int) ≤ (2 : Int)) ∧ ((2 : Int) < (((len (nth x2 (Int.toNat x0) (Ty.dflt (Ty.list Ty.int)))) : Nat) : Int))) ∧
 (rec gate_state_L0 (gate_state_S0 (w64 (x0 + (1 : Int))) x1 x2 (nth (nth x2 (Int.toNat x0) (Ty.dflt (Ty.list Ty.int))) (Int.toNat (1 : Int)) (Ty.dflt Ty.int)) (nth (nth x2 (Int.toNat x0) (Ty.dflt (Ty.list Ty.int))) (Int.toNat (2 : Int)) (Ty.dflt Ty.int)) false false false x8 x9 x10 x11 x12))))
 v0))
 v0))
 v0)
 v0)))
 (K (.agg [dI x3, dI x4, dB x5, dB x6, dB x7]) [])) := by subst_vars; kernel_rfl
theorem gate_state_w0 (m : Nat) (K : KK) (st : St) : goD Γ_gate_state tab fn_gate_state 0 K (m + 1) gate_state_L0 st = segD Γ_gate_state tab fn_gate_state 0 K (goD Γ_gate_state tab fn_gate_state 0 K m) (.code (Code.sub (bodyOf fn_gate_state) [1, 1, 0, 1, 0, 0]) :: gate_state_L0) st := rfl

set_option maxHeartbeats 4000000 in
theorem step_gate_state (l : List (List Int)) (K : KK) (x8 x9 : Int) (x10 x11 x12 : Bool) (M k : Nat) (n v : Int) (c a e : Bool) (r : List Int) (hk : k < l.length) (hl : l.length ≤ 1000) (h0 : 0 < r.length) (hr : nth l k (Ty.dflt (Ty.list Ty.int)) = r)
    (nx : ∀ (n' v' : Int) (c' a' e' : Bool), stepGt ⟨n, v, c, a, e⟩ r = ⟨n', v', c', a', e'⟩ → goD Γ_gate_state tab fn_gate_state 0 K M gate_state_L0 (gate_state_S0 ((k + 1 : Nat) : Int) (((len l) : Nat) : Int) l n' v' c' a' e' x8 x9 x10 x11 x12)) :
    goD Γ_gate_state tab fn_gate_state 0 K (M + 1) gate_state_L0 (gate_state_S0 (k : Int) (((len l) : Nat) : Int) l n v c a e x8 x9 x10 x11 x12) := by
  rw [gate_state_w0, gate_state_vc0 _ _ _ _ _ _ _ _ _ _ _ _ _ _ _ _ rfl _ rfl _ rfl _ rfl _ rfl, toNat_nat, hr]
  have ek : w64 ((k : Int) + 1) = ((k + 1 : Nat) : Int) := w64_succ (by omega)
  rw [ek]
  obtain ⟨u0, e0⟩ : ∃ u0, r.getD 0 0 = u0 := ⟨_, rfl⟩
  obtain ⟨u1, e1⟩ : ∃ u1, r.getD 1 0 = u1 := ⟨_, rfl⟩
  obtain ⟨u2, e2⟩ : ∃ u2, r.getD 2 0 = u2 := ⟨_, rfl⟩
  have es : stepGt ⟨n, v, c, a, e⟩ r = if u0 = 1 ∧ r.length = 3 ∧ 1 ≤ u1 ∧ u1 ≤ 8 then ⟨u1, u2, false, false, false⟩ else if r.length ≠ 2 ∨ u1 ≠ n ∨ n = 0 then ⟨n, v, c, a, e⟩
      else if u0 = 2 ∧ a = false then ⟨n, v, true, a, e⟩ else if u0 = 3 ∧ c = false then ⟨n, v, c, true, e⟩ else if u0 = 4 ∧ (c = true ∨ a = true) then ⟨n, v, c, a, true⟩ else ⟨n, v, c, a, e⟩ := by
    unfold stepGt; rw [e0, e1, e2]
  rw [show nth r (Int.toNat 0) (Ty.dflt Ty.int) = u0 from e0, show nth r (Int.toNat 1) (Ty.dflt Ty.int) = u1 from e1, show nth r (Int.toNat 2) (Ty.dflt Ty.int) = u2 from e2]
  have hlen : len r = r.length := rfl
  rw [hlen]
  rw [es] at nx
  clear es
  refine lt_t (by simp only [len]; omega) ⟨⟨by omega, by simp only [len]; omega⟩, ?_⟩
  repeat' first
    | refine ⟨⟨by omega, by omega⟩, ?_⟩
    | refine eq_s (fun _ => ?_) (fun _ => ?_)
    | refine ne_s (fun _ => ?_) (fun _ => ?_)
    | refine nt_s (fun _ => ?_) (fun _ => ?_)
    | refine br_split (fun h => ?_) (fun h => ?_) <;> first | rw [lei_true] at h | rw [lei_false] at h
    | refine br_split (fun _ => ?_) (fun _ => ?_)
  all_goals first
    | (exfalso; omega)
    | exact nx _ _ _ _ _ (if_pos (by omega))
    | exact nx _ _ _ _ _ (by rw [if_neg (by omega), if_pos (by omega)])
    | exact nx _ _ _ _ _ (by rw [if_neg (by omega), if_neg (by omega), if_pos ⟨by omega, by assumption⟩])
    | exact nx _ _ _ _ _ (by rw [if_neg (by omega), if_neg (by omega), if_neg (by first | exact fun h => absurd h.1 (by omega) | exact fun h => absurd h.2 (by simp_all)), if_pos ⟨by omega, by assumption⟩])
    | exact nx _ _ _ _ _ (by rw [if_neg (by omega), if_neg (by omega), if_neg (by first | exact fun h => absurd h.1 (by omega) | exact fun h => absurd h.2 (by simp_all)), if_neg (by first | exact fun h => absurd h.1 (by omega) | exact fun h => absurd h.2 (by simp_all)), if_pos ⟨by omega, .inl (by assumption)⟩])
    | exact nx _ _ _ _ _ (by rw [if_neg (by omega), if_neg (by omega), if_neg (by first | exact fun h => absurd h.1 (by omega) | exact fun h => absurd h.2 (by simp_all)), if_neg (by first | exact fun h => absurd h.1 (by omega) | exact fun h => absurd h.2 (by simp_all)), if_pos ⟨by omega, .inr (by assumption)⟩])
    | exact nx _ _ _ _ _ (by rw [if_neg (by omega), if_neg (by omega), if_neg (by first | exact fun h => absurd h.1 (by omega) | exact fun h => absurd h.2 (by simp_all)), if_neg (by first | exact fun h => absurd h.1 (by omega) | exact fun h => absurd h.2 (by simp_all)), if_neg (by first | exact fun h => absurd h.1 (by omega) | exact fun h => absurd h.2 (by simp_all))])
theorem loop_gate_state (l : List (List Int)) (hl : l.length ≤ 1000) (hn : nonE l = true) (K : KK) (x8 x9 : Int) (x10 x11 x12 : Bool) : ∀ (d k : Nat) (n v : Int) (c a e : Bool), k + d = l.length →
    K (.agg [dI ((l.drop k).foldl stepGt ⟨n, v, c, a, e⟩).n, dI ((l.drop k).foldl stepGt ⟨n, v, c, a, e⟩).version, dB ((l.drop k).foldl stepGt ⟨n, v, c, a, e⟩).commit, dB ((l.drop k).foldl stepGt ⟨n, v, c, a, e⟩).abort, dB ((l.drop k).foldl stepGt ⟨n, v, c, a, e⟩).ended]) [] →
    goD Γ_gate_state tab fn_gate_state 0 K (d + 1) gate_state_L0 (gate_state_S0 (k : Int) (((len l) : Nat) : Int) l n v c a e x8 x9 x10 x11 x12)
  | 0, k, n, v, c, a, e, hk, hK => by
    rw [gate_state_w0, gate_state_vc0 _ _ _ _ _ _ _ _ _ _ _ _ _ _ _ _ rfl _ rfl _ rfl _ rfl _ rfl]
    rw [List.drop_of_length_le (by omega)] at hK
    exact lt_f (by simp only [len]; omega) hK
  | d + 1, k, n, v, c, a, e, hk, hK => by
    have hm : nth l k (Ty.dflt (Ty.list Ty.int)) ∈ l := by
      have : k < l.length := by omega
      simp [nth, List.getD_eq_getElem?_getD, this]
    have h0 : 0 < (nth l k (Ty.dflt (Ty.list Ty.int))).length := by simpa using List.all_eq_true.1 hn _ hm
    rw [drop_step (by omega) (Ty.dflt (Ty.list Ty.int))] at hK
    obtain ⟨r, hr⟩ : ∃ r, nth l k (Ty.dflt (Ty.list Ty.int)) = r := ⟨_, rfl⟩
    rw [hr] at hK h0
    rw [List.foldl_cons] at hK
    refine step_gate_state l K x8 x9 x10 x11 x12 (d + 1) k n v c a e r (by omega) hl h0 hr ?_
    have nx : ∀ (n' v' : Int) (c' a' e' : Bool), stepGt ⟨n, v, c, a, e⟩ r = ⟨n', v', c', a', e'⟩ → goD Γ_gate_state tab fn_gate_state 0 K (d + 1) gate_state_L0 (gate_state_S0 ((k + 1 : Nat) : Int) (((len l) : Nat) : Int) l n' v' c' a' e' x8 x9 x10 x11 x12) := fun n' v' c' a' e' h => by
      rw [h] at hK
      exact loop_gate_state l hl hn K x8 x9 x10 x11 x12 d (k + 1) n' v' c' a' e' (by omega) hK
    exact nx
set_option maxHeartbeats 4000000 in
theorem run_gate_state (l : List (List Int)) (hp : len l ≤ 1000 ∧ nonE l = true) (K : KK) (hK : K (.agg [dI (stateG l).n, dI (stateG l).version, dB (stateG l).commit, dB (stateG l).abort, dB (stateG l).ended]) []) : ∃ m, goD Γ_gate_state tab fn_gate_state 0 K m [.code (bodyOf fn_gate_state)] (initSt [.one (dR l)] []) := by
  refine ⟨l.length + 2, ?_⟩
  rw [gate_state_w, gate_state_vc _ _ _]
  exact loop_gate_state l hp.1 hp.2 K 0 0 false false false l.length 0 0 0 false false false (by omega) hK
theorem sound_gate_state : SoundC Tryd.prog tab n_gate_state c_gate_state := soundC_of ok_gate_state hf_gate_state hB_gate_state (by
  intro vs bs p v bs' h hp
  unfold c_gate_state at h
  split at h
  · cases h
    exact ⟨by kernel_rfl, rfl, .inl (run_gate_state _ hp.1 _ ⟨rfl, rfl⟩)⟩
  · cases h)

def c_gate_of : Contract := fun vs bs => match vs, bs with
  | [.agg [.dat (.list .int) ws, .dat .int fu, .dat .bool _, .dat .int _, .dat (.list .int) _, .dat .int _, .dat .int _, .dat (.list .bool) _, .dat (.list .bool) _]], [] => some (none, .agg [.dat .int (ofG ⟨ws, fu⟩).n, .dat .int (ofG ⟨ws, fu⟩).version, .dat .bool (ofG ⟨ws, fu⟩).commit, .dat .bool (ofG ⟨ws, fu⟩).abort, .dat .bool (ofG ⟨ws, fu⟩).ended], [])
  | _, _ => none
def Γ_gate_of : Ctx := [(n_log_Records, c_log_Records), (n_gate_state, c_gate_state)]
theorem ok_gate_of : Ok Tryd.prog tab Γ_gate_of := ((ok_nil.consC hf_gate_state hB_gate_state sound_gate_state).consC hf_log_Records hB_log_Records sound_log_Records)
theorem gate_of_vc (ws : List Int) (fu : Int) (up : Bool) (tv : Int) (tk : List Int) (tt : Int) (tn : Int) (vo : List Bool) (di : List Bool) (rec : RK) (K : KK) v0 (hv0 : v0 = (recordsF ⟨ws, fu⟩)) v1 (hv1 : v1 = (nonE v0.fst)) v2 (hv2 : v2 = (stateG v0.fst)) : segD Γ_gate_of tab fn_gate_of 0 K rec [.code (bodyOf fn_gate_of)] (initSt [.agg [dL ws, dI fu, dB up, dI tv, dL tk, dI tt, dI tn, dLb vo, dLb di]] []) = (
 (((len v0.fst) ≤ 1000) ∧ (v1 = true)) ∧
 (K (.agg [dI v2.n, dI v2.version, dB v2.commit, dB v2.abort, dB v2.ended]) [])) := by subst_vars; kernel_rfl
theorem gate_of_w (m : Nat) (K : KK) (st : St) : goD Γ_gate_of tab fn_gate_of 0 K (m + 1) [.code (bodyOf fn_gate_of)] st = segD Γ_gate_of tab fn_gate_of 0 K (goD Γ_gate_of tab fn_gate_of 0 K m) [.code (bodyOf fn_gate_of)] st := rfl

set_option maxHeartbeats 4000000 in
theorem run_gate_of (ws : List Int) (fu : Int) (up : Bool) (tv : Int) (tk : List Int) (tt tn : Int) (vo di : List Bool) (K : KK) (hK : K (.agg [dI (ofG ⟨ws, fu⟩).n, dI (ofG ⟨ws, fu⟩).version, dB (ofG ⟨ws, fu⟩).commit, dB (ofG ⟨ws, fu⟩).abort, dB (ofG ⟨ws, fu⟩).ended]) []) : ∃ m, goD Γ_gate_of tab fn_gate_of 0 K m [.code (bodyOf fn_gate_of)] (initSt [.agg [dL ws, dI fu, dB up, dI tv, dL tk, dI tt, dI tn, dLb vo, dLb di]] []) := by
  refine ⟨1, ?_⟩
  rw [gate_of_w, gate_of_vc _ _ _ _ _ _ _ _ _ _ _ _ rfl _ rfl _ rfl]
  have h := recordsF_ok2 ⟨ws, fu⟩
  exact ⟨⟨by simp only [len]; omega, nonE_of h.2⟩, hK⟩
theorem sound_gate_of : SoundC Tryd.prog tab n_gate_of c_gate_of := soundC_of ok_gate_of hf_gate_of hB_gate_of (by
  intro vs bs p v bs' h hp
  unfold c_gate_of at h
  split at h
  · cases h
    exact ⟨by kernel_rfl, rfl, .inl (run_gate_of _ _ _ _ _ _ _ _ _ _ ⟨rfl, rfl⟩)⟩
  · cases h)

def c_gate_Read : Contract := fun vs bs => match vs, bs with
  | [.agg [.dat (.list .int) ws, .dat .int fu, .dat .bool up, .dat .int tv, .dat (.list .int) tk, .dat .int tt, .dat .int tn, .dat (.list .bool) vo, .dat (.list .bool) di]], [] => some (none, .tup [.agg [.dat .int (readG ⟨⟨ws, fu⟩, up, ⟨⟨tv, tk, tt⟩, tn⟩, vo, di⟩).1.n, .dat .int (readG ⟨⟨ws, fu⟩, up, ⟨⟨tv, tk, tt⟩, tn⟩, vo, di⟩).1.version, .dat .bool (readG ⟨⟨ws, fu⟩, up, ⟨⟨tv, tk, tt⟩, tn⟩, vo, di⟩).1.commit, .dat .bool (readG ⟨⟨ws, fu⟩, up, ⟨⟨tv, tk, tt⟩, tn⟩, vo, di⟩).1.abort, .dat .bool (readG ⟨⟨ws, fu⟩, up, ⟨⟨tv, tk, tt⟩, tn⟩, vo, di⟩).1.ended], .one (.dat .int (readG ⟨⟨ws, fu⟩, up, ⟨⟨tv, tk, tt⟩, tn⟩, vo, di⟩).2)], [])
  | _, _ => none
def Γ_gate_Read : Ctx := [(n_gate_Check, c_gate_Check), (n_gate_of, c_gate_of)]
theorem ok_gate_Read : Ok Tryd.prog tab Γ_gate_Read := ((ok_nil.consC hf_gate_of hB_gate_of sound_gate_of).consC hf_gate_Check hB_gate_Check sound_gate_Check)
theorem gate_Read_vc (ws : List Int) (fu : Int) (up : Bool) (tv : Int) (tk : List Int) (tt : Int) (tn : Int) (vo : List Bool) (di : List Bool) (rec : RK) (K : KK) v0 (hv0 : v0 = (checkG ⟨⟨ws, fu⟩, up, ⟨⟨tv, tk, tt⟩, tn⟩, vo, di⟩)) v1 (hv1 : v1 = (ofG ⟨ws, fu⟩)) : segD Γ_gate_Read tab fn_gate_Read 0 K rec [.code (bodyOf fn_gate_Read)] (initSt [.agg [dL ws, dI fu, dB up, dI tv, dL tk, dI tt, dI tn, dLb vo, dLb di]] []) = (
 br (!(eqi v0 (0 : Int)))
 (K (.tup [.agg [dI (0 : Int), dI (0 : Int), dB false, dB false, dB false], .one (dI v0)]) [])
 (K (.tup [.agg [dI v1.n, dI v1.version, dB v1.commit, dB v1.abort, dB v1.ended], .one (dI (0 : Int))]) [])) := by subst_vars; kernel_rfl
theorem gate_Read_w (m : Nat) (K : KK) (st : St) : goD Γ_gate_Read tab fn_gate_Read 0 K (m + 1) [.code (bodyOf fn_gate_Read)] st = segD Γ_gate_Read tab fn_gate_Read 0 K (goD Γ_gate_Read tab fn_gate_Read 0 K m) [.code (bodyOf fn_gate_Read)] st := rfl

set_option maxHeartbeats 4000000 in
theorem run_gate_Read (ws : List Int) (fu : Int) (up : Bool) (tv : Int) (tk : List Int) (tt tn : Int) (vo di : List Bool) (K : KK) (hK : K (.tup [.agg [dI (readG ⟨⟨ws, fu⟩, up, ⟨⟨tv, tk, tt⟩, tn⟩, vo, di⟩).1.n, dI (readG ⟨⟨ws, fu⟩, up, ⟨⟨tv, tk, tt⟩, tn⟩, vo, di⟩).1.version, dB (readG ⟨⟨ws, fu⟩, up, ⟨⟨tv, tk, tt⟩, tn⟩, vo, di⟩).1.commit, dB (readG ⟨⟨ws, fu⟩, up, ⟨⟨tv, tk, tt⟩, tn⟩, vo, di⟩).1.abort, dB (readG ⟨⟨ws, fu⟩, up, ⟨⟨tv, tk, tt⟩, tn⟩, vo, di⟩).1.ended], .one (dI (readG ⟨⟨ws, fu⟩, up, ⟨⟨tv, tk, tt⟩, tn⟩, vo, di⟩).2)]) []) : ∃ m, goD Γ_gate_Read tab fn_gate_Read 0 K m [.code (bodyOf fn_gate_Read)] (initSt [.agg [dL ws, dI fu, dB up, dI tv, dL tk, dI tt, dI tn, dLb vo, dLb di]] []) := by
  refine ⟨1, ?_⟩
  rw [gate_Read_w, gate_Read_vc _ _ _ _ _ _ _ _ _ _ _ _ rfl _ rfl]
  unfold readG at hK
  refine ne_s (fun h => ?_) (fun h => ?_)
  · rw [if_neg h] at hK; exact hK
  · rw [if_pos h] at hK; exact hK
theorem sound_gate_Read : SoundC Tryd.prog tab n_gate_Read c_gate_Read := soundC_of ok_gate_Read hf_gate_Read hB_gate_Read (by
  intro vs bs p v bs' h hp
  unfold c_gate_Read at h
  split at h
  · cases h
    exact ⟨by kernel_rfl, rfl, .inl (run_gate_Read _ _ _ _ _ _ _ _ _ _ ⟨rfl, rfl⟩)⟩
  · cases h)

def c_law_simple : Contract := fun vs bs => match vs, bs with
  | [], [] => some (none, .tup [.agg [.dat (.list .str) simpleB], .one (.dat (.list .signed) simpleL), .agg [.dat .int 1, .dat (.list .int) [3], .dat .int 1, .dat .int 0], .agg [.dat (.list .root) [], .dat (.list (.list .int)) [], .dat .int 1, .dat .int 5, .dat (.list .target) [⟨0, 2, 2⟩], .dat (.list .int) [3], .dat (.list (.list .int)) [[8, 8]]]], [])
  | _, _ => none
def Γ_law_simple : Ctx := []
theorem ok_law_simple : Ok Tryd.prog tab Γ_law_simple := ok_nil
theorem law_simple_vc (rec : RK) (K : KK) : segD Γ_law_simple tab fn_law_simple 0 K rec [.code (bodyOf fn_law_simple)] (initSt [] []) = (
 K (.tup [.agg [.dat (Ty.list Ty.str) (((105 : UInt8) :: ((109 : UInt8) :: ((97 : UInt8) :: ((103 : UInt8) :: ((101 : UInt8) :: ((32 : UInt8) :: ((55 : UInt8) :: []))))))) :: (((105 : UInt8) :: ((109 : UInt8) :: ((97 : UInt8) :: ((103 : UInt8) :: ((101 : UInt8) :: ((32 : UInt8) :: ((56 : UInt8) :: ((32 : UInt8) :: ((56 : UInt8) :: []))))))))) :: (((114 : UInt8) :: ((101 : UInt8) :: ((108 : UInt8) :: ((101 : UInt8) :: ((97 : UInt8) :: ((115 : UInt8) :: ((101 : UInt8) :: ((32 : UInt8) :: ((49 : UInt8) :: ((32 : UInt8) :: ((117 : UInt8) :: ((110 : UInt8) :: ((116 : UInt8) :: ((105 : UInt8) :: ((108 : UInt8) :: ((32 : UInt8) :: ((53 : UInt8) :: ((59 : UInt8) :: ((32 : UInt8) :: ((48 : UInt8) :: ((32 : UInt8) :: ((50 : UInt8) :: ((32 : UInt8) :: ((50 : UInt8) :: [])))))))))))))))))))))))) :: (((114 : UInt8) :: ((111 : UInt8) :: ((111 : UInt8) :: ((116 : UInt8) :: ((32 : UInt8) :: ((50 : UInt8) :: ((32 : UInt8) :: ((49 : UInt8) :: ((32 : UInt8) :: ((111 : UInt8) :: ((102 : UInt8) :: ((32 : UInt8) :: ((52 : UInt8) :: []))))))))))))) :: []))))], .one (.dat (Ty.list Ty.signed) ((⟨(3 : Int), (3 : Int)⟩ : Vm.Signed) :: ((⟨(3 : Int), (4 : Int)⟩ : Vm.Signed) :: ((⟨(4 : Int), (4 : Int)⟩ : Vm.Signed) :: ((⟨(4 : Int), (3 : Int)⟩ : Vm.Signed) :: []))))), .agg [dI (1 : Int), dL ((3 : Int) :: []), dI (1 : Int), dI (0 : Int)], .agg [.dat (Ty.list Ty.root) [], dR [], dI (1 : Int), dI (5 : Int), .dat (Ty.list Ty.target) ((⟨(0 : Int), (2 : Int), (2 : Int)⟩ : Vm.Target) :: []), dL ((3 : Int) :: []), dR (((8 : Int) :: ((8 : Int) :: [])) :: [])]]) []) := by kernel_rfl
theorem law_simple_w (m : Nat) (K : KK) (st : St) : goD Γ_law_simple tab fn_law_simple 0 K (m + 1) [.code (bodyOf fn_law_simple)] st = segD Γ_law_simple tab fn_law_simple 0 K (goD Γ_law_simple tab fn_law_simple 0 K m) [.code (bodyOf fn_law_simple)] st := rfl

set_option maxHeartbeats 4000000 in
theorem run_law_simple  (K : KK) (hK : K (.tup [.agg [.dat (.list .str) simpleB], .one (.dat (.list .signed) simpleL), .agg [dI 1, dL [3], dI 1, dI 0], .agg [.dat (.list .root) [], dR [], dI 1, dI 5, .dat (.list .target) [⟨0, 2, 2⟩], dL [3], dR [[8, 8]]]]) []) : ∃ m, goD Γ_law_simple tab fn_law_simple 0 K m [.code (bodyOf fn_law_simple)] (initSt [] []) := by
  refine ⟨1, ?_⟩
  rw [law_simple_w, law_simple_vc _ _]
  exact hK
theorem sound_law_simple : SoundC Tryd.prog tab n_law_simple c_law_simple := soundC_of ok_law_simple hf_law_simple hB_law_simple (by
  intro vs bs p v bs' h hp
  unfold c_law_simple at h
  split at h
  · cases h
    exact ⟨by kernel_rfl, rfl, .inl (run_law_simple  _ ⟨rfl, rfl⟩)⟩
  · cases h)

def c_slices_Repeat_Lint : Contract := fun vs bs => match vs, bs with
  | [.one (.dat (.list .int) [x]), .one (.dat .int n)], [] => some (some (0 ≤ n ∧ n ≤ 1000000), .one (.dat (.list .int) (zeros n.toNat x)), [])
  | _, _ => none
def Γ_slices_Repeat_Lint : Ctx := [(n_math_bits_Mul, c_math_bits_Mul)]
theorem ok_slices_Repeat_Lint : Ok Tryd.prog tab Γ_slices_Repeat_Lint := (ok_nil.consC hf_math_bits_Mul hB_math_bits_Mul sound_math_bits_Mul)
noncomputable def slices_Repeat_Lint_L0 : List It := [.inLoop [8, 7, 4] (Code.sub (bodyOf fn_slices_Repeat_Lint) [1, 1, 1, 1, 1, 1, 0, 0, 0]), .inBlock 0, .code (Code.sub (bodyOf fn_slices_Repeat_Lint) [1, 1, 1, 1, 1, 1, 1])]
def slices_Repeat_Lint_S0 (x0 : Int) (x1 : (List Int)) (x2 : (List Int)) : St := ⟨[(8, .one (dI x0)), (7, .one (.own 0)), (4, .one (.own 1))], [(0, .arr Ty.int x1), (1, .arr Ty.int x2)], 2⟩
theorem slices_Repeat_Lint_vc (x : Int) (n : Int) (rec : RK) (K : KK) v0 (hv0 : v0 = (u64w (((len (x :: [])) : Nat) : Int))) v1 (hv1 : v1 = (inU64 v0)) v2 (hv2 : v2 = (u64w n)) v3 (hv3 : v3 = (inU64 v2)) : segD Γ_slices_Repeat_Lint tab fn_slices_Repeat_Lint 0 K rec [.code (bodyOf fn_slices_Repeat_Lint)] (initSt [.one (dL (x :: [])), .one (dI n)] []) = (
 br (lti n (0 : Int))
 (False)
 (((v1 = true) ∧ (v3 = true)) ∧
 (br (lti (0 : Int) ((v0 * v2) / two64))
 (False)
 (br (lti (9223372036854775807 : Int) ((v0 * v2) % two64))
 (False)
 ((((0 : Int) ≤ (w64 ((v0 * v2) % two64))) ∧ ((((w64 ((v0 * v2) % two64)) * ((8 : Nat) : Int)) ≤ (140737488355328 : Int)) ∧ ((w64 ((v0 * v2) % two64)) ≤ (140737488355328 : Int)))) ∧
 (rec slices_Repeat_Lint_L0 (slices_Repeat_Lint_S0 (((min (len (zeros (Int.toNat (w64 ((v0 * v2) % two64))) (Ty.dflt Ty.int))) (len (x :: []))) : Nat) : Int) (put (zeros (Int.toNat (w64 ((v0 * v2) % two64))) (Ty.dflt Ty.int)) 0 (slc (x :: []) 0 (min (len (zeros (Int.toNat (w64 ((v0 * v2) % two64))) (Ty.dflt Ty.int))) (len (x :: []))))) []))))))) := by subst_vars; kernel_rfl
theorem slices_Repeat_Lint_w (m : Nat) (K : KK) (st : St) : goD Γ_slices_Repeat_Lint tab fn_slices_Repeat_Lint 0 K (m + 1) [.code (bodyOf fn_slices_Repeat_Lint)] st = segD Γ_slices_Repeat_Lint tab fn_slices_Repeat_Lint 0 K (goD Γ_slices_Repeat_Lint tab fn_slices_Repeat_Lint 0 K m) [.code (bodyOf fn_slices_Repeat_Lint)] st := rfl
theorem slices_Repeat_Lint_vc0 (x0 : Int) (x1 : (List Int)) (x2 : (List Int)) (rec : RK) (K : KK) : segD Γ_slices_Repeat_Lint tab fn_slices_Repeat_Lint 0 K rec (.code (Code.sub (bodyOf fn_slices_Repeat_Lint) [1, 1, 1, 1, 1, 1, 0, 0, 0]) :: slices_Repeat_Lint_L0) (slices_Repeat_Lint_S0 x0 x1 x2) = (
 br (lti x0 (((len x1) : Nat) : Int))
 ((((0 : Int) ≤ x0) ∧ ((x0 ≤ (((len x1) : Nat) : Int)) ∧ ((((len x1) : Nat) : Int) ≤ (((len x1) : Nat) : Int)))) ∧
 ((((0 : Int) ≤ (0 : Int)) ∧ (((0 : Int) ≤ x0) ∧ (x0 ≤ (((len x1) : Nat) : Int)))) ∧
 (((((Int.toNat (0 : Int)) + (Int.toNat (x0 - (0 : Int)))) ≤ (len x1)) ∧ (((Int.toNat x0) + (Int.toNat ((((len x1) : Nat) : Int) - x0))) ≤ (len x1))) ∧
 (rec slices_Repeat_Lint_L0 (slices_Repeat_Lint_S0 (w64 (x0 + (((min (Int.toNat ((((len x1) : Nat) : Int) - x0)) (len (slc x1 (Int.toNat (0 : Int)) ((Int.toNat (0 : Int)) + (Int.toNat (x0 - (0 : Int))))))) : Nat) : Int))) (put x1 (Int.toNat x0) (slc (slc x1 (Int.toNat (0 : Int)) ((Int.toNat (0 : Int)) + (Int.toNat (x0 - (0 : Int))))) 0 (min (Int.toNat ((((len x1) : Nat) : Int) - x0)) (len (slc x1 (Int.toNat (0 : Int)) ((Int.toNat (0 : Int)) + (Int.toNat (x0 - (0 : Int))))))))) x2)))))
 (K (.one (dL x1)) [])) := by kernel_rfl
theorem slices_Repeat_Lint_w0 (m : Nat) (K : KK) (st : St) : goD Γ_slices_Repeat_Lint tab fn_slices_Repeat_Lint 0 K (m + 1) slices_Repeat_Lint_L0 st = segD Γ_slices_Repeat_Lint tab fn_slices_Repeat_Lint 0 K (goD Γ_slices_Repeat_Lint tab fn_slices_Repeat_Lint 0 K m) (.code (Code.sub (bodyOf fn_slices_Repeat_Lint) [1, 1, 1, 1, 1, 1, 0, 0, 0]) :: slices_Repeat_Lint_L0) st := rfl

theorem u64w_id {n : Int} (h1 : 0 ≤ n) (h2 : n < 18446744073709551616) : u64w n = n := by
  unfold u64w; rw [IntKind.wrap_u64]; omega
theorem inU64_of {n : Int} (h1 : 0 ≤ n) (h2 : n < 18446744073709551616) : inU64 n = true := by simp [inU64, h1, h2]
theorem put_rep (x : Int) (n k j : Nat) : put (List.replicate k x ++ List.replicate (n - k) 0) k (List.replicate j x) = List.replicate (k + j) x ++ List.replicate (n - (k + j)) 0 := by
  unfold put
  rw [List.take_left' (by simp), List.length_replicate]
  rw [show List.drop (k + j) (List.replicate k x ++ List.replicate (n - k) (0 : Int)) = List.replicate (n - (k + j)) 0 from by
    rw [List.drop_append, List.drop_of_length_le (by simp)]
    simp
    omega]
  rw [List.replicate_append_replicate]
theorem loop_slices_Repeat_Lint (x : Int) (n : Nat) (hn : n ≤ 1000000) (K : KK) (hK : K (.one (dL (zeros n x))) []) : ∀ (d k : Nat), n ≤ k + d → k ≤ n → (0 < n → 0 < k) →
    goD Γ_slices_Repeat_Lint tab fn_slices_Repeat_Lint 0 K (d + 1) slices_Repeat_Lint_L0 (slices_Repeat_Lint_S0 (k : Int) (List.replicate k x ++ List.replicate (n - k) 0) [])
  | 0, k, hd, hk, hp => by
    rw [slices_Repeat_Lint_w0, slices_Repeat_Lint_vc0 _ _ _ _ _]
    have e : k = n := by omega
    subst e
    refine lt_f (by simp [len]) ?_
    simpa [zeros] using hK
  | d + 1, k, hd, hk, hp => by
    rw [slices_Repeat_Lint_w0, slices_Repeat_Lint_vc0 _ _ _ _ _]
    have hl : len (List.replicate k x ++ List.replicate (n - k) (0 : Int)) = n := by simp [len]; omega
    rw [hl]
    by_cases c : k < n
    · refine lt_t (by omega) ⟨⟨by omega, by omega, by omega⟩, ⟨by omega, by omega, by omega⟩, ⟨by omega, by omega⟩, ?_⟩
      have e1 : slc (List.replicate k x ++ List.replicate (n - k) (0 : Int)) (Int.toNat 0) (Int.toNat 0 + Int.toNat ((k : Int) - 0)) = List.replicate k x := by
        rw [show Int.toNat 0 + Int.toNat ((k : Int) - 0) = k by omega]
        unfold slc
        rw [List.take_left' (by simp)]
        simp
      rw [e1]
      have e2 : len (List.replicate k x) = k := by simp [len]
      rw [e2]
      generalize hj : min (Int.toNat ((n : Int) - (k : Int))) k = j
      have hj' : j = min (n - k) k := by omega
      have e3 : slc (List.replicate k x) 0 j = List.replicate j x := by
        unfold slc
        rw [List.take_replicate]
        simp
        omega
      rw [e3, toNat_nat, put_rep x n k j, w64_id (by omega) (by omega), show (k : Int) + (j : Int) = ((k + j : Nat) : Int) by omega]
      exact loop_slices_Repeat_Lint x n hn K hK d (k + j) (by have := hp (by omega); omega) (by omega) (fun h => by have := hp h; omega)
    · have e : k = n := by omega
      subst e
      refine lt_f (by omega) ?_
      simpa [zeros] using hK
set_option maxHeartbeats 4000000 in
theorem run_slices_Repeat_Lint (x n : Int) (hp : 0 ≤ n ∧ n ≤ 1000000) (K : KK) (hK : K (.one (dL (zeros n.toNat x))) []) : ∃ m, goD Γ_slices_Repeat_Lint tab fn_slices_Repeat_Lint 0 K m [.code (bodyOf fn_slices_Repeat_Lint)] (initSt [.one (dL [x]), .one (dI n)] []) := by
  obtain ⟨h1, h2⟩ := hp
  refine ⟨n.toNat + 2, ?_⟩
  rw [slices_Repeat_Lint_w, slices_Repeat_Lint_vc _ _ _ _ _ rfl _ rfl _ rfl _ rfl]
  have e1 : u64w (((len (x :: [])) : Nat) : Int) = 1 := by simp only [len, List.length_cons, List.length_nil]; exact u64w_id (by omega) (by omega)
  rw [e1, u64w_id (n := n) h1 (by omega), Int.one_mul]
  have e2 : n / two64 = 0 := by unfold two64; omega
  have e3 : n % two64 = n := by unfold two64; omega
  rw [e2, e3, w64_id (by omega) (by omega)]
  refine lt_f h1 ⟨⟨inU64_of (by omega) (by omega), inU64_of h1 (by omega)⟩, lt_f (by omega) (lt_f (by omega) ⟨⟨h1, by omega, by omega⟩, ?_⟩)⟩
  obtain ⟨k, rfl⟩ := Int.eq_ofNat_of_zero_le h1
  rw [toNat_nat] at hK ⊢
  have e4 : len (zeros k (Ty.dflt Ty.int)) = k := by simp [len, zeros]
  rw [e4]
  have := loop_slices_Repeat_Lint x k (by omega) K hK k (min k 1) (by omega) (by omega) (by omega)
  have e5 : put (zeros k (Ty.dflt Ty.int)) 0 (slc (x :: []) 0 (min k (len (x :: [])))) = List.replicate (min k 1) x ++ List.replicate (k - min k 1) 0 := by
    have h := put_rep x k 0 (min k 1)
    rw [Nat.zero_add] at h
    rw [← h]
    have : slc (x :: []) 0 (min k (len (x :: []))) = List.replicate (min k 1) x := by
      simp only [len, List.length_cons, List.length_nil, slc]
      cases k with
      | zero => simp
      | succ k => rw [show min (k + 1) (0 + 1) = 1 by omega]; rfl
    rw [this]
    rfl
  rw [e5, show min k (len (x :: [])) = min k 1 from rfl]
  exact this
theorem sound_slices_Repeat_Lint : SoundC Tryd.prog tab n_slices_Repeat_Lint c_slices_Repeat_Lint := soundC_of ok_slices_Repeat_Lint hf_slices_Repeat_Lint hB_slices_Repeat_Lint (by
  intro vs bs p v bs' h hp
  unfold c_slices_Repeat_Lint at h
  split at h
  · cases h
    exact ⟨by kernel_rfl, rfl, .inl (run_slices_Repeat_Lint _ _ hp.1 _ ⟨rfl, rfl⟩)⟩
  · cases h)

def c_flash_New : Contract := fun vs bs => match vs, bs with
  | [.one (.dat .int n)], [] => some (none, .tup [.agg [.dat (.list .int) (newFlash n).1.words, .dat .int (newFlash n).1.fuel], .one (.dat .int (newFlash n).2)], [])
  | _, _ => none
def Γ_flash_New : Ctx := [(n_slices_Repeat_Lint, c_slices_Repeat_Lint)]
theorem ok_flash_New : Ok Tryd.prog tab Γ_flash_New := (ok_nil.consC hf_slices_Repeat_Lint hB_slices_Repeat_Lint sound_slices_Repeat_Lint)
theorem flash_New_vc (n : Int) (rec : RK) (K : KK) v0 (hv0 : v0 = (K (.tup [.agg [dL [], dI (0 : Int)], .one (dI (3 : Int))]) [])) : segD Γ_flash_New tab fn_flash_New 0 K rec [.code (bodyOf fn_flash_New)] (initSt [.one (dI n)] []) = (
 br (lti n (1 : Int))
 v0
 (br (lti (6 : Int) n)
 v0
 ((((0 : Int) ≤ (w64 (n * (32 : Int)))) ∧ ((w64 (n * (32 : Int))) ≤ (1000000 : Int))) ∧
 (K (.tup [.agg [dL (zeros (Int.toNat (w64 (n * (32 : Int)))) (65535 : Int)), dI (-(1 : Int))], .one (dI (0 : Int))]) [])))) := by subst_vars; kernel_rfl
theorem flash_New_w (m : Nat) (K : KK) (st : St) : goD Γ_flash_New tab fn_flash_New 0 K (m + 1) [.code (bodyOf fn_flash_New)] st = segD Γ_flash_New tab fn_flash_New 0 K (goD Γ_flash_New tab fn_flash_New 0 K m) [.code (bodyOf fn_flash_New)] st := rfl

set_option maxHeartbeats 4000000 in
theorem run_flash_New (n : Int) (K : KK) (hK : K (.tup [.agg [dL (newFlash n).1.words, dI (newFlash n).1.fuel], .one (dI (newFlash n).2)]) []) : ∃ m, goD Γ_flash_New tab fn_flash_New 0 K m [.code (bodyOf fn_flash_New)] (initSt [.one (dI n)] []) := by
  refine ⟨1, ?_⟩
  rw [flash_New_w, flash_New_vc _ _ _ _ rfl]
  unfold newFlash at hK
  refine lt_s (fun h => ?_) (fun h => lt_s (fun h2 => ?_) (fun h2 => ?_))
  · rw [if_neg (by omega)] at hK; exact hK
  · rw [if_neg (by omega)] at hK; exact hK
  · rw [if_pos ⟨h, h2⟩] at hK
    rw [w64_id (by omega) (by omega)]
    exact ⟨⟨by omega, by omega⟩, hK⟩
theorem sound_flash_New : SoundC Tryd.prog tab n_flash_New c_flash_New := soundC_of ok_flash_New hf_flash_New hB_flash_New (by
  intro vs bs p v bs' h hp
  unfold c_flash_New at h
  split at h
  · cases h
    exact ⟨by kernel_rfl, rfl, .inl (run_flash_New _ _ ⟨rfl, rfl⟩)⟩
  · cases h)

def c_slices_Clone_Lint : Contract := fun vs bs => match vs, bs with
  | [.one (.dat (.list .int) l)], [] => some (some (len l * 8 ≤ 140737488355328), .one (.own 0), [.arr .int l])
  | _, _ => none
def Γ_slices_Clone_Lint : Ctx := []
theorem ok_slices_Clone_Lint : Ok Tryd.prog tab Γ_slices_Clone_Lint := ok_nil
theorem slices_Clone_Lint_vc (l : List Int) (rec : RK) (K : KK) : segO Γ_slices_Clone_Lint tab fn_slices_Clone_Lint 0 K rec [.code (bodyOf fn_slices_Clone_Lint)] (initSt [.one (dL l)] []) = (
 (∀ bn : Bool, (((bn = true) → ((len l) = 0)) → br bn
 (K (.one (.own 0)) [.arr Ty.int []])
 ((((0 + (len l)) * 8) ≤ 140737488355328) ∧
 (K (.one (.own 0)) [.arr Ty.int (cat [] l)]))))) := by kernel_rfl
theorem slices_Clone_Lint_w (m : Nat) (K : KK) (st : St) : goO Γ_slices_Clone_Lint tab fn_slices_Clone_Lint 0 K (m + 1) [.code (bodyOf fn_slices_Clone_Lint)] st = segO Γ_slices_Clone_Lint tab fn_slices_Clone_Lint 0 K (goO Γ_slices_Clone_Lint tab fn_slices_Clone_Lint 0 K m) [.code (bodyOf fn_slices_Clone_Lint)] st := rfl

set_option maxHeartbeats 4000000 in
theorem run_slices_Clone_Lint (l : List Int) (hp : len l * 8 ≤ 140737488355328) (K : KK) (hK : K (.one (.own 0)) [.arr .int l]) : ∃ m, goO Γ_slices_Clone_Lint tab fn_slices_Clone_Lint 0 K m [.code (bodyOf fn_slices_Clone_Lint)] (initSt [.one (dL l)] []) := by
  refine ⟨1, ?_⟩
  rw [slices_Clone_Lint_w, slices_Clone_Lint_vc _ _ _]
  intro bn hb
  refine br_split (fun h => ?_) (fun h => ⟨by simp only [len] at hp ⊢; omega, hK⟩)
  have : l = [] := List.length_eq_zero_iff.1 (hb h)
  subst this
  exact hK
theorem sound_slices_Clone_Lint : SoundC Tryd.prog tab n_slices_Clone_Lint c_slices_Clone_Lint := soundC_of ok_slices_Clone_Lint hf_slices_Clone_Lint hB_slices_Clone_Lint (by
  intro vs bs p v bs' h hp
  unfold c_slices_Clone_Lint at h
  split at h
  · cases h
    exact ⟨by kernel_rfl, rfl, .inr (.inl (run_slices_Clone_Lint _ hp.1 _ ⟨rfl, rfl⟩))⟩
  · cases h)

def c_flash_Copy : Contract := fun vs bs => match vs, bs with
  | [.agg [.dat (.list .int) ws, .dat .int fu]], [] => some (some (len ws * 8 ≤ 140737488355328), .agg [.own 0, .dat .int fu], [.arr .int ws])
  | _, _ => none
def Γ_flash_Copy : Ctx := [(n_slices_Clone_Lint, c_slices_Clone_Lint)]
theorem ok_flash_Copy : Ok Tryd.prog tab Γ_flash_Copy := (ok_nil.consC hf_slices_Clone_Lint hB_slices_Clone_Lint sound_slices_Clone_Lint)
theorem flash_Copy_vc (ws : List Int) (fu : Int) (rec : RK) (K : KK) : segO Γ_flash_Copy tab fn_flash_Copy 0 K rec [.code (bodyOf fn_flash_Copy)] (initSt [.agg [dL ws, dI fu]] []) = (
 (((len ws) * 8) ≤ 140737488355328) ∧
 (K (.agg [.own 0, dI fu]) [.arr Ty.int ws])) := by kernel_rfl
theorem flash_Copy_w (m : Nat) (K : KK) (st : St) : goO Γ_flash_Copy tab fn_flash_Copy 0 K (m + 1) [.code (bodyOf fn_flash_Copy)] st = segO Γ_flash_Copy tab fn_flash_Copy 0 K (goO Γ_flash_Copy tab fn_flash_Copy 0 K m) [.code (bodyOf fn_flash_Copy)] st := rfl

set_option maxHeartbeats 4000000 in
theorem run_flash_Copy (ws : List Int) (fu : Int) (hp : len ws * 8 ≤ 140737488355328) (K : KK) (hK : K (.agg [.own 0, dI fu]) [.arr .int ws]) : ∃ m, goO Γ_flash_Copy tab fn_flash_Copy 0 K m [.code (bodyOf fn_flash_Copy)] (initSt [.agg [dL ws, dI fu]] []) := by
  refine ⟨1, ?_⟩
  rw [flash_Copy_w, flash_Copy_vc _ _ _ _]
  exact ⟨hp, hK⟩
theorem sound_flash_Copy : SoundC Tryd.prog tab n_flash_Copy c_flash_Copy := soundC_of ok_flash_Copy hf_flash_Copy hB_flash_Copy (by
  intro vs bs p v bs' h hp
  unfold c_flash_Copy at h
  split at h
  · cases h
    exact ⟨by kernel_rfl, rfl, .inr (.inl (run_flash_Copy _ _ hp.1 _ ⟨rfl, rfl⟩))⟩
  · cases h)

def c_flash_burn : Contract := fun vs bs => match vs, bs with
  | [.one (.ptr 0 0)], [.box [.own 1, .dat .int fu], .arr .int ws] => some (some (fu ≤ 100000), .one (.dat .bool (!eqi fu 0)), [.box [.own 1, .dat .int (burnFuel fu)], .arr .int ws])
  | _, _ => none
def Γ_flash_burn : Ctx := []
theorem ok_flash_burn : Ok Tryd.prog tab Γ_flash_burn := ok_nil
theorem flash_burn_vc (ws : List Int) (fu : Int) (rec : RK) (K : KK) : segD Γ_flash_burn tab fn_flash_burn 2 K rec [.code (bodyOf fn_flash_burn)] (initSt [.one (.ptr 0 0)] [.box [.own 1, dI fu], .arr Ty.int ws]) = (
 br (eqi fu (0 : Int))
 (K (.one (dB false)) [.box [.own 1, dI fu], .arr Ty.int ws])
 (br (lti (0 : Int) fu)
 (K (.one (dB true)) [.box [.own 1, dI (w64 (fu - (1 : Int)))], .arr Ty.int ws])
 (K (.one (dB true)) [.box [.own 1, dI fu], .arr Ty.int ws]))) := by kernel_rfl
theorem flash_burn_w (m : Nat) (K : KK) (st : St) : goD Γ_flash_burn tab fn_flash_burn 2 K (m + 1) [.code (bodyOf fn_flash_burn)] st = segD Γ_flash_burn tab fn_flash_burn 2 K (goD Γ_flash_burn tab fn_flash_burn 2 K m) [.code (bodyOf fn_flash_burn)] st := rfl

set_option maxHeartbeats 4000000 in
theorem run_flash_burn (ws : List Int) (fu : Int) (hp : fu ≤ 100000) (K : KK) (hK : K (.one (dB (!eqi fu 0))) [.box [.own 1, dI (burnFuel fu)], .arr .int ws]) : ∃ m, goD Γ_flash_burn tab fn_flash_burn 2 K m [.code (bodyOf fn_flash_burn)] (initSt [.one (.ptr 0 0)] [.box [.own 1, dI fu], .arr .int ws]) := by
  refine ⟨1, ?_⟩
  rw [flash_burn_w, flash_burn_vc _ _ _ _]
  refine eq_s (fun h => ?_) (fun h => lt_s (fun h2 => ?_) (fun h2 => ?_))
  · rw [show (!eqi fu 0) = false from by simp [eqi, h], show burnFuel fu = fu from by simp [burnFuel, h]] at hK; exact hK
  · rw [show (!eqi fu 0) = true from by simp [eqi, h], show burnFuel fu = fu - 1 from by simp [burnFuel, h2]] at hK
    rw [w64_id (by omega) (by omega)]; exact hK
  · rw [show (!eqi fu 0) = true from by simp [eqi, h], show burnFuel fu = fu from by simp only [burnFuel]; rw [if_neg (by omega)]] at hK; exact hK
theorem sound_flash_burn : SoundC Tryd.prog tab n_flash_burn c_flash_burn := soundC_of ok_flash_burn hf_flash_burn hB_flash_burn (by
  intro vs bs p v bs' h hp
  unfold c_flash_burn at h
  split at h
  · cases h
    exact ⟨by kernel_rfl, rfl, .inl (run_flash_burn _ _ hp.1 _ ⟨rfl, rfl⟩)⟩
  · cases h)

def c_flash_Wipe : Contract := fun vs bs => match vs, bs with
  | [.one (.ptr 0 0), .one (.dat .int sector)], [.box [.own 1, .dat .int fu], .arr .int ws] => some (some (-1 ≤ fu ∧ fu ≤ 100000 ∧ 0 ≤ sector ∧ (sector + 1) * 32 ≤ (len ws : Nat) ∧ len ws ≤ 192), .one (.dat .bool (doCh ⟨ws, fu⟩ (wipeCh sector)).2), [.box [.own 1, .dat .int (doCh ⟨ws, fu⟩ (wipeCh sector)).1.fuel], .arr .int (doCh ⟨ws, fu⟩ (wipeCh sector)).1.words])
  | _, _ => none
def Γ_flash_Wipe : Ctx := [(n_flash_burn, c_flash_burn)]
theorem ok_flash_Wipe : Ok Tryd.prog tab Γ_flash_Wipe := (ok_nil.consC hf_flash_burn hB_flash_burn sound_flash_burn)
noncomputable def flash_Wipe_L0 : List It := [.inLoop [6, 4, 0, 1] (Code.sub (bodyOf fn_flash_Wipe) [1, 0, 1, 0, 0]), .inBlock 0, .code (Code.sub (bodyOf fn_flash_Wipe) [1, 1])]
def flash_Wipe_S0 (x0 : Int) (x1 : Bool) (x2 : Int) (x3 : Int) (x4 : (List Int)) : St := ⟨[(6, .one (dI x0)), (4, .one (dB x1)), (0, .one (.ptr 0 0)), (1, .one (dI x2))], [(0, .box [.own 1, dI x3]), (1, .arr Ty.int x4)], 2⟩
theorem flash_Wipe_vc (ws : List Int) (fu : Int) (sector : Int) (rec : RK) (K : KK) : segD Γ_flash_Wipe tab fn_flash_Wipe 2 K rec [.code (bodyOf fn_flash_Wipe)] (initSt [.one (.ptr 0 0), .one (dI sector)] [.box [.own 1, dI fu], .arr Ty.int ws]) = (
 rec flash_Wipe_L0 (flash_Wipe_S0 (0 : Int) false sector fu ws)) := by kernel_rfl
theorem flash_Wipe_w (m : Nat) (K : KK) (st : St) : goD Γ_flash_Wipe tab fn_flash_Wipe 2 K (m + 1) [.code (bodyOf fn_flash_Wipe)] st = segD Γ_flash_Wipe tab fn_flash_Wipe 2 K (goD Γ_flash_Wipe tab fn_flash_Wipe 2 K m) [.code (bodyOf fn_flash_Wipe)] st := rfl
theorem flash_Wipe_vc0 (x0 : Int) (x1 : Bool) (x2 : Int) (x3 : Int) (x4 : (List Int)) (rec : RK) (K : KK) v0 (hv0 : v0 = (burnFuel x3)) : segD Γ_flash_Wipe tab fn_flash_Wipe 2 K rec (.code (Code.sub (bodyOf fn_flash_Wipe) [1, 0, 1, 0, 0]) :: flash_Wipe_L0) (flash_Wipe_S0 x0 x1 x2 x3 x4) = (
 br (lti x0 (32 : Int))
 ((x3 ≤ (100000 : Int)) ∧
 (br (!(!(eqi x3 (0 : Int))))
 (K (.one (dB false)) [.box [.own 1, dI v0], .arr Ty.int x4])
 ((((0 : Int) ≤ (w64 ((w64 (x2 * (32 : Int))) + x0))) ∧ ((w64 ((w64 (x2 * (32 : Int))) + x0)) < (((len x4) : Nat) : Int))) ∧
 (((Int.toNat (w64 ((w64 (x2 * (32 : Int))) + x0))) < (len x4)) ∧
 (rec flash_Wipe_L0 (flash_Wipe_S0 (w64 (x0 + (1 : Int))) x1 x2 v0 (setAt x4 (Int.toNat (w64 ((w64 (x2 * (32 : Int))) + x0))) (65535 : Int))))))))
 (K (.one (dB true)) [.box [.own 1, dI x3], .arr Ty.int x4])) := by subst_vars; kernel_rfl
theorem flash_Wipe_w0 (m : Nat) (K : KK) (st : St) : goD Γ_flash_Wipe tab fn_flash_Wipe 2 K (m + 1) flash_Wipe_L0 st = segD Γ_flash_Wipe tab fn_flash_Wipe 2 K (goD Γ_flash_Wipe tab fn_flash_Wipe 2 K m) (.code (Code.sub (bodyOf fn_flash_Wipe) [1, 0, 1, 0, 0]) :: flash_Wipe_L0) st := rfl

theorem loop_flash_Wipe (sector : Int) (hs : 0 ≤ sector) (K : KK) : ∀ (n : Nat) (ws : List Int) (fu : Int), n ≤ 32 → -1 ≤ fu → fu ≤ 100000 → (sector + 1) * 32 ≤ (ws.length : Nat) → ws.length ≤ 192 →
    K (.one (dB (doCh ⟨ws, fu⟩ (wipeFrom (32 * sector + (32 - n)) n)).2)) [.box [.own 1, dI (doCh ⟨ws, fu⟩ (wipeFrom (32 * sector + (32 - n)) n)).1.fuel], .arr .int (doCh ⟨ws, fu⟩ (wipeFrom (32 * sector + (32 - n)) n)).1.words] →
    goD Γ_flash_Wipe tab fn_flash_Wipe 2 K (n + 1) flash_Wipe_L0 (flash_Wipe_S0 (32 - n) false sector fu ws)
  | 0, ws, fu, hn, h1, h2, h3, h4, hK => by
    rw [flash_Wipe_w0, flash_Wipe_vc0 _ _ _ _ _ _ _ _ rfl]
    refine lt_f (by omega) ?_
    simp only [wipeFrom, doCh_nil] at hK
    exact hK
  | n + 1, ws, fu, hn, h1, h2, h3, h4, hK => by
    rw [flash_Wipe_w0, flash_Wipe_vc0 _ _ _ _ _ _ _ _ rfl]
    have e1 : w64 ((w64 (sector * 32)) + (32 - ((n + 1 : Nat) : Int))) = 32 * sector + (32 - ((n + 1 : Nat) : Int)) := by
      rw [w64_id (n := sector * 32) (by omega) (by omega), w64_id (by omega) (by omega)]; omega
    rw [e1]
    simp only [wipeFrom, doCh_cons] at hK
    refine lt_t (by omega) ⟨h2, ?_⟩
    by_cases h0 : fu = 0
    · subst h0
      refine br_t (by simp [eqi]) ?_
      simp only [if_true] at hK
      exact hK
    · rw [if_neg h0] at hK
      refine br_f (by simp [eqi, h0]) ⟨⟨by omega, by simp only [len]; omega⟩, by simp only [len]; omega, ?_⟩
      rw [w64_id (by omega) (by omega), show (32 - ((n + 1 : Nat) : Int)) + 1 = 32 - (n : Int) by omega]
      refine loop_flash_Wipe sector hs K n _ _ (by omega) ?_ ?_ (by simp [setAt]; omega) (by simpa [setAt] using h4) ?_
      · unfold burnFuel; split <;> omega
      · unfold burnFuel; split <;> omega
      · rw [show (32 * sector + (32 - ((n + 1 : Nat) : Int))) + 1 = 32 * sector + (32 - (n : Int)) by omega] at hK
        exact hK
set_option maxHeartbeats 4000000 in
theorem run_flash_Wipe (ws : List Int) (fu sector : Int) (hp : -1 ≤ fu ∧ fu ≤ 100000 ∧ 0 ≤ sector ∧ (sector + 1) * 32 ≤ (len ws : Nat) ∧ len ws ≤ 192) (K : KK) (hK : K (.one (dB (doCh ⟨ws, fu⟩ (wipeCh sector)).2)) [.box [.own 1, dI (doCh ⟨ws, fu⟩ (wipeCh sector)).1.fuel], .arr .int (doCh ⟨ws, fu⟩ (wipeCh sector)).1.words]) : ∃ m, goD Γ_flash_Wipe tab fn_flash_Wipe 2 K m [.code (bodyOf fn_flash_Wipe)] (initSt [.one (.ptr 0 0), .one (dI sector)] [.box [.own 1, dI fu], .arr .int ws]) := by
  obtain ⟨h1, h2, h3, h4, h5⟩ := hp
  refine ⟨34, ?_⟩
  rw [flash_Wipe_w, flash_Wipe_vc _ _ _ _ _]
  exact loop_flash_Wipe sector h3 K 32 ws fu (by omega) h1 h2 (by simpa [len] using h4) h5 (by simpa [wipeCh] using hK)
theorem sound_flash_Wipe : SoundC Tryd.prog tab n_flash_Wipe c_flash_Wipe := soundC_of ok_flash_Wipe hf_flash_Wipe hB_flash_Wipe (by
  intro vs bs p v bs' h hp
  unfold c_flash_Wipe at h
  split at h
  · cases h
    exact ⟨by kernel_rfl, rfl, .inl (run_flash_Wipe _ _ _ hp.1 _ ⟨rfl, rfl⟩)⟩
  · cases h)

abbrev n_flash_Burn_b : Nat := n_flash_Burn
noncomputable abbrev fn_flash_Burn_b : Func := fn_flash_Burn
theorem hf_flash_Burn_b : Tryd.prog.funcs[n_flash_Burn_b]? = some fn_flash_Burn_b := hf_flash_Burn
theorem hB_flash_Burn_b : fnB fn_flash_Burn_b = true := hB_flash_Burn
def c_flash_Burn_b : Contract := fun vs bs => match vs, bs with
  | [.one (.ptr 0 0), .one (.dat .int at_), .one (.own 1)], [.box [.own 2, .dat .int fu], .arr .int l, .arr .int ws] => some (some (-1 ≤ fu ∧ fu ≤ 100000 ∧ 0 ≤ at_ ∧ at_ + (len l : Nat) ≤ (len ws : Nat) ∧ len ws ≤ 192), .one (.dat .bool (doCh ⟨ws, fu⟩ (burnCh at_ l)).2), [.box [.own 2, .dat .int (doCh ⟨ws, fu⟩ (burnCh at_ l)).1.fuel], .arr .int l, .arr .int (doCh ⟨ws, fu⟩ (burnCh at_ l)).1.words])
  | _, _ => none
def Γ_flash_Burn_b : Ctx := [(n_flash_burn, c_flash_burn)]
theorem ok_flash_Burn_b : Ok Tryd.prog tab Γ_flash_Burn_b := (ok_nil.consC hf_flash_burn hB_flash_burn sound_flash_burn)
noncomputable def flash_Burn_b_L0 : List It := [.inLoop [11, 10, 9, 6, 0, 1] (Code.sub (bodyOf fn_flash_Burn_b) [1, 0, 1, 0, 0]), .inBlock 0, .code (Code.sub (bodyOf fn_flash_Burn_b) [1, 1])]
def flash_Burn_b_S0 (x0 : Int) (x1 : Int) (x2 : Bool) (x3 : Int) (x4 : Int) (x5 : (List Int)) (x6 : (List Int)) : St := ⟨[(11, .one (dI x0)), (10, .one (dI x1)), (9, .one (.own 1)), (6, .one (dB x2)), (0, .one (.ptr 0 0)), (1, .one (dI x3))], [(0, .box [.own 2, dI x4]), (1, .arr Ty.int x5), (2, .arr Ty.int x6)], 3⟩
theorem flash_Burn_b_vc (ws : List Int) (fu : Int) (at_ : Int) (l : List Int) (rec : RK) (K : KK) : segD Γ_flash_Burn_b tab fn_flash_Burn_b 3 K rec [.code (bodyOf fn_flash_Burn_b)] (initSt [.one (.ptr 0 0), .one (dI at_), .one (.own 1)] [.box [.own 2, dI fu], .arr Ty.int l, .arr Ty.int ws]) = (
 rec flash_Burn_b_L0 (flash_Burn_b_S0 (0 : Int) (((len l) : Nat) : Int) false at_ fu l ws)) := by kernel_rfl
theorem flash_Burn_b_w (m : Nat) (K : KK) (st : St) : goD Γ_flash_Burn_b tab fn_flash_Burn_b 3 K (m + 1) [.code (bodyOf fn_flash_Burn_b)] st = segD Γ_flash_Burn_b tab fn_flash_Burn_b 3 K (goD Γ_flash_Burn_b tab fn_flash_Burn_b 3 K m) [.code (bodyOf fn_flash_Burn_b)] st := rfl
theorem flash_Burn_b_vc0 (x0 : Int) (x1 : Int) (x2 : Bool) (x3 : Int) (x4 : Int) (x5 : (List Int)) (x6 : (List Int)) (rec : RK) (K : KK) v0 (hv0 : v0 = (burnFuel x4)) : segD Γ_flash_Burn_b tab fn_flash_Burn_b 3 K rec (.code (Code.sub (bodyOf fn_flash_Burn_b) [1, 0, 1, 0, 0]) :: flash_Burn_b_L0) (flash_Burn_b_S0 x0 x1 x2 x3 x4 x5 x6) = (
 br (lti x0 x1)
 ((((0 : Int) ≤ x0) ∧ (x0 < (((len x5) : Nat) : Int))) ∧
 (((Int.toNat x0) < (len x5)) ∧
 ((x4 ≤ (100000 : Int)) ∧
 (br (!(!(eqi x4 (0 : Int))))
 (K (.one (dB false)) [.box [.own 2, dI v0], .arr Ty.int x5, .arr Ty.int x6])
 ((((0 : Int) ≤ (w64 (x3 + x0))) ∧ ((w64 (x3 + x0)) < (((len x6) : Nat) : Int))) ∧
 (((Int.toNat (w64 (x3 + x0))) < (len x6)) ∧
 ((((0 : Int) ≤ (w64 (x3 + x0))) ∧ ((w64 (x3 + x0)) < (((len x6) : Nat) : Int))) ∧
 (((Int.toNat (w64 (x3 + x0))) < (len x6)) ∧
 (rec flash_Burn_b_L0 (flash_Burn_b_S0 (w64 (x0 + (1 : Int))) x1 x2 x3 v0 x5 (setAt x6 (Int.toNat (w64 (x3 + x0))) (andi (nth x6 (Int.toNat (w64 (x3 + x0))) (Ty.dflt Ty.int)) (nth x5 (Int.toNat x0) (Ty.dflt Ty.int))))))))))))))
 (K (.one (dB true)) [.box [.own 2, dI x4], .arr Ty.int x5, .arr Ty.int x6])) := by subst_vars; kernel_rfl
theorem flash_Burn_b_w0 (m : Nat) (K : KK) (st : St) : goD Γ_flash_Burn_b tab fn_flash_Burn_b 3 K (m + 1) flash_Burn_b_L0 st = segD Γ_flash_Burn_b tab fn_flash_Burn_b 3 K (goD Γ_flash_Burn_b tab fn_flash_Burn_b 3 K m) (.code (Code.sub (bodyOf fn_flash_Burn_b) [1, 0, 1, 0, 0]) :: flash_Burn_b_L0) st := rfl

theorem loop_flash_Burn_b (at_ : Int) (hs : 0 ≤ at_) (l : List Int) (K : KK) : ∀ (n : Nat) (k : Nat) (ws : List Int) (fu : Int), k + n = l.length → -1 ≤ fu → fu ≤ 100000 → at_ + (l.length : Nat) ≤ (ws.length : Nat) → ws.length ≤ 192 →
    K (.one (dB (doCh ⟨ws, fu⟩ (burnCh (at_ + k) (l.drop k))).2)) [.box [.own 2, dI (doCh ⟨ws, fu⟩ (burnCh (at_ + k) (l.drop k))).1.fuel], .arr .int l, .arr .int (doCh ⟨ws, fu⟩ (burnCh (at_ + k) (l.drop k))).1.words] →
    goD Γ_flash_Burn_b tab fn_flash_Burn_b 3 K (n + 1) flash_Burn_b_L0 (flash_Burn_b_S0 (k : Int) (((len l) : Nat) : Int) false at_ fu l ws)
  | 0, k, ws, fu, hk, h1, h2, h3, h4, hK => by
    rw [flash_Burn_b_w0, flash_Burn_b_vc0 _ _ _ _ _ _ _ _ _ _ rfl]
    refine lt_f (by simp only [len]; omega) ?_
    rw [List.drop_of_length_le (by omega)] at hK
    simp only [burnCh, doCh_nil] at hK
    exact hK
  | n + 1, k, ws, fu, hk, h1, h2, h3, h4, hK => by
    rw [flash_Burn_b_w0, flash_Burn_b_vc0 _ _ _ _ _ _ _ _ _ _ rfl]
    rw [w64_id (n := at_ + k) (by omega) (by omega)]
    rw [drop_step (by omega) (Ty.dflt Ty.int)] at hK
    simp only [burnCh, doCh_cons] at hK
    refine lt_t (by simp only [len]; omega) ⟨⟨by omega, by simp only [len]; omega⟩, by simp only [len]; omega, h2, ?_⟩
    by_cases h0 : fu = 0
    · subst h0
      refine br_t (by simp [eqi]) ?_
      simp only [if_true] at hK
      exact hK
    · rw [if_neg h0] at hK
      refine br_f (by simp [eqi, h0]) ⟨⟨by omega, by simp only [len]; omega⟩, by simp only [len]; omega, ⟨by omega, by simp only [len]; omega⟩, by simp only [len]; omega, ?_⟩
      rw [w64_succ (by omega)]
      refine loop_flash_Burn_b at_ hs l K n (k + 1) _ _ (by omega) ?_ ?_ (by simpa [setAt] using h3) (by simpa [setAt] using h4) ?_
      · unfold burnFuel; split <;> omega
      · unfold burnFuel; split <;> omega
      · rw [show at_ + ((k + 1 : Nat) : Int) = at_ + k + 1 by omega]
        exact hK
set_option maxHeartbeats 4000000 in
theorem run_flash_Burn_b (ws : List Int) (fu at_ : Int) (l : List Int) (hp : -1 ≤ fu ∧ fu ≤ 100000 ∧ 0 ≤ at_ ∧ at_ + (len l : Nat) ≤ (len ws : Nat) ∧ len ws ≤ 192) (K : KK) (hK : K (.one (dB (doCh ⟨ws, fu⟩ (burnCh at_ l)).2)) [.box [.own 2, dI (doCh ⟨ws, fu⟩ (burnCh at_ l)).1.fuel], .arr .int l, .arr .int (doCh ⟨ws, fu⟩ (burnCh at_ l)).1.words]) : ∃ m, goD Γ_flash_Burn_b tab fn_flash_Burn_b 3 K m [.code (bodyOf fn_flash_Burn_b)] (initSt [.one (.ptr 0 0), .one (dI at_), .one (.own 1)] [.box [.own 2, dI fu], .arr .int l, .arr .int ws]) := by
  obtain ⟨h1, h2, h3, h4, h5⟩ := hp
  refine ⟨l.length + 2, ?_⟩
  rw [flash_Burn_b_w, flash_Burn_b_vc _ _ _ _ _ _]
  exact loop_flash_Burn_b at_ h3 l K l.length 0 ws fu (by omega) h1 h2 h4 h5 (by simpa using hK)
theorem sound_flash_Burn_b : SoundC Tryd.prog tab n_flash_Burn_b c_flash_Burn_b := soundC_of ok_flash_Burn_b hf_flash_Burn_b hB_flash_Burn_b (by
  intro vs bs p v bs' h hp
  unfold c_flash_Burn_b at h
  split at h
  · cases h
    exact ⟨by kernel_rfl, rfl, .inl (run_flash_Burn_b _ _ _ _ hp.1 _ ⟨rfl, rfl⟩)⟩
  · cases h)

def c_flash_Burn : Contract := fun vs bs => match vs, bs with
  | [.one (.ptr 0 0), .one (.dat .int at_), .one (.dat (.list .int) l)], [.box [.own 1, .dat .int fu], .arr .int ws] => some (some (-1 ≤ fu ∧ fu ≤ 100000 ∧ 0 ≤ at_ ∧ at_ + (len l : Nat) ≤ (len ws : Nat) ∧ len ws ≤ 192), .one (.dat .bool (doCh ⟨ws, fu⟩ (burnCh at_ l)).2), [.box [.own 1, .dat .int (doCh ⟨ws, fu⟩ (burnCh at_ l)).1.fuel], .arr .int (doCh ⟨ws, fu⟩ (burnCh at_ l)).1.words])
  | _, _ => none
def Γ_flash_Burn : Ctx := [(n_flash_burn, c_flash_burn)]
theorem ok_flash_Burn : Ok Tryd.prog tab Γ_flash_Burn := (ok_nil.consC hf_flash_burn hB_flash_burn sound_flash_burn)
noncomputable def flash_Burn_L0 : List It := [.inLoop [11, 10, 9, 6, 0, 1] (Code.sub (bodyOf fn_flash_Burn) [1, 0, 1, 0, 0]), .inBlock 0, .code (Code.sub (bodyOf fn_flash_Burn) [1, 1])]
def flash_Burn_S0 (x0 : Int) (x1 : Int) (x2 : (List Int)) (x3 : Bool) (x4 : Int) (x5 : Int) (x6 : (List Int)) : St := ⟨[(11, .one (dI x0)), (10, .one (dI x1)), (9, .one (dL x2)), (6, .one (dB x3)), (0, .one (.ptr 0 0)), (1, .one (dI x4))], [(0, .box [.own 1, dI x5]), (1, .arr Ty.int x6)], 2⟩
theorem flash_Burn_vc (ws : List Int) (fu : Int) (at_ : Int) (l : List Int) (rec : RK) (K : KK) : segD Γ_flash_Burn tab fn_flash_Burn 2 K rec [.code (bodyOf fn_flash_Burn)] (initSt [.one (.ptr 0 0), .one (dI at_), .one (dL l)] [.box [.own 1, dI fu], .arr Ty.int ws]) = (
 rec flash_Burn_L0 (flash_Burn_S0 (0 : Int) (((len l) : Nat) : Int) l false at_ fu ws)) := by kernel_rfl
theorem flash_Burn_w (m : Nat) (K : KK) (st : St) : goD Γ_flash_Burn tab fn_flash_Burn 2 K (m + 1) [.code (bodyOf fn_flash_Burn)] st = segD Γ_flash_Burn tab fn_flash_Burn 2 K (goD Γ_flash_Burn tab fn_flash_Burn 2 K m) [.code (bodyOf fn_flash_Burn)] st := rfl
theorem flash_Burn_vc0 (x0 : Int) (x1 : Int) (x2 : (List Int)) (x3 : Bool) (x4 : Int) (x5 : Int) (x6 : (List Int)) (rec : RK) (K : KK) v0 (hv0 : v0 = (burnFuel x5)) : segD Γ_flash_Burn tab fn_flash_Burn 2 K rec (.code (Code.sub (bodyOf fn_flash_Burn) [1, 0, 1, 0, 0]) :: flash_Burn_L0) (flash_Burn_S0 x0 x1 x2 x3 x4 x5 x6) = (
 br (lti x0 x1)
 ((((0 : Int) ≤ x0) ∧ (x0 < (((len x2) : Nat) : Int))) ∧
 ((x5 ≤ (100000 : Int)) ∧
 (br (!(!(eqi x5 (0 : Int))))
 (K (.one (dB false)) [.box [.own 1, dI v0], .arr Ty.int x6])
 ((((0 : Int) ≤ (w64 (x4 + x0))) ∧ ((w64 (x4 + x0)) < (((len x6) : Nat) : Int))) ∧
 (((Int.toNat (w64 (x4 + x0))) < (len x6)) ∧
 ((((0 : Int) ≤ (w64 (x4 + x0))) ∧ ((w64 (x4 + x0)) < (((len x6) : Nat) : Int))) ∧
 (((Int.toNat (w64 (x4 + x0))) < (len x6)) ∧
 (rec flash_Burn_L0 (flash_Burn_S0 (w64 (x0 + (1 : Int))) x1 x2 x3 x4 v0 (setAt x6 (Int.toNat (w64 (x4 + x0))) (andi (nth x6 (Int.toNat (w64 (x4 + x0))) (Ty.dflt Ty.int)) (nth x2 (Int.toNat x0) (Ty.dflt Ty.int)))))))))))))
 (K (.one (dB true)) [.box [.own 1, dI x5], .arr Ty.int x6])) := by subst_vars; kernel_rfl
theorem flash_Burn_w0 (m : Nat) (K : KK) (st : St) : goD Γ_flash_Burn tab fn_flash_Burn 2 K (m + 1) flash_Burn_L0 st = segD Γ_flash_Burn tab fn_flash_Burn 2 K (goD Γ_flash_Burn tab fn_flash_Burn 2 K m) (.code (Code.sub (bodyOf fn_flash_Burn) [1, 0, 1, 0, 0]) :: flash_Burn_L0) st := rfl

theorem loop_flash_Burn (at_ : Int) (hs : 0 ≤ at_) (l : List Int) (K : KK) : ∀ (n : Nat) (k : Nat) (ws : List Int) (fu : Int), k + n = l.length → -1 ≤ fu → fu ≤ 100000 → at_ + (l.length : Nat) ≤ (ws.length : Nat) → ws.length ≤ 192 →
    K (.one (dB (doCh ⟨ws, fu⟩ (burnCh (at_ + k) (l.drop k))).2)) [.box [.own 1, dI (doCh ⟨ws, fu⟩ (burnCh (at_ + k) (l.drop k))).1.fuel], .arr .int (doCh ⟨ws, fu⟩ (burnCh (at_ + k) (l.drop k))).1.words] →
    goD Γ_flash_Burn tab fn_flash_Burn 2 K (n + 1) flash_Burn_L0 (flash_Burn_S0 (k : Int) (((len l) : Nat) : Int) l false at_ fu ws)
  | 0, k, ws, fu, hk, h1, h2, h3, h4, hK => by
    rw [flash_Burn_w0, flash_Burn_vc0 _ _ _ _ _ _ _ _ _ _ rfl]
    refine lt_f (by simp only [len]; omega) ?_
    rw [List.drop_of_length_le (by omega)] at hK
    simp only [burnCh, doCh_nil] at hK
    exact hK
  | n + 1, k, ws, fu, hk, h1, h2, h3, h4, hK => by
    rw [flash_Burn_w0, flash_Burn_vc0 _ _ _ _ _ _ _ _ _ _ rfl]
    rw [w64_id (n := at_ + k) (by omega) (by omega)]
    rw [drop_step (by omega) (Ty.dflt Ty.int)] at hK
    simp only [burnCh, doCh_cons] at hK
    refine lt_t (by simp only [len]; omega) ⟨⟨by omega, by simp only [len]; omega⟩, h2, ?_⟩
    by_cases h0 : fu = 0
    · subst h0
      refine br_t (by simp [eqi]) ?_
      simp only [if_true] at hK
      exact hK
    · rw [if_neg h0] at hK
      refine br_f (by simp [eqi, h0]) ⟨⟨by omega, by simp only [len]; omega⟩, by simp only [len]; omega, ⟨by omega, by simp only [len]; omega⟩, by simp only [len]; omega, ?_⟩
      rw [w64_succ (by omega)]
      refine loop_flash_Burn at_ hs l K n (k + 1) _ _ (by omega) ?_ ?_ (by simpa [setAt] using h3) (by simpa [setAt] using h4) ?_
      · unfold burnFuel; split <;> omega
      · unfold burnFuel; split <;> omega
      · rw [show at_ + ((k + 1 : Nat) : Int) = at_ + k + 1 by omega]
        exact hK
set_option maxHeartbeats 4000000 in
theorem run_flash_Burn (ws : List Int) (fu at_ : Int) (l : List Int) (hp : -1 ≤ fu ∧ fu ≤ 100000 ∧ 0 ≤ at_ ∧ at_ + (len l : Nat) ≤ (len ws : Nat) ∧ len ws ≤ 192) (K : KK) (hK : K (.one (dB (doCh ⟨ws, fu⟩ (burnCh at_ l)).2)) [.box [.own 1, dI (doCh ⟨ws, fu⟩ (burnCh at_ l)).1.fuel], .arr .int (doCh ⟨ws, fu⟩ (burnCh at_ l)).1.words]) : ∃ m, goD Γ_flash_Burn tab fn_flash_Burn 2 K m [.code (bodyOf fn_flash_Burn)] (initSt [.one (.ptr 0 0), .one (dI at_), .one (dL l)] [.box [.own 1, dI fu], .arr .int ws]) := by
  obtain ⟨h1, h2, h3, h4, h5⟩ := hp
  refine ⟨l.length + 2, ?_⟩
  rw [flash_Burn_w, flash_Burn_vc _ _ _ _ _ _]
  exact loop_flash_Burn at_ h3 l K l.length 0 ws fu (by omega) h1 h2 h4 h5 (by simpa using hK)
theorem sound_flash_Burn : SoundC Tryd.prog tab n_flash_Burn c_flash_Burn := soundC_of ok_flash_Burn hf_flash_Burn hB_flash_Burn (by
  intro vs bs p v bs' h hp
  unfold c_flash_Burn at h
  split at h
  · cases h
    exact ⟨by kernel_rfl, rfl, .inl (run_flash_Burn _ _ _ _ hp.1 _ ⟨rfl, rfl⟩)⟩
  · cases h)

def c_log_Format : Contract := fun vs bs => match vs, bs with
  | [.agg [.dat (.list .int) ws, .dat .int fu]], [] => some (none, .tup [.agg [.dat (.list .int) (formatF ⟨ws, fu⟩).1.words, .dat .int (formatF ⟨ws, fu⟩).1.fuel], .one (.dat .int (formatF ⟨ws, fu⟩).2)], [])
  | _, _ => none
def Γ_log_Format : Ctx := [(n_flash_Check, c_flash_Check), (n_flash_Copy, c_flash_Copy), (n_flash_Wipe, c_flash_Wipe), (n_flash_Burn, (orC c_flash_Burn c_flash_Burn_b))]
theorem ok_log_Format : Ok Tryd.prog tab Γ_log_Format := ((((ok_nil.consC hf_flash_Burn hB_flash_Burn (soundC_or sound_flash_Burn sound_flash_Burn_b)).consC hf_flash_Wipe hB_flash_Wipe sound_flash_Wipe).consC hf_flash_Copy hB_flash_Copy sound_flash_Copy).consC hf_flash_Check hB_flash_Check sound_flash_Check)
theorem log_Format_vc (ws : List Int) (fu : Int) (rec : RK) (K : KK) v0 (hv0 : v0 = (checkFlash (⟨ws, fu⟩ : Flash))) v1 (hv1 : v1 = (wipeCh (1 : Int))) v2 (hv2 : v2 = (doCh (⟨ws, fu⟩ : Flash) v1)) v3 (hv3 : v3 = (wipeCh (0 : Int))) v4 (hv4 : v4 = (doCh (⟨v2.fst.words, v2.fst.fuel⟩ : Flash) v3)) v5 (hv5 : v5 = (burnCh (0 : Int) ((1 : Int) :: []))) v6 (hv6 : v6 = (doCh (⟨v4.fst.words, v4.fst.fuel⟩ : Flash) v5)) : segD Γ_log_Format tab fn_log_Format 0 K rec [.code (bodyOf fn_log_Format)] (initSt [.agg [dL ws, dI fu]] []) = (
 br (!(eqi v0 (0 : Int)))
 (K (.tup [.agg [dL [], dI (0 : Int)], .one (dI v0)]) [])
 (br (lti (((len ws) : Nat) : Int) (64 : Int))
 (K (.tup [.agg [dL [], dI (0 : Int)], .one (dI (4 : Int))]) [])
 ((((len ws) * 8) ≤ 140737488355328) ∧
 ((((-(1 : Int)) ≤ fu) ∧ ((fu ≤ (100000 : Int)) ∧ (((0 : Int) ≤ (1 : Int)) ∧ (((((1 : Int) + (1 : Int)) * (32 : Int)) ≤ (((len ws) : Nat) : Int)) ∧ ((len ws) ≤ 192))))) ∧
 (br (!v2.snd)
 (K (.tup [.agg [dL v2.fst.words, dI v2.fst.fuel], .one (dI (7 : Int))]) [])
 ((((-(1 : Int)) ≤ v2.fst.fuel) ∧ ((v2.fst.fuel ≤ (100000 : Int)) ∧ (((0 : Int) ≤ (0 : Int)) ∧ (((((0 : Int) + (1 : Int)) * (32 : Int)) ≤ (((len v2.fst.words) : Nat) : Int)) ∧ ((len v2.fst.words) ≤ 192))))) ∧
 (br (!v4.snd)
 (K (.tup [.agg [dL v4.fst.words, dI v4.fst.fuel], .one (dI (7 : Int))]) [])
 ((((-(1 : Int)) ≤ v4.fst.fuel) ∧ ((v4.fst.fuel ≤ (100000 : Int)) ∧ (((0 : Int) ≤ (0 : Int)) ∧ ((((0 : Int) + (((len ((1 : Int) :: [])) : Nat) : Int)) ≤ (((len v4.fst.words) : Nat) : Int)) ∧ ((len v4.fst.words) ≤ 192))))) ∧
 (br (!v6.snd)
 (K (.tup [.agg [dL v6.fst.words, dI v6.fst.fuel], .one (dI (7 : Int))]) [])
 (K (.tup [.agg [dL v6.fst.words, dI v6.fst.fuel], .one (dI (0 : Int))]) [])))))))))) := by subst_vars; kernel_rfl
theorem log_Format_w (m : Nat) (K : KK) (st : St) : goD Γ_log_Format tab fn_log_Format 0 K (m + 1) [.code (bodyOf fn_log_Format)] st = segD Γ_log_Format tab fn_log_Format 0 K (goD Γ_log_Format tab fn_log_Format 0 K m) [.code (bodyOf fn_log_Format)] st := rfl

set_option maxHeartbeats 4000000 in
theorem run_log_Format (ws : List Int) (fu : Int) (K : KK) (hK : K (.tup [.agg [dL (formatF ⟨ws, fu⟩).1.words, dI (formatF ⟨ws, fu⟩).1.fuel], .one (dI (formatF ⟨ws, fu⟩).2)]) []) : ∃ m, goD Γ_log_Format tab fn_log_Format 0 K m [.code (bodyOf fn_log_Format)] (initSt [.agg [dL ws, dI fu]] []) := by
  refine ⟨1, ?_⟩
  rw [log_Format_w, log_Format_vc _ _ _ _ _ rfl _ rfl _ rfl _ rfl _ rfl _ rfl _ rfl]
  unfold formatF at hK
  refine ne_s (fun h => ?_) (fun h => ?_)
  · rw [if_neg h] at hK; exact hK
  rw [if_pos h] at hK
  obtain ⟨c1, c2, c3, c4⟩ := checkFlash_ok h
  obtain ⟨c5, c6⟩ := okLen_le c1
  simp only at c2 c3 c5 c6
  refine lt_s (fun h2 => ?_) (fun h2 => ?_)
  · rw [if_neg (by simp only [len] at h2 ⊢; omega)] at hK; exact hK
  rw [if_pos (by simp only [len] at h2 ⊢; omega)] at hK
  unfold formatCh at hK
  rw [doCh_append, doCh_append] at hK
  obtain ⟨f1, f2⟩ := doCh_fuel ⟨ws, fu⟩ (wipeCh 1) c2 c3
  have l1 := doCh_len ⟨ws, fu⟩ (wipeCh 1)
  obtain ⟨g1, g2⟩ := doCh_fuel (doCh ⟨ws, fu⟩ (wipeCh 1)).1 (wipeCh 0) f1 f2
  have l2 := doCh_len (doCh ⟨ws, fu⟩ (wipeCh 1)).1 (wipeCh 0)
  simp only [len] at h2 l1 l2 ⊢
  refine ⟨by omega, ⟨c2, c3, by omega, by omega, by omega⟩, nt_s (fun h3 => ?_) (fun h3 => ⟨⟨f1, f2, by omega, by omega, by omega⟩, nt_s (fun h4 => ?_) (fun h4 => ⟨⟨g1, g2, by omega, ?_, ?_⟩, nt_s (fun h5 => ?_) (fun h5 => ?_)⟩)⟩)⟩
  · rw [if_neg (show ¬ (doCh ⟨ws, fu⟩ (wipeCh 1)).2 = true by simp [h3]), if_neg (by simp [h3])] at hK
    simp only [power, powerE, h3] at hK; exact hK
  · rw [if_pos h3, if_neg (show ¬ (doCh (doCh ⟨ws, fu⟩ (wipeCh 1)).1 (wipeCh 0)).2 = true from by rw [show (doCh (doCh ⟨ws, fu⟩ (wipeCh 1)).1 (wipeCh 0)).2 = false from h4]; simp)] at hK
    simp only [power] at hK
    rw [show (doCh (doCh ⟨ws, fu⟩ (wipeCh 1)).1 (wipeCh 0)).2 = false from h4] at hK
    exact hK
  · show (0 : Int) + _ ≤ ((doCh (doCh ⟨ws, fu⟩ (wipeCh 1)).1 (wipeCh 0)).1.words.length : Int)
    simp only [List.length_cons, List.length_nil]; omega
  · show (doCh (doCh ⟨ws, fu⟩ (wipeCh 1)).1 (wipeCh 0)).1.words.length ≤ _
    omega
  · rw [if_pos h3, if_pos (show (doCh (doCh ⟨ws, fu⟩ (wipeCh 1)).1 (wipeCh 0)).2 = true from h4)] at hK
    simp only [power] at hK
    rw [show (doCh (doCh (doCh ⟨ws, fu⟩ (wipeCh 1)).1 (wipeCh 0)).1 (burnCh 0 [1])).2 = false from h5] at hK
    exact hK
  · rw [if_pos h3, if_pos (show (doCh (doCh ⟨ws, fu⟩ (wipeCh 1)).1 (wipeCh 0)).2 = true from h4)] at hK
    simp only [power] at hK
    rw [show (doCh (doCh (doCh ⟨ws, fu⟩ (wipeCh 1)).1 (wipeCh 0)).1 (burnCh 0 [1])).2 = true from h5] at hK
    exact hK
theorem sound_log_Format : SoundC Tryd.prog tab n_log_Format c_log_Format := soundC_of ok_log_Format hf_log_Format hB_log_Format (by
  intro vs bs p v bs' h hp
  unfold c_log_Format at h
  split at h
  · cases h
    exact ⟨by kernel_rfl, rfl, .inl (run_log_Format _ _ _ ⟨rfl, rfl⟩)⟩
  · cases h)

abbrev n_slices_Clone_Lint_d : Nat := n_slices_Clone_Lint
noncomputable abbrev fn_slices_Clone_Lint_d : Func := fn_slices_Clone_Lint
theorem hf_slices_Clone_Lint_d : Tryd.prog.funcs[n_slices_Clone_Lint_d]? = some fn_slices_Clone_Lint_d := hf_slices_Clone_Lint
theorem hB_slices_Clone_Lint_d : fnB fn_slices_Clone_Lint_d = true := hB_slices_Clone_Lint
def c_slices_Clone_Lint_d : Contract := fun vs bs => match vs, bs with
  | [.one (.dat (.list .int) l)], [] => some (some (len l * 8 ≤ 140737488355328), .one (.dat (.list .int) l), [])
  | _, _ => none
def Γ_slices_Clone_Lint_d : Ctx := []
theorem ok_slices_Clone_Lint_d : Ok Tryd.prog tab Γ_slices_Clone_Lint_d := ok_nil
theorem slices_Clone_Lint_d_vc (l : List Int) (rec : RK) (K : KK) : segD Γ_slices_Clone_Lint_d tab fn_slices_Clone_Lint_d 0 K rec [.code (bodyOf fn_slices_Clone_Lint_d)] (initSt [.one (dL l)] []) = (
 (∀ bn : Bool, (((bn = true) → ((len l) = 0)) → br bn
 (K (.one (dL [])) [])
 ((((0 + (len l)) * 8) ≤ 140737488355328) ∧
 (K (.one (dL (cat [] l))) []))))) := by kernel_rfl
theorem slices_Clone_Lint_d_w (m : Nat) (K : KK) (st : St) : goD Γ_slices_Clone_Lint_d tab fn_slices_Clone_Lint_d 0 K (m + 1) [.code (bodyOf fn_slices_Clone_Lint_d)] st = segD Γ_slices_Clone_Lint_d tab fn_slices_Clone_Lint_d 0 K (goD Γ_slices_Clone_Lint_d tab fn_slices_Clone_Lint_d 0 K m) [.code (bodyOf fn_slices_Clone_Lint_d)] st := rfl

set_option maxHeartbeats 4000000 in
theorem run_slices_Clone_Lint_d (l : List Int) (hp : len l * 8 ≤ 140737488355328) (K : KK) (hK : K (.one (dL l)) []) : ∃ m, goD Γ_slices_Clone_Lint_d tab fn_slices_Clone_Lint_d 0 K m [.code (bodyOf fn_slices_Clone_Lint_d)] (initSt [.one (dL l)] []) := by
  refine ⟨1, ?_⟩
  rw [slices_Clone_Lint_d_w, slices_Clone_Lint_d_vc _ _ _]
  intro bn hb
  refine br_split (fun h => ?_) (fun h => ⟨by simp only [len] at hp ⊢; omega, hK⟩)
  have : l = [] := List.length_eq_zero_iff.1 (hb h)
  subst this
  exact hK
theorem sound_slices_Clone_Lint_d : SoundC Tryd.prog tab n_slices_Clone_Lint_d c_slices_Clone_Lint_d := soundC_of ok_slices_Clone_Lint_d hf_slices_Clone_Lint_d hB_slices_Clone_Lint_d (by
  intro vs bs p v bs' h hp
  unfold c_slices_Clone_Lint_d at h
  split at h
  · cases h
    exact ⟨by kernel_rfl, rfl, .inl (run_slices_Clone_Lint_d _ hp.1 _ ⟨rfl, rfl⟩)⟩
  · cases h)

def c_gate_New : Contract := fun vs bs => match vs, bs with
  | [.agg [.dat .int rv, .dat (.list .int) rk, .dat .int rt], .one (.dat .int units)], [] => some (some (len rk * 8 ≤ 140737488355328), .tup [.agg [.dat (.list .int) (newG ⟨rv, rk, rt⟩ units).1.f.words, .dat .int (newG ⟨rv, rk, rt⟩ units).1.f.fuel, .dat .bool (newG ⟨rv, rk, rt⟩ units).1.up, .dat .int (newG ⟨rv, rk, rt⟩ units).1.t.r.version, .dat (.list .int) (newG ⟨rv, rk, rt⟩ units).1.t.r.keys, .dat .int (newG ⟨rv, rk, rt⟩ units).1.t.r.thr, .dat .int (newG ⟨rv, rk, rt⟩ units).1.t.version, .dat (.list .bool) (newG ⟨rv, rk, rt⟩ units).1.voted, .dat (.list .bool) (newG ⟨rv, rk, rt⟩ units).1.did], .one (.dat .int (newG ⟨rv, rk, rt⟩ units).2)], [])
  | _, _ => none
def Γ_gate_New : Ctx := [(n_flash_New, c_flash_New), (n_log_Format, c_log_Format), (n_slices_Clone_Lint_d, c_slices_Clone_Lint_d), (n_gate_Check, c_gate_Check)]
theorem ok_gate_New : Ok Tryd.prog tab Γ_gate_New := ((((ok_nil.consC hf_gate_Check hB_gate_Check sound_gate_Check).consC hf_slices_Clone_Lint_d hB_slices_Clone_Lint_d sound_slices_Clone_Lint_d).consC hf_log_Format hB_log_Format sound_log_Format).consC hf_flash_New hB_flash_New sound_flash_New)
theorem gate_New_vc (rv : Int) (rk : List Int) (rt : Int) (units : Int) (rec : RK) (K : KK) v0 (hv0 : v0 = (applyCh (zeros (Int.toNat ((2 : Int) * (32 : Int))) (65535 : Int)) formatCh)) v1 (hv1 : v1 = (checkG ⟨⟨v0, (-(1 : Int))⟩, true, ⟨⟨rv, rk, rt⟩, (0 : Int)⟩, (zeros (Int.toNat units) (Ty.dflt Ty.bool)), (zeros (Int.toNat units) (Ty.dflt Ty.bool))⟩)) v2 (hv2 : v2 = (K (.tup [.agg [dL [], dI (0 : Int), dB false, dI (0 : Int), dL [], dI (0 : Int), dI (0 : Int), dLb [], dLb []], .one (dI (3 : Int))]) [])) : segD Γ_gate_New tab fn_gate_New 0 K rec [.code (bodyOf fn_gate_New)] (initSt [.agg [dI rv, dL rk, dI rt], .one (dI units)] []) = (
 br (lti units (1 : Int))
 v2
 (br (lti (4 : Int) units)
 v2
 ((((len rk) * 8) ≤ 140737488355328) ∧
 ((((0 : Int) ≤ units) ∧ (((units * ((1 : Nat) : Int)) ≤ (140737488355328 : Int)) ∧ (units ≤ (140737488355328 : Int)))) ∧
 ((((0 : Int) ≤ units) ∧ (((units * ((1 : Nat) : Int)) ≤ (140737488355328 : Int)) ∧ (units ≤ (140737488355328 : Int)))) ∧
 (br (!(eqi v1 (0 : Int)))
 (K (.tup [.agg [dL [], dI (0 : Int), dB false, dI (0 : Int), dL [], dI (0 : Int), dI (0 : Int), dLb [], dLb []], .one (dI v1)]) [])
 (K (.tup [.agg [dL v0, dI (-(1 : Int)), dB true, dI rv, dL rk, dI rt, dI (0 : Int), dLb (zeros (Int.toNat units) (Ty.dflt Ty.bool)), dLb (zeros (Int.toNat units) (Ty.dflt Ty.bool))], .one (dI (0 : Int))]) []))))))) := by subst_vars; kernel_rfl
theorem gate_New_w (m : Nat) (K : KK) (st : St) : goD Γ_gate_New tab fn_gate_New 0 K (m + 1) [.code (bodyOf fn_gate_New)] st = segD Γ_gate_New tab fn_gate_New 0 K (goD Γ_gate_New tab fn_gate_New 0 K m) [.code (bodyOf fn_gate_New)] st := rfl

set_option maxHeartbeats 4000000 in
theorem run_gate_New (rv : Int) (rk : List Int) (rt units : Int) (hp : len rk * 8 ≤ 140737488355328) (K : KK) (hK : K (.tup [.agg [dL (newG ⟨rv, rk, rt⟩ units).1.f.words, dI (newG ⟨rv, rk, rt⟩ units).1.f.fuel, dB (newG ⟨rv, rk, rt⟩ units).1.up, dI (newG ⟨rv, rk, rt⟩ units).1.t.r.version, dL (newG ⟨rv, rk, rt⟩ units).1.t.r.keys, dI (newG ⟨rv, rk, rt⟩ units).1.t.r.thr, dI (newG ⟨rv, rk, rt⟩ units).1.t.version, dLb (newG ⟨rv, rk, rt⟩ units).1.voted, dLb (newG ⟨rv, rk, rt⟩ units).1.did], .one (dI (newG ⟨rv, rk, rt⟩ units).2)]) []) : ∃ m, goD Γ_gate_New tab fn_gate_New 0 K m [.code (bodyOf fn_gate_New)] (initSt [.agg [dI rv, dL rk, dI rt], .one (dI units)] []) := by
  refine ⟨1, ?_⟩
  rw [gate_New_w, gate_New_vc _ _ _ _ _ _ _ rfl _ rfl _ rfl]
  have e0 : (formatF (newFlash 2).1).1 = ⟨applyCh (zeros (Int.toNat ((2 : Int) * (32 : Int))) (65535 : Int)) formatCh, -1⟩ := by kernel_rfl
  unfold newG madeG at hK
  rw [e0] at hK
  by_cases c : units < 1 ∨ 4 < units
  · rw [if_pos c] at hK
    exact lt_s (fun _ => hK) (fun _ => lt_t (by omega) hK)
  rw [if_neg c] at hK
  refine lt_f (by omega) (lt_f (by omega) ⟨hp, ⟨by omega, by omega, by omega⟩, ⟨by omega, by omega, by omega⟩, ne_s (fun h => ?_) (fun h => ?_)⟩)
  · rw [if_neg (by exact h)] at hK; exact hK
  · rw [if_pos (by exact h)] at hK; exact hK
theorem sound_gate_New : SoundC Tryd.prog tab n_gate_New c_gate_New := soundC_of ok_gate_New hf_gate_New hB_gate_New (by
  intro vs bs p v bs' h hp
  unfold c_gate_New at h
  split at h
  · cases h
    exact ⟨by kernel_rfl, rfl, .inl (run_gate_New _ _ _ _ hp.1 _ ⟨rfl, rfl⟩)⟩
  · cases h)

def c_gate_up : Contract := fun vs bs => match vs, bs with
  | [.agg [.dat (.list .int) ws, .dat .int fu, .dat .bool up, .dat .int tv, .dat (.list .int) tk, .dat .int tt, .dat .int tn, .dat (.list .bool) vo, .dat (.list .bool) di]], [] => some (none, .one (.dat .int (upG ⟨⟨ws, fu⟩, up, ⟨⟨tv, tk, tt⟩, tn⟩, vo, di⟩)), [])
  | _, _ => none
def Γ_gate_up : Ctx := [(n_gate_Check, c_gate_Check)]
theorem ok_gate_up : Ok Tryd.prog tab Γ_gate_up := (ok_nil.consC hf_gate_Check hB_gate_Check sound_gate_Check)
theorem gate_up_vc (ws : List Int) (fu : Int) (up : Bool) (tv : Int) (tk : List Int) (tt : Int) (tn : Int) (vo : List Bool) (di : List Bool) (rec : RK) (K : KK) v0 (hv0 : v0 = (checkG ⟨⟨ws, fu⟩, up, ⟨⟨tv, tk, tt⟩, tn⟩, vo, di⟩)) : segD Γ_gate_up tab fn_gate_up 0 K rec [.code (bodyOf fn_gate_up)] (initSt [.agg [dL ws, dI fu, dB up, dI tv, dL tk, dI tt, dI tn, dLb vo, dLb di]] []) = (
 br (!(eqi v0 (0 : Int)))
 (K (.one (dI v0)) [])
 (br (!up)
 (K (.one (dI (7 : Int))) [])
 (K (.one (dI (0 : Int))) []))) := by subst_vars; kernel_rfl
theorem gate_up_w (m : Nat) (K : KK) (st : St) : goD Γ_gate_up tab fn_gate_up 0 K (m + 1) [.code (bodyOf fn_gate_up)] st = segD Γ_gate_up tab fn_gate_up 0 K (goD Γ_gate_up tab fn_gate_up 0 K m) [.code (bodyOf fn_gate_up)] st := rfl

set_option maxHeartbeats 4000000 in
theorem run_gate_up (ws : List Int) (fu : Int) (up : Bool) (tv : Int) (tk : List Int) (tt tn : Int) (vo di : List Bool) (K : KK) (hK : K (.one (dI (upG ⟨⟨ws, fu⟩, up, ⟨⟨tv, tk, tt⟩, tn⟩, vo, di⟩))) []) : ∃ m, goD Γ_gate_up tab fn_gate_up 0 K m [.code (bodyOf fn_gate_up)] (initSt [.agg [dL ws, dI fu, dB up, dI tv, dL tk, dI tt, dI tn, dLb vo, dLb di]] []) := by
  refine ⟨1, ?_⟩
  rw [gate_up_w, gate_up_vc _ _ _ _ _ _ _ _ _ _ _ _ rfl]
  unfold upG at hK
  refine ne_s (fun h => ?_) (fun h => ?_)
  · rw [if_neg h] at hK; exact hK
  · rw [if_pos h] at hK
    cases up
    · exact nt_t rfl hK
    · exact nt_f rfl hK
theorem sound_gate_up : SoundC Tryd.prog tab n_gate_up c_gate_up := soundC_of ok_gate_up hf_gate_up hB_gate_up (by
  intro vs bs p v bs' h hp
  unfold c_gate_up at h
  split at h
  · cases h
    exact ⟨by kernel_rfl, rfl, .inl (run_gate_up _ _ _ _ _ _ _ _ _ _ ⟨rfl, rfl⟩)⟩
  · cases h)

def c_meta_list : Contract := fun vs bs => match vs, bs with
  | [.one (.dat (.list .int) l)], [] => some (some (len l ≤ 1000 ∧ nums l = true), .one (.dat .str (listT l)), [])
  | _, _ => none
def Γ_meta_list : Ctx := [(n_strconv_Itoa, c_strconv_Itoa), (n_strings_Join, c_strings_Join)]
theorem ok_meta_list : Ok Tryd.prog tab Γ_meta_list := ((ok_nil.consC hf_strings_Join hB_strings_Join sound_strings_Join).consC hf_strconv_Itoa hB_strconv_Itoa sound_strconv_Itoa)
noncomputable def meta_list_L0 : List It := [.inLoop [8, 7, 6, 3, 2] (Code.sub (bodyOf fn_meta_list) [1, 1, 0, 1, 0, 0]), .inBlock 0, .code (Code.sub (bodyOf fn_meta_list) [1, 1, 1])]
def meta_list_S0 (x0 : Int) (x1 : Int) (x2 : (List Int)) (x3 : (List UInt8)) (x4 : (List (List UInt8))) : St := ⟨[(8, .one (dI x0)), (7, .one (dI x1)), (6, .one (dL x2)), (3, .one (.own 0)), (2, .one (.dat Ty.str x3))], [(0, .arr Ty.str x4)], 1⟩
theorem meta_list_vc (l : List Int) (rec : RK) (K : KK) : segD Γ_meta_list tab fn_meta_list 0 K rec [.code (bodyOf fn_meta_list)] (initSt [.one (dL l)] []) = (
 rec meta_list_L0 (meta_list_S0 (0 : Int) (((len l) : Nat) : Int) l [] [])) := by kernel_rfl
theorem meta_list_w (m : Nat) (K : KK) (st : St) : goD Γ_meta_list tab fn_meta_list 0 K (m + 1) [.code (bodyOf fn_meta_list)] st = segD Γ_meta_list tab fn_meta_list 0 K (goD Γ_meta_list tab fn_meta_list 0 K m) [.code (bodyOf fn_meta_list)] st := rfl
theorem meta_list_vc0 (x0 : Int) (x1 : Int) (x2 : (List Int)) (x3 : (List UInt8)) (x4 : (List (List UInt8))) (rec : RK) (K : KK) v0 (hv0 : v0 = (numT (nth x2 (Int.toNat x0) (Ty.dflt Ty.int)))) v1 (hv1 : v1 = (joinT ((32 : UInt8) :: []) x4)) : segD Γ_meta_list tab fn_meta_list 0 K rec (.code (Code.sub (bodyOf fn_meta_list) [1, 1, 0, 1, 0, 0]) :: meta_list_L0) (meta_list_S0 x0 x1 x2 x3 x4) = (
 br (lti x0 x1)
 ((((0 : Int) ≤ x0) ∧ (x0 < (((len x2) : Nat) : Int))) ∧
 ((((0 : Int) ≤ (nth x2 (Int.toNat x0) (Ty.dflt Ty.int))) ∧ ((nth x2 (Int.toNat x0) (Ty.dflt Ty.int)) ≤ (9223372036854775807 : Int))) ∧
 (((((len x4) + (len (v0 :: []))) * 16) ≤ 140737488355328) ∧
 (rec meta_list_L0 (meta_list_S0 (w64 (x0 + (1 : Int))) x1 x2 x3 (cat x4 (v0 :: [])))))))
 ((((List.length x4) ≤ 140737488355328) ∧ ((List.length v1) ≤ 140737488355328)) ∧
 (K (.one (.dat Ty.str v1)) []))) := by subst_vars; kernel_rfl
theorem meta_list_w0 (m : Nat) (K : KK) (st : St) : goD Γ_meta_list tab fn_meta_list 0 K (m + 1) meta_list_L0 st = segD Γ_meta_list tab fn_meta_list 0 K (goD Γ_meta_list tab fn_meta_list 0 K m) (.code (Code.sub (bodyOf fn_meta_list) [1, 1, 0, 1, 0, 0]) :: meta_list_L0) st := rfl

theorem loop_meta_list (l : List Int) (hl : l.length ≤ 1000) (hn : nums l = true) (K : KK) (hK : K (.one (.dat .str (listT l))) []) (y : List UInt8) : ∀ (d k : Nat), k + d = l.length →
    goD Γ_meta_list tab fn_meta_list 0 K (d + 1) meta_list_L0 (meta_list_S0 (k : Int) (((len l) : Nat) : Int) l y ((l.take k).map numT))
  | 0, k, hk => by
    rw [meta_list_w0, meta_list_vc0 _ _ _ _ _ _ _ _ rfl _ rfl, List.take_of_length_le (by omega)]
    have h1 := listT_len l
    unfold listT at h1
    exact lt_f (by simp only [len]; omega) ⟨⟨by rw [List.length_map]; omega, by omega⟩, hK⟩
  | d + 1, k, hk => by
    rw [meta_list_w0, meta_list_vc0 _ _ _ _ _ _ _ _ rfl _ rfl, toNat_nat]
    have hm : nth l k (Ty.dflt Ty.int) ∈ l := by
      have : k < l.length := by omega
      simp [nth, List.getD_eq_getElem?_getD, this]
    have h1 := List.all_eq_true.1 hn _ hm
    simp only [Bool.and_eq_true, decide_eq_true_eq] at h1
    refine lt_t (by simp only [len]; omega) ⟨⟨by omega, by simp only [len]; omega⟩, h1, by simp only [len, List.length_map, List.length_take, List.length_cons, List.length_nil]; omega, ?_⟩
    rw [w64_succ (by omega), show cat ((l.take k).map numT) [numT (nth l k (Ty.dflt Ty.int))] = (l.take (k + 1)).map numT from by rw [take_step (by omega) (Ty.dflt Ty.int)]; simp [cat]]
    exact loop_meta_list l hl hn K hK y d (k + 1) (by omega)
set_option maxHeartbeats 4000000 in
theorem run_meta_list (l : List Int) (hp : len l ≤ 1000 ∧ nums l = true) (K : KK) (hK : K (.one (.dat .str (listT l))) []) : ∃ m, goD Γ_meta_list tab fn_meta_list 0 K m [.code (bodyOf fn_meta_list)] (initSt [.one (dL l)] []) := by
  refine ⟨l.length + 2, ?_⟩
  rw [meta_list_w, meta_list_vc _ _ _]
  exact loop_meta_list l hp.1 hp.2 K hK [] l.length 0 (by omega)
theorem sound_meta_list : SoundC Tryd.prog tab n_meta_list c_meta_list := soundC_of ok_meta_list hf_meta_list hB_meta_list (by
  intro vs bs p v bs' h hp
  unfold c_meta_list at h
  split at h
  · cases h
    exact ⟨by kernel_rfl, rfl, .inl (run_meta_list _ hp.1 _ ⟨rfl, rfl⟩)⟩
  · cases h)

def c_meta_RootText : Contract := fun vs bs => match vs, bs with
  | [.agg [.dat .int v, .dat (.list .int) ks, .dat .int t]], [] => some (none, .tup [.one (.dat .str (rootTextE v ks t).1), .one (.dat .int (rootTextE v ks t).2)], [])
  | _, _ => none
def Γ_meta_RootText : Ctx := [(n_meta_CheckRoot, c_meta_CheckRoot), (n_strconv_Itoa, c_strconv_Itoa), (n_meta_list, c_meta_list)]
theorem ok_meta_RootText : Ok Tryd.prog tab Γ_meta_RootText := (((ok_nil.consC hf_meta_list hB_meta_list sound_meta_list).consC hf_strconv_Itoa hB_strconv_Itoa sound_strconv_Itoa).consC hf_meta_CheckRoot hB_meta_CheckRoot sound_meta_CheckRoot)
theorem meta_RootText_vc (v : Int) (ks : List Int) (t : Int) (rec : RK) (K : KK) v0 (hv0 : v0 = (checkRoot v ks t)) v1 (hv1 : v1 = (numT v)) v2 (hv2 : v2 = (numT t)) v3 (hv3 : v3 = (nums ks)) v4 (hv4 : v4 = (listT ks)) : segD Γ_meta_RootText tab fn_meta_RootText 0 K rec [.code (bodyOf fn_meta_RootText)] (initSt [.agg [dI v, dL ks, dI t]] []) = (
 br (!(eqi v0 (0 : Int)))
 (K (.tup [.one (.dat Ty.str []), .one (dI v0)]) [])
 ((((0 : Int) ≤ v) ∧ (v ≤ (9223372036854775807 : Int))) ∧
 ((((len ((114 : UInt8) :: ((111 : UInt8) :: ((111 : UInt8) :: ((116 : UInt8) :: ((32 : UInt8) :: [])))))) + (len v1)) ≤ 140737488355328) ∧
 ((((len (cat ((114 : UInt8) :: ((111 : UInt8) :: ((111 : UInt8) :: ((116 : UInt8) :: ((32 : UInt8) :: []))))) v1)) + (len ((32 : UInt8) :: []))) ≤ 140737488355328) ∧
 ((((0 : Int) ≤ t) ∧ (t ≤ (9223372036854775807 : Int))) ∧
 ((((len (cat (cat ((114 : UInt8) :: ((111 : UInt8) :: ((111 : UInt8) :: ((116 : UInt8) :: ((32 : UInt8) :: []))))) v1) ((32 : UInt8) :: []))) + (len v2)) ≤ 140737488355328) ∧
 ((((len (cat (cat (cat ((114 : UInt8) :: ((111 : UInt8) :: ((111 : UInt8) :: ((116 : UInt8) :: ((32 : UInt8) :: []))))) v1) ((32 : UInt8) :: [])) v2)) + (len ((32 : UInt8) :: ((111 : UInt8) :: ((102 : UInt8) :: ((32 : UInt8) :: [])))))) ≤ 140737488355328) ∧
 ((((len ks) ≤ 1000) ∧ (v3 = true)) ∧
 ((((len (cat (cat (cat (cat ((114 : UInt8) :: ((111 : UInt8) :: ((111 : UInt8) :: ((116 : UInt8) :: ((32 : UInt8) :: []))))) v1) ((32 : UInt8) :: [])) v2) ((32 : UInt8) :: ((111 : UInt8) :: ((102 : UInt8) :: ((32 : UInt8) :: [])))))) + (len v4)) ≤ 140737488355328) ∧
 (K (.tup [.one (.dat Ty.str (cat (cat (cat (cat (cat ((114 : UInt8) :: ((111 : UInt8) :: ((111 : UInt8) :: ((116 : UInt8) :: ((32 : UInt8) :: []))))) v1) ((32 : UInt8) :: [])) v2) ((32 : UInt8) :: ((111 : UInt8) :: ((102 : UInt8) :: ((32 : UInt8) :: []))))) v4)), .one (dI (0 : Int))]) [])))))))))) := by subst_vars; kernel_rfl
theorem meta_RootText_w (m : Nat) (K : KK) (st : St) : goD Γ_meta_RootText tab fn_meta_RootText 0 K (m + 1) [.code (bodyOf fn_meta_RootText)] st = segD Γ_meta_RootText tab fn_meta_RootText 0 K (goD Γ_meta_RootText tab fn_meta_RootText 0 K m) [.code (bodyOf fn_meta_RootText)] st := rfl

set_option maxHeartbeats 4000000 in
theorem run_meta_RootText (v : Int) (ks : List Int) (t : Int) (K : KK) (hK : K (.tup [.one (.dat .str (rootTextE v ks t).1), .one (dI (rootTextE v ks t).2)]) []) : ∃ m, goD Γ_meta_RootText tab fn_meta_RootText 0 K m [.code (bodyOf fn_meta_RootText)] (initSt [.agg [dI v, dL ks, dI t]] []) := by
  refine ⟨1, ?_⟩
  rw [meta_RootText_w, meta_RootText_vc _ _ _ _ _ _ rfl _ rfl _ rfl _ rfl _ rfl]
  unfold rootTextE at hK
  refine ne_s (fun h => ?_) (fun h => ?_)
  · rw [if_neg h] at hK; exact hK
  rw [if_pos h] at hK
  obtain ⟨h1, h2, h3, h4, h5, h6⟩ := checkRoot_ok h
  have n1 := numT_len v
  have n2 := numT_len t
  have n3 := listT_len ks
  refine ⟨by omega, by simp only [len, List.length_cons, List.length_nil]; omega, by simp only [len, cat, List.length_append, List.length_cons, List.length_nil]; omega, by omega, by simp only [len, cat, List.length_append, List.length_cons, List.length_nil]; omega, by simp only [len, cat, List.length_append, List.length_cons, List.length_nil]; omega, ⟨by simp only [len]; omega, h6⟩, by simp only [len, cat, List.length_append, List.length_cons, List.length_nil]; omega, hK⟩
theorem sound_meta_RootText : SoundC Tryd.prog tab n_meta_RootText c_meta_RootText := soundC_of ok_meta_RootText hf_meta_RootText hB_meta_RootText (by
  intro vs bs p v bs' h hp
  unfold c_meta_RootText at h
  split at h
  · cases h
    exact ⟨by kernel_rfl, rfl, .inl (run_meta_RootText _ _ _ _ ⟨rfl, rfl⟩)⟩
  · cases h)

def c_slices_Index_Lstring : Contract := fun vs bs => match vs, bs with
  | [.one (.dat (.list .str) l), .one (.dat .str s)], [] => some (some (l.length ≤ 140737488355328), .one (.dat .int (indexS s l)), [])
  | _, _ => none
def Γ_slices_Index_Lstring : Ctx := []
theorem ok_slices_Index_Lstring : Ok Tryd.prog tab Γ_slices_Index_Lstring := ok_nil
noncomputable def slices_Index_Lstring_L0 : List It := [.inLoop [8, 7, 4, 0, 1] (Code.sub (bodyOf fn_slices_Index_Lstring) [1, 0, 1, 0, 0]), .inBlock 0, .code (Code.sub (bodyOf fn_slices_Index_Lstring) [1, 1])]
def slices_Index_Lstring_S0 (x0 : Int) (x1 : Int) (x2 : Int) (x3 : (List (List UInt8))) (x4 : (List UInt8)) : St := ⟨[(8, .one (dI x0)), (7, .one (dI x1)), (4, .one (dI x2)), (0, .one (.dat (Ty.list Ty.str) x3)), (1, .one (.dat Ty.str x4))], [], 0⟩
theorem slices_Index_Lstring_vc (l : List (List UInt8)) (s : List UInt8) (rec : RK) (K : KK) : segD Γ_slices_Index_Lstring tab fn_slices_Index_Lstring 0 K rec [.code (bodyOf fn_slices_Index_Lstring)] (initSt [.one (.dat (Ty.list Ty.str) l), .one (.dat Ty.str s)] []) = (
 rec slices_Index_Lstring_L0 (slices_Index_Lstring_S0 (0 : Int) (((len l) : Nat) : Int) (0 : Int) l s)) := by kernel_rfl
theorem slices_Index_Lstring_w (m : Nat) (K : KK) (st : St) : goD Γ_slices_Index_Lstring tab fn_slices_Index_Lstring 0 K (m + 1) [.code (bodyOf fn_slices_Index_Lstring)] st = segD Γ_slices_Index_Lstring tab fn_slices_Index_Lstring 0 K (goD Γ_slices_Index_Lstring tab fn_slices_Index_Lstring 0 K m) [.code (bodyOf fn_slices_Index_Lstring)] st := rfl
theorem slices_Index_Lstring_vc0 (x0 : Int) (x1 : Int) (x2 : Int) (x3 : (List (List UInt8))) (x4 : (List UInt8)) (rec : RK) (K : KK) : segD Γ_slices_Index_Lstring tab fn_slices_Index_Lstring 0 K rec (.code (Code.sub (bodyOf fn_slices_Index_Lstring) [1, 0, 1, 0, 0]) :: slices_Index_Lstring_L0) (slices_Index_Lstring_S0 x0 x1 x2 x3 x4) = (
 br (lti x0 x1)
 ((((0 : Int) ≤ x0) ∧ (x0 < (((len x3) : Nat) : Int))) ∧
 (br (eqs x4 (nth x3 (Int.toNat x0) (Ty.dflt Ty.str)))
 (K (.one (dI x0)) [])
 (rec slices_Index_Lstring_L0 (slices_Index_Lstring_S0 (w64 (x0 + (1 : Int))) x1 x2 x3 x4))))
 (K (.one (dI (-(1 : Int)))) [])) := by kernel_rfl
theorem slices_Index_Lstring_w0 (m : Nat) (K : KK) (st : St) : goD Γ_slices_Index_Lstring tab fn_slices_Index_Lstring 0 K (m + 1) slices_Index_Lstring_L0 st = segD Γ_slices_Index_Lstring tab fn_slices_Index_Lstring 0 K (goD Γ_slices_Index_Lstring tab fn_slices_Index_Lstring 0 K m) (.code (Code.sub (bodyOf fn_slices_Index_Lstring) [1, 0, 1, 0, 0]) :: slices_Index_Lstring_L0) st := rfl

theorem loop_slices_Index_Lstring (l : List (List UInt8)) (s : List UInt8) (hl : l.length ≤ 140737488355328) (K : KK) : ∀ (d k : Nat), k + d = l.length → K (.one (dI (indexFrom k s (l.drop k)))) [] →
    goD Γ_slices_Index_Lstring tab fn_slices_Index_Lstring 0 K (d + 1) slices_Index_Lstring_L0 (slices_Index_Lstring_S0 (k : Int) (((len l) : Nat) : Int) 0 l s)
  | 0, k, hk, hK => by
    rw [slices_Index_Lstring_w0, slices_Index_Lstring_vc0 _ _ _ _ _ _ _]
    rw [List.drop_of_length_le (by omega)] at hK
    exact lt_f (by simp only [len]; omega) hK
  | d + 1, k, hk, hK => by
    rw [slices_Index_Lstring_w0, slices_Index_Lstring_vc0 _ _ _ _ _ _ _, toNat_nat]
    rw [drop_step (by omega) (Ty.dflt Ty.str)] at hK
    simp only [indexFrom] at hK
    refine lt_t (by simp only [len]; omega) ⟨⟨by omega, by simp only [len]; omega⟩, br_split (fun h => ?_) (fun h => ?_)⟩
    · rw [eqs_true] at h
      rw [if_pos h.symm] at hK; exact hK
    · rw [eqs_false] at h
      rw [if_neg (fun e => h e.symm)] at hK
      rw [w64_succ (by omega)]
      exact loop_slices_Index_Lstring l s hl K d (k + 1) (by omega) hK
set_option maxHeartbeats 4000000 in
theorem run_slices_Index_Lstring (l : List (List UInt8)) (s : List UInt8) (hp : l.length ≤ 140737488355328) (K : KK) (hK : K (.one (dI (indexS s l))) []) : ∃ m, goD Γ_slices_Index_Lstring tab fn_slices_Index_Lstring 0 K m [.code (bodyOf fn_slices_Index_Lstring)] (initSt [.one (.dat (.list .str) l), .one (.dat .str s)] []) := by
  refine ⟨l.length + 2, ?_⟩
  rw [slices_Index_Lstring_w, slices_Index_Lstring_vc _ _ _ _]
  exact loop_slices_Index_Lstring l s hp K l.length 0 (by omega) hK
theorem sound_slices_Index_Lstring : SoundC Tryd.prog tab n_slices_Index_Lstring c_slices_Index_Lstring := soundC_of ok_slices_Index_Lstring hf_slices_Index_Lstring hB_slices_Index_Lstring (by
  intro vs bs p v bs' h hp
  unfold c_slices_Index_Lstring at h
  split at h
  · cases h
    exact ⟨by kernel_rfl, rfl, .inl (run_slices_Index_Lstring _ _ hp.1 _ ⟨rfl, rfl⟩)⟩
  · cases h)

def c_slices_Contains_Lstring : Contract := fun vs bs => match vs, bs with
  | [.one (.dat (.list .str) l), .one (.dat .str s)], [] => some (some (l.length ≤ 140737488355328), .one (.dat .bool (hasS s l)), [])
  | _, _ => none
def Γ_slices_Contains_Lstring : Ctx := [(n_slices_Index_Lstring, c_slices_Index_Lstring)]
theorem ok_slices_Contains_Lstring : Ok Tryd.prog tab Γ_slices_Contains_Lstring := (ok_nil.consC hf_slices_Index_Lstring hB_slices_Index_Lstring sound_slices_Index_Lstring)
theorem slices_Contains_Lstring_vc (l : List (List UInt8)) (s : List UInt8) (rec : RK) (K : KK) v0 (hv0 : v0 = (indexS s l)) : segD Γ_slices_Contains_Lstring tab fn_slices_Contains_Lstring 0 K rec [.code (bodyOf fn_slices_Contains_Lstring)] (initSt [.one (.dat (Ty.list Ty.str) l), .one (.dat Ty.str s)] []) = (
 ((List.length l) ≤ 140737488355328) ∧
 (K (.one (dB (lei (0 : Int) v0))) [])) := by subst_vars; kernel_rfl
theorem slices_Contains_Lstring_w (m : Nat) (K : KK) (st : St) : goD Γ_slices_Contains_Lstring tab fn_slices_Contains_Lstring 0 K (m + 1) [.code (bodyOf fn_slices_Contains_Lstring)] st = segD Γ_slices_Contains_Lstring tab fn_slices_Contains_Lstring 0 K (goD Γ_slices_Contains_Lstring tab fn_slices_Contains_Lstring 0 K m) [.code (bodyOf fn_slices_Contains_Lstring)] st := rfl

set_option maxHeartbeats 4000000 in
theorem run_slices_Contains_Lstring (l : List (List UInt8)) (s : List UInt8) (hp : l.length ≤ 140737488355328) (K : KK) (hK : K (.one (dB (hasS s l))) []) : ∃ m, goD Γ_slices_Contains_Lstring tab fn_slices_Contains_Lstring 0 K m [.code (bodyOf fn_slices_Contains_Lstring)] (initSt [.one (.dat (.list .str) l), .one (.dat .str s)] []) := by
  refine ⟨1, ?_⟩
  rw [slices_Contains_Lstring_w, slices_Contains_Lstring_vc _ _ _ _ _ rfl]
  rw [show lei 0 (indexS s l) = hasS s l from indexS_has s l]
  exact ⟨hp, hK⟩
theorem sound_slices_Contains_Lstring : SoundC Tryd.prog tab n_slices_Contains_Lstring c_slices_Contains_Lstring := soundC_of ok_slices_Contains_Lstring hf_slices_Contains_Lstring hB_slices_Contains_Lstring (by
  intro vs bs p v bs' h hp
  unfold c_slices_Contains_Lstring at h
  split at h
  · cases h
    exact ⟨by kernel_rfl, rfl, .inl (run_slices_Contains_Lstring _ _ hp.1 _ ⟨rfl, rfl⟩)⟩
  · cases h)

def c_meta_CheckBook : Contract := fun vs bs => match vs, bs with
  | [.agg [.dat (.list .str) l]], [] => some (none, .one (.dat .int (checkBook l)), [])
  | _, _ => none
def Γ_meta_CheckBook : Ctx := [(n_slices_Contains_Lstring, c_slices_Contains_Lstring)]
theorem ok_meta_CheckBook : Ok Tryd.prog tab Γ_meta_CheckBook := (ok_nil.consC hf_slices_Contains_Lstring hB_slices_Contains_Lstring sound_slices_Contains_Lstring)
noncomputable def meta_CheckBook_L0 : List It := [.inLoop [12, 11, 10, 2, 1] (Code.sub (bodyOf fn_meta_CheckBook) [1, 1, 0, 1, 0, 0]), .inBlock 0, .code (Code.sub (bodyOf fn_meta_CheckBook) [1, 1, 1])]
def meta_CheckBook_S0 (x0 : Int) (x1 : Int) (x2 : (List (List UInt8))) (x3 : Int) (x4 : (List (List UInt8))) : St := ⟨[(12, .one (dI x0)), (11, .one (dI x1)), (10, .one (.dat (Ty.list Ty.str) x2)), (2, .one (dI x3)), (1, .one (.ptr 0 0))], [(0, .box [.dat (Ty.list Ty.str) x4])], 1⟩
theorem meta_CheckBook_vc (l : List (List UInt8)) (rec : RK) (K : KK) : segD Γ_meta_CheckBook tab fn_meta_CheckBook 0 K rec [.code (bodyOf fn_meta_CheckBook)] (initSt [.agg [.dat (Ty.list Ty.str) l]] []) = (
 br (lti (60 : Int) (((len l) : Nat) : Int))
 (K (.one (dI (2 : Int))) [])
 (rec meta_CheckBook_L0 (meta_CheckBook_S0 (0 : Int) (((len l) : Nat) : Int) l (0 : Int) l))) := by kernel_rfl
theorem meta_CheckBook_w (m : Nat) (K : KK) (st : St) : goD Γ_meta_CheckBook tab fn_meta_CheckBook 0 K (m + 1) [.code (bodyOf fn_meta_CheckBook)] st = segD Γ_meta_CheckBook tab fn_meta_CheckBook 0 K (goD Γ_meta_CheckBook tab fn_meta_CheckBook 0 K m) [.code (bodyOf fn_meta_CheckBook)] st := rfl
theorem meta_CheckBook_vc0 (x0 : Int) (x1 : Int) (x2 : (List (List UInt8))) (x3 : Int) (x4 : (List (List UInt8))) (rec : RK) (K : KK) v0 (hv0 : v0 = (hasS (nth x2 (Int.toNat x0) (Ty.dflt Ty.str)) (slc x4 (Int.toNat (0 : Int)) (Int.toNat x0)))) : segD Γ_meta_CheckBook tab fn_meta_CheckBook 0 K rec (.code (Code.sub (bodyOf fn_meta_CheckBook) [1, 1, 0, 1, 0, 0]) :: meta_CheckBook_L0) (meta_CheckBook_S0 x0 x1 x2 x3 x4) = (
 br (lti x0 x1)
 ((((0 : Int) ≤ x0) ∧ (x0 < (((len x2) : Nat) : Int))) ∧
 (br (lti (2000 : Int) (((len (nth x2 (Int.toNat x0) (Ty.dflt Ty.str))) : Nat) : Int))
 (K (.one (dI (2 : Int))) [])
 ((((0 : Int) ≤ (0 : Int)) ∧ (((0 : Int) ≤ x0) ∧ (x0 ≤ (((len x4) : Nat) : Int)))) ∧
 (((List.length (slc x4 (Int.toNat (0 : Int)) (Int.toNat x0))) ≤ 140737488355328) ∧
 (br v0
 (K (.one (dI (6 : Int))) [])
 (rec meta_CheckBook_L0 (meta_CheckBook_S0 (w64 (x0 + (1 : Int))) x1 x2 x3 x4)))))))
 (K (.one (dI (0 : Int))) [])) := by subst_vars; kernel_rfl
theorem meta_CheckBook_w0 (m : Nat) (K : KK) (st : St) : goD Γ_meta_CheckBook tab fn_meta_CheckBook 0 K (m + 1) meta_CheckBook_L0 st = segD Γ_meta_CheckBook tab fn_meta_CheckBook 0 K (goD Γ_meta_CheckBook tab fn_meta_CheckBook 0 K m) (.code (Code.sub (bodyOf fn_meta_CheckBook) [1, 1, 0, 1, 0, 0]) :: meta_CheckBook_L0) st := rfl

theorem loop_meta_CheckBook (l : List (List UInt8)) (hl : l.length ≤ 60) (K : KK) : ∀ (d k : Nat), k + d = l.length → K (.one (dI (bookFrom (l.take k) (l.drop k)))) [] →
    goD Γ_meta_CheckBook tab fn_meta_CheckBook 0 K (d + 1) meta_CheckBook_L0 (meta_CheckBook_S0 (k : Int) (((len l) : Nat) : Int) l 0 l)
  | 0, k, hk, hK => by
    rw [meta_CheckBook_w0, meta_CheckBook_vc0 _ _ _ _ _ _ _ _ rfl]
    rw [List.drop_of_length_le (by omega)] at hK
    exact lt_f (by simp only [len]; omega) hK
  | d + 1, k, hk, hK => by
    rw [meta_CheckBook_w0, meta_CheckBook_vc0 _ _ _ _ _ _ _ _ rfl, toNat_nat, show Int.toNat (0 : Int) = 0 from rfl, slc_take]
    rw [drop_step (by omega) (Ty.dflt Ty.str)] at hK
    simp only [bookFrom] at hK
    refine lt_t (by simp only [len]; omega) ⟨⟨by omega, by simp only [len]; omega⟩, lt_s (fun h => ?_) (fun h => ⟨⟨by omega, by omega, by simp only [len]; omega⟩, by rw [List.length_take]; omega, br_split (fun h2 => ?_) (fun h2 => ?_)⟩)⟩
    · rw [if_pos (by simp only [len] at h; omega)] at hK; exact hK
    · rw [if_neg (by simp only [len] at h; omega), if_pos h2] at hK; exact hK
    · rw [if_neg (by simp only [len] at h; omega), if_neg (by rw [h2]; simp)] at hK
      rw [w64_succ (by omega)]
      rw [← take_step (by omega) (Ty.dflt Ty.str)] at hK
      exact loop_meta_CheckBook l hl K d (k + 1) (by omega) hK
set_option maxHeartbeats 4000000 in
theorem run_meta_CheckBook (l : List (List UInt8)) (K : KK) (hK : K (.one (dI (checkBook l))) []) : ∃ m, goD Γ_meta_CheckBook tab fn_meta_CheckBook 0 K m [.code (bodyOf fn_meta_CheckBook)] (initSt [.agg [.dat (.list .str) l]] []) := by
  refine ⟨l.length + 2, ?_⟩
  rw [meta_CheckBook_w, meta_CheckBook_vc _ _ _]
  unfold checkBook at hK
  refine lt_s (fun h => ?_) (fun h => ?_)
  · rw [if_pos (by simp only [len] at h; omega)] at hK; exact hK
  · rw [if_neg (by simp only [len] at h; omega)] at hK
    exact loop_meta_CheckBook l (by simp only [len] at h; omega) K l.length 0 (by omega) hK
theorem sound_meta_CheckBook : SoundC Tryd.prog tab n_meta_CheckBook c_meta_CheckBook := soundC_of ok_meta_CheckBook hf_meta_CheckBook hB_meta_CheckBook (by
  intro vs bs p v bs' h hp
  unfold c_meta_CheckBook at h
  split at h
  · cases h
    exact ⟨by kernel_rfl, rfl, .inl (run_meta_CheckBook _ _ ⟨rfl, rfl⟩)⟩
  · cases h)

def c_meta_Name : Contract := fun vs bs => match vs, bs with
  | [.agg [.dat (.list .str) l], .one (.dat .str s)], [] => some (some (l.length ≤ 140737488355328), .tup [.one (.dat .int (nameB l s).1), .one (.dat .int (nameB l s).2)], [])
  | _, _ => none
def Γ_meta_Name : Ctx := [(n_meta_CheckBook, c_meta_CheckBook), (n_slices_Index_Lstring, c_slices_Index_Lstring)]
theorem ok_meta_Name : Ok Tryd.prog tab Γ_meta_Name := ((ok_nil.consC hf_slices_Index_Lstring hB_slices_Index_Lstring sound_slices_Index_Lstring).consC hf_meta_CheckBook hB_meta_CheckBook sound_meta_CheckBook)
theorem meta_Name_vc (l : List (List UInt8)) (s : List UInt8) (rec : RK) (K : KK) v0 (hv0 : v0 = (checkBook l)) v1 (hv1 : v1 = (indexS s l)) : segD Γ_meta_Name tab fn_meta_Name 0 K rec [.code (bodyOf fn_meta_Name)] (initSt [.agg [.dat (Ty.list Ty.str) l], .one (.dat Ty.str s)] []) = (
 br (!(eqi v0 (0 : Int)))
 (K (.tup [.one (dI (0 : Int)), .one (dI v0)]) [])
 (((List.length l) ≤ 140737488355328) ∧
 (K (.tup [.one (dI (w64 (v1 + (1 : Int)))), .one (dI (0 : Int))]) []))) := by subst_vars; kernel_rfl
theorem meta_Name_w (m : Nat) (K : KK) (st : St) : goD Γ_meta_Name tab fn_meta_Name 0 K (m + 1) [.code (bodyOf fn_meta_Name)] st = segD Γ_meta_Name tab fn_meta_Name 0 K (goD Γ_meta_Name tab fn_meta_Name 0 K m) [.code (bodyOf fn_meta_Name)] st := rfl

set_option maxHeartbeats 4000000 in
theorem run_meta_Name (l : List (List UInt8)) (s : List UInt8) (hp : l.length ≤ 140737488355328) (K : KK) (hK : K (.tup [.one (dI (nameB l s).1), .one (dI (nameB l s).2)]) []) : ∃ m, goD Γ_meta_Name tab fn_meta_Name 0 K m [.code (bodyOf fn_meta_Name)] (initSt [.agg [.dat (.list .str) l], .one (.dat .str s)] []) := by
  refine ⟨1, ?_⟩
  rw [meta_Name_w, meta_Name_vc _ _ _ _ _ rfl _ rfl]
  unfold nameB at hK
  refine ne_s (fun h => ?_) (fun h => ⟨hp, ?_⟩)
  · rw [if_neg h] at hK; exact hK
  · rw [if_pos h] at hK
    have := indexFrom_range s l 0 (by omega)
    rw [w64_id (by unfold indexS; omega) (by unfold indexS; omega)]
    exact hK
theorem sound_meta_Name : SoundC Tryd.prog tab n_meta_Name c_meta_Name := soundC_of ok_meta_Name hf_meta_Name hB_meta_Name (by
  intro vs bs p v bs' h hp
  unfold c_meta_Name at h
  split at h
  · cases h
    exact ⟨by kernel_rfl, rfl, .inl (run_meta_Name _ _ hp.1 _ ⟨rfl, rfl⟩)⟩
  · cases h)

def c_trust_CheckSigned : Contract := fun vs bs => match vs, bs with
  | [.one (.dat (.list .signed) l)], [] => some (none, .one (.dat .int (checkSigned l)), [])
  | _, _ => none
def Γ_trust_CheckSigned : Ctx := []
theorem ok_trust_CheckSigned : Ok Tryd.prog tab Γ_trust_CheckSigned := ok_nil
noncomputable def trust_CheckSigned_L0 : List It := [.inLoop [10, 9, 8, 2] (Code.sub (bodyOf fn_trust_CheckSigned) [1, 1, 0, 1, 0, 0]), .inBlock 0, .code (Code.sub (bodyOf fn_trust_CheckSigned) [1, 1, 1])]
def trust_CheckSigned_S0 (x0 : Int) (x1 : Int) (x2 : (List Vm.Signed)) (x3 : Int) : St := ⟨[(10, .one (dI x0)), (9, .one (dI x1)), (8, .one (.dat (Ty.list Ty.signed) x2)), (2, .one (dI x3))], [], 0⟩
theorem trust_CheckSigned_vc (l : List Signed) (rec : RK) (K : KK) : segD Γ_trust_CheckSigned tab fn_trust_CheckSigned 0 K rec [.code (bodyOf fn_trust_CheckSigned)] (initSt [.one (.dat (Ty.list Ty.signed) l)] []) = (
 br (lti (360 : Int) (((len l) : Nat) : Int))
 (K (.one (dI (2 : Int))) [])
 (rec trust_CheckSigned_L0 (trust_CheckSigned_S0 (0 : Int) (((len l) : Nat) : Int) l (0 : Int)))) := by kernel_rfl
theorem trust_CheckSigned_w (m : Nat) (K : KK) (st : St) : goD Γ_trust_CheckSigned tab fn_trust_CheckSigned 0 K (m + 1) [.code (bodyOf fn_trust_CheckSigned)] st = segD Γ_trust_CheckSigned tab fn_trust_CheckSigned 0 K (goD Γ_trust_CheckSigned tab fn_trust_CheckSigned 0 K m) [.code (bodyOf fn_trust_CheckSigned)] st := rfl
theorem trust_CheckSigned_vc0 (x0 : Int) (x1 : Int) (x2 : (List Vm.Signed)) (x3 : Int) (rec : RK) (K : KK) : segD Γ_trust_CheckSigned tab fn_trust_CheckSigned 0 K rec (.code (Code.sub (bodyOf fn_trust_CheckSigned) [1, 1, 0, 1, 0, 0]) :: trust_CheckSigned_L0) (trust_CheckSigned_S0 x0 x1 x2 x3) = (
 br (lti x0 x1)
 ((((0 : Int) ≤ x0) ∧ (x0 < (((len x2) : Nat) : Int))) ∧
 (br (lti ((nth x2 (Int.toNat x0) (Ty.dflt Ty.signed))).key (1 : Int))
 (K (.one (dI (3 : Int))) [])
 (br (lti (50 : Int) ((nth x2 (Int.toNat x0) (Ty.dflt Ty.signed))).key)
 (K (.one (dI (3 : Int))) [])
 (br (lti ((nth x2 (Int.toNat x0) (Ty.dflt Ty.signed))).name (1 : Int))
 (K (.one (dI (3 : Int))) [])
 (br (lti (60 : Int) ((nth x2 (Int.toNat x0) (Ty.dflt Ty.signed))).name)
 (K (.one (dI (3 : Int))) [])
 (rec trust_CheckSigned_L0 (trust_CheckSigned_S0 (w64 (x0 + (1 : Int))) x1 x2 x3)))))))
 (K (.one (dI (0 : Int))) [])) := by kernel_rfl
theorem trust_CheckSigned_w0 (m : Nat) (K : KK) (st : St) : goD Γ_trust_CheckSigned tab fn_trust_CheckSigned 0 K (m + 1) trust_CheckSigned_L0 st = segD Γ_trust_CheckSigned tab fn_trust_CheckSigned 0 K (goD Γ_trust_CheckSigned tab fn_trust_CheckSigned 0 K m) (.code (Code.sub (bodyOf fn_trust_CheckSigned) [1, 1, 0, 1, 0, 0]) :: trust_CheckSigned_L0) st := rfl

theorem loop_trust_CheckSigned (l : List Vm.Signed) (hl : l.length ≤ 360) (K : KK) (x3 : Int) : ∀ (d k : Nat), k + d = l.length → K (.one (dI (if (l.drop k).all okSigned then 0 else 3))) [] →
    goD Γ_trust_CheckSigned tab fn_trust_CheckSigned 0 K (d + 1) trust_CheckSigned_L0 (trust_CheckSigned_S0 (k : Int) (((len l) : Nat) : Int) l x3)
  | 0, k, hk, hK => by
    rw [trust_CheckSigned_w0, trust_CheckSigned_vc0 _ _ _ _ _ _]
    rw [List.drop_of_length_le (by omega)] at hK
    exact lt_f (by simp only [len]; omega) hK
  | d + 1, k, hk, hK => by
    rw [trust_CheckSigned_w0, trust_CheckSigned_vc0 _ _ _ _ _ _, toNat_nat]
    rw [drop_step (by omega) (Ty.dflt Ty.signed)] at hK
    obtain ⟨x, hx⟩ : ∃ x, nth l k (Ty.dflt Ty.signed) = x := ⟨_, rfl⟩
    rw [hx] at hK ⊢
    rw [List.all_cons] at hK
    have bad : ¬ (1 ≤ x.key ∧ x.key ≤ 50 ∧ 1 ≤ x.name ∧ x.name ≤ 60) → K (.one (dI 3)) [] := fun h => by
      rw [show okSigned x = false from by
        cases hc : okSigned x
        · rfl
        · simp only [okSigned, Bool.and_eq_true, decide_eq_true_eq] at hc; exact absurd hc (by omega)] at hK
      exact hK
    rw [w64_succ (by omega)]
    refine lt_t (by simp only [len]; omega) ⟨⟨by omega, by simp only [len]; omega⟩, lt_s (fun h => bad (by omega)) (fun h => lt_s (fun h2 => bad (by omega)) (fun h2 => lt_s (fun h3 => bad (by omega)) (fun h3 => lt_s (fun h4 => bad (by omega)) (fun h4 => ?_))))⟩
    rw [show okSigned x = true from by simp only [okSigned, Bool.and_eq_true, decide_eq_true_eq]; omega, Bool.true_and] at hK
    exact loop_trust_CheckSigned l hl K x3 d (k + 1) (by omega) hK
set_option maxHeartbeats 4000000 in
theorem run_trust_CheckSigned (l : List Vm.Signed) (K : KK) (hK : K (.one (dI (checkSigned l))) []) : ∃ m, goD Γ_trust_CheckSigned tab fn_trust_CheckSigned 0 K m [.code (bodyOf fn_trust_CheckSigned)] (initSt [.one (.dat (.list .signed) l)] []) := by
  refine ⟨l.length + 2, ?_⟩
  rw [trust_CheckSigned_w, trust_CheckSigned_vc _ _ _]
  unfold checkSigned at hK
  refine lt_s (fun h => ?_) (fun h => ?_)
  · rw [if_pos (by simp only [len] at h; omega)] at hK; exact hK
  · rw [if_neg (by simp only [len] at h; omega)] at hK
    exact loop_trust_CheckSigned l (by simp only [len] at h; omega) K 0 l.length 0 (by omega) hK
theorem sound_trust_CheckSigned : SoundC Tryd.prog tab n_trust_CheckSigned c_trust_CheckSigned := soundC_of ok_trust_CheckSigned hf_trust_CheckSigned hB_trust_CheckSigned (by
  intro vs bs p v bs' h hp
  unfold c_trust_CheckSigned at h
  split at h
  · cases h
    exact ⟨by kernel_rfl, rfl, .inl (run_trust_CheckSigned _ _ ⟨rfl, rfl⟩)⟩
  · cases h)

def c_slices_Index_Lint : Contract := fun vs bs => match vs, bs with
  | [.one (.dat (.list .int) l), .one (.dat .int k)], [] => some (some (l.length ≤ 140737488355328), .one (.dat .int (indexI k 0 l)), [])
  | _, _ => none
def Γ_slices_Index_Lint : Ctx := []
theorem ok_slices_Index_Lint : Ok Tryd.prog tab Γ_slices_Index_Lint := ok_nil
noncomputable def slices_Index_Lint_L0 : List It := [.inLoop [8, 7, 4, 0, 1] (Code.sub (bodyOf fn_slices_Index_Lint) [1, 0, 1, 0, 0]), .inBlock 0, .code (Code.sub (bodyOf fn_slices_Index_Lint) [1, 1])]
def slices_Index_Lint_S0 (x0 : Int) (x1 : Int) (x2 : Int) (x3 : (List Int)) (x4 : Int) : St := ⟨[(8, .one (dI x0)), (7, .one (dI x1)), (4, .one (dI x2)), (0, .one (dL x3)), (1, .one (dI x4))], [], 0⟩
theorem slices_Index_Lint_vc (l : List Int) (k : Int) (rec : RK) (K : KK) : segD Γ_slices_Index_Lint tab fn_slices_Index_Lint 0 K rec [.code (bodyOf fn_slices_Index_Lint)] (initSt [.one (dL l), .one (dI k)] []) = (
 rec slices_Index_Lint_L0 (slices_Index_Lint_S0 (0 : Int) (((len l) : Nat) : Int) (0 : Int) l k)) := by kernel_rfl
theorem slices_Index_Lint_w (m : Nat) (K : KK) (st : St) : goD Γ_slices_Index_Lint tab fn_slices_Index_Lint 0 K (m + 1) [.code (bodyOf fn_slices_Index_Lint)] st = segD Γ_slices_Index_Lint tab fn_slices_Index_Lint 0 K (goD Γ_slices_Index_Lint tab fn_slices_Index_Lint 0 K m) [.code (bodyOf fn_slices_Index_Lint)] st := rfl
theorem slices_Index_Lint_vc0 (x0 : Int) (x1 : Int) (x2 : Int) (x3 : (List Int)) (x4 : Int) (rec : RK) (K : KK) : segD Γ_slices_Index_Lint tab fn_slices_Index_Lint 0 K rec (.code (Code.sub (bodyOf fn_slices_Index_Lint) [1, 0, 1, 0, 0]) :: slices_Index_Lint_L0) (slices_Index_Lint_S0 x0 x1 x2 x3 x4) = (
 br (lti x0 x1)
 ((((0 : Int) ≤ x0) ∧ (x0 < (((len x3) : Nat) : Int))) ∧
 (br (eqi x4 (nth x3 (Int.toNat x0) (Ty.dflt Ty.int)))
 (K (.one (dI x0)) [])
 (rec slices_Index_Lint_L0 (slices_Index_Lint_S0 (w64 (x0 + (1 : Int))) x1 x2 x3 x4))))
 (K (.one (dI (-(1 : Int)))) [])) := by kernel_rfl
theorem slices_Index_Lint_w0 (m : Nat) (K : KK) (st : St) : goD Γ_slices_Index_Lint tab fn_slices_Index_Lint 0 K (m + 1) slices_Index_Lint_L0 st = segD Γ_slices_Index_Lint tab fn_slices_Index_Lint 0 K (goD Γ_slices_Index_Lint tab fn_slices_Index_Lint 0 K m) (.code (Code.sub (bodyOf fn_slices_Index_Lint) [1, 0, 1, 0, 0]) :: slices_Index_Lint_L0) st := rfl

theorem loop_slices_Index_Lint (l : List Int) (s : Int) (hl : l.length ≤ 140737488355328) (K : KK) : ∀ (d k : Nat), k + d = l.length → K (.one (dI (indexI s k (l.drop k)))) [] →
    goD Γ_slices_Index_Lint tab fn_slices_Index_Lint 0 K (d + 1) slices_Index_Lint_L0 (slices_Index_Lint_S0 (k : Int) (((len l) : Nat) : Int) 0 l s)
  | 0, k, hk, hK => by
    rw [slices_Index_Lint_w0, slices_Index_Lint_vc0 _ _ _ _ _ _ _]
    rw [List.drop_of_length_le (by omega)] at hK
    exact lt_f (by simp only [len]; omega) hK
  | d + 1, k, hk, hK => by
    rw [slices_Index_Lint_w0, slices_Index_Lint_vc0 _ _ _ _ _ _ _, toNat_nat]
    rw [drop_step (by omega) (Ty.dflt Ty.int)] at hK
    simp only [indexI] at hK
    refine lt_t (by simp only [len]; omega) ⟨⟨by omega, by simp only [len]; omega⟩, eq_s (fun h => ?_) (fun h => ?_)⟩
    · rw [if_pos h.symm] at hK; exact hK
    · rw [if_neg (fun e => h e.symm)] at hK
      rw [w64_succ (by omega)]
      exact loop_slices_Index_Lint l s hl K d (k + 1) (by omega) hK
set_option maxHeartbeats 4000000 in
theorem run_slices_Index_Lint (l : List Int) (k : Int) (hp : l.length ≤ 140737488355328) (K : KK) (hK : K (.one (dI (indexI k 0 l))) []) : ∃ m, goD Γ_slices_Index_Lint tab fn_slices_Index_Lint 0 K m [.code (bodyOf fn_slices_Index_Lint)] (initSt [.one (dL l), .one (dI k)] []) := by
  refine ⟨l.length + 2, ?_⟩
  rw [slices_Index_Lint_w, slices_Index_Lint_vc _ _ _ _]
  exact loop_slices_Index_Lint l k hp K l.length 0 (by omega) hK
theorem sound_slices_Index_Lint : SoundC Tryd.prog tab n_slices_Index_Lint c_slices_Index_Lint := soundC_of ok_slices_Index_Lint hf_slices_Index_Lint hB_slices_Index_Lint (by
  intro vs bs p v bs' h hp
  unfold c_slices_Index_Lint at h
  split at h
  · cases h
    exact ⟨by kernel_rfl, rfl, .inl (run_slices_Index_Lint _ _ hp.1 _ ⟨rfl, rfl⟩)⟩
  · cases h)

def c_slices_Contains_Lint : Contract := fun vs bs => match vs, bs with
  | [.one (.dat (.list .int) l), .one (.dat .int k)], [] => some (some (l.length ≤ 140737488355328), .one (.dat .bool (hasI k l)), [])
  | _, _ => none
def Γ_slices_Contains_Lint : Ctx := [(n_slices_Index_Lint, c_slices_Index_Lint)]
theorem ok_slices_Contains_Lint : Ok Tryd.prog tab Γ_slices_Contains_Lint := (ok_nil.consC hf_slices_Index_Lint hB_slices_Index_Lint sound_slices_Index_Lint)
theorem slices_Contains_Lint_vc (l : List Int) (k : Int) (rec : RK) (K : KK) v0 (hv0 : v0 = (indexI k (0 : Int) l)) : segD Γ_slices_Contains_Lint tab fn_slices_Contains_Lint 0 K rec [.code (bodyOf fn_slices_Contains_Lint)] (initSt [.one (dL l), .one (dI k)] []) = (
 ((List.length l) ≤ 140737488355328) ∧
 (K (.one (dB (lei (0 : Int) v0))) [])) := by subst_vars; kernel_rfl
theorem slices_Contains_Lint_w (m : Nat) (K : KK) (st : St) : goD Γ_slices_Contains_Lint tab fn_slices_Contains_Lint 0 K (m + 1) [.code (bodyOf fn_slices_Contains_Lint)] st = segD Γ_slices_Contains_Lint tab fn_slices_Contains_Lint 0 K (goD Γ_slices_Contains_Lint tab fn_slices_Contains_Lint 0 K m) [.code (bodyOf fn_slices_Contains_Lint)] st := rfl

set_option maxHeartbeats 4000000 in
theorem run_slices_Contains_Lint (l : List Int) (k : Int) (hp : l.length ≤ 140737488355328) (K : KK) (hK : K (.one (dB (hasI k l))) []) : ∃ m, goD Γ_slices_Contains_Lint tab fn_slices_Contains_Lint 0 K m [.code (bodyOf fn_slices_Contains_Lint)] (initSt [.one (dL l), .one (dI k)] []) := by
  refine ⟨1, ?_⟩
  rw [slices_Contains_Lint_w, slices_Contains_Lint_vc _ _ _ _ _ rfl]
  rw [← indexI_has k l 0 (by omega)] at hK
  exact ⟨hp, hK⟩
theorem sound_slices_Contains_Lint : SoundC Tryd.prog tab n_slices_Contains_Lint c_slices_Contains_Lint := soundC_of ok_slices_Contains_Lint hf_slices_Contains_Lint hB_slices_Contains_Lint (by
  intro vs bs p v bs' h hp
  unfold c_slices_Contains_Lint at h
  split at h
  · cases h
    exact ⟨by kernel_rfl, rfl, .inl (run_slices_Contains_Lint _ _ hp.1 _ ⟨rfl, rfl⟩)⟩
  · cases h)

def c_slices_Index_LSigned : Contract := fun vs bs => match vs, bs with
  | [.one (.dat (.list .signed) l), .agg [.dat .int k, .dat .int n]], [] => some (some (l.length ≤ 140737488355328), .one (.dat .int (indexG k n 0 l)), [])
  | _, _ => none
def Γ_slices_Index_LSigned : Ctx := []
theorem ok_slices_Index_LSigned : Ok Tryd.prog tab Γ_slices_Index_LSigned := ok_nil
noncomputable def slices_Index_LSigned_L0 : List It := [.inLoop [8, 7, 4, 3, 0] (Code.sub (bodyOf fn_slices_Index_LSigned) [1, 0, 1, 0, 0]), .inBlock 0, .code (Code.sub (bodyOf fn_slices_Index_LSigned) [1, 1])]
def slices_Index_LSigned_S0 (x0 : Int) (x1 : Int) (x2 : Int) (x3 : (List Vm.Signed)) (x4 : Int) (x5 : Int) : St := ⟨[(8, .one (dI x0)), (7, .one (dI x1)), (4, .one (dI x2)), (3, .one (.ptr 0 0)), (0, .one (.dat (Ty.list Ty.signed) x3))], [(0, .box [dI x4, dI x5])], 1⟩
theorem slices_Index_LSigned_vc (l : List Signed) (k : Int) (n : Int) (rec : RK) (K : KK) : segD Γ_slices_Index_LSigned tab fn_slices_Index_LSigned 0 K rec [.code (bodyOf fn_slices_Index_LSigned)] (initSt [.one (.dat (Ty.list Ty.signed) l), .agg [dI k, dI n]] []) = (
 rec slices_Index_LSigned_L0 (slices_Index_LSigned_S0 (0 : Int) (((len l) : Nat) : Int) (0 : Int) l k n)) := by kernel_rfl
theorem slices_Index_LSigned_w (m : Nat) (K : KK) (st : St) : goD Γ_slices_Index_LSigned tab fn_slices_Index_LSigned 0 K (m + 1) [.code (bodyOf fn_slices_Index_LSigned)] st = segD Γ_slices_Index_LSigned tab fn_slices_Index_LSigned 0 K (goD Γ_slices_Index_LSigned tab fn_slices_Index_LSigned 0 K m) [.code (bodyOf fn_slices_Index_LSigned)] st := rfl
theorem slices_Index_LSigned_vc0 (x0 : Int) (x1 : Int) (x2 : Int) (x3 : (List Vm.Signed)) (x4 : Int) (x5 : Int) (rec : RK) (K : KK) : segD Γ_slices_Index_LSigned tab fn_slices_Index_LSigned 0 K rec (.code (Code.sub (bodyOf fn_slices_Index_LSigned) [1, 0, 1, 0, 0]) :: slices_Index_LSigned_L0) (slices_Index_LSigned_S0 x0 x1 x2 x3 x4 x5) = (
 br (lti x0 x1)
 ((((0 : Int) ≤ x0) ∧ (x0 < (((len x3) : Nat) : Int))) ∧
 (br ((eqi x4 ((nth x3 (Int.toNat x0) (Ty.dflt Ty.signed))).key) && ((eqi x5 ((nth x3 (Int.toNat x0) (Ty.dflt Ty.signed))).name) && true))
 (K (.one (dI x0)) [])
 (rec slices_Index_LSigned_L0 (slices_Index_LSigned_S0 (w64 (x0 + (1 : Int))) x1 x2 x3 x4 x5))))
 (K (.one (dI (-(1 : Int)))) [])) := by kernel_rfl
theorem slices_Index_LSigned_w0 (m : Nat) (K : KK) (st : St) : goD Γ_slices_Index_LSigned tab fn_slices_Index_LSigned 0 K (m + 1) slices_Index_LSigned_L0 st = segD Γ_slices_Index_LSigned tab fn_slices_Index_LSigned 0 K (goD Γ_slices_Index_LSigned tab fn_slices_Index_LSigned 0 K m) (.code (Code.sub (bodyOf fn_slices_Index_LSigned) [1, 0, 1, 0, 0]) :: slices_Index_LSigned_L0) st := rfl

theorem loop_slices_Index_LSigned (l : List Vm.Signed) (s n : Int) (hl : l.length ≤ 140737488355328) (K : KK) : ∀ (d k : Nat), k + d = l.length → K (.one (dI (indexG s n k (l.drop k)))) [] →
    goD Γ_slices_Index_LSigned tab fn_slices_Index_LSigned 0 K (d + 1) slices_Index_LSigned_L0 (slices_Index_LSigned_S0 (k : Int) (((len l) : Nat) : Int) 0 l s n)
  | 0, k, hk, hK => by
    rw [slices_Index_LSigned_w0, slices_Index_LSigned_vc0 _ _ _ _ _ _ _ _]
    rw [List.drop_of_length_le (by omega)] at hK
    exact lt_f (by simp only [len]; omega) hK
  | d + 1, k, hk, hK => by
    rw [slices_Index_LSigned_w0, slices_Index_LSigned_vc0 _ _ _ _ _ _ _ _, toNat_nat]
    rw [drop_step (by omega) (Ty.dflt Ty.signed)] at hK
    simp only [indexG] at hK
    refine lt_t (by simp only [len]; omega) ⟨⟨by omega, by simp only [len]; omega⟩, br_split (fun h => ?_) (fun h => ?_)⟩
    · rw [if_pos (show isSig s n _ = true from h)] at hK; exact hK
    · rw [if_neg (show ¬ isSig s n _ = true from by rw [show isSig s n (nth l k (Ty.dflt Ty.signed)) = false from h]; simp)] at hK
      rw [w64_succ (by omega)]
      exact loop_slices_Index_LSigned l s n hl K d (k + 1) (by omega) hK
set_option maxHeartbeats 4000000 in
theorem run_slices_Index_LSigned (l : List Vm.Signed) (k n : Int) (hp : l.length ≤ 140737488355328) (K : KK) (hK : K (.one (dI (indexG k n 0 l))) []) : ∃ m, goD Γ_slices_Index_LSigned tab fn_slices_Index_LSigned 0 K m [.code (bodyOf fn_slices_Index_LSigned)] (initSt [.one (.dat (.list .signed) l), .agg [dI k, dI n]] []) := by
  refine ⟨l.length + 2, ?_⟩
  rw [slices_Index_LSigned_w, slices_Index_LSigned_vc _ _ _ _ _]
  exact loop_slices_Index_LSigned l k n hp K l.length 0 (by omega) hK
theorem sound_slices_Index_LSigned : SoundC Tryd.prog tab n_slices_Index_LSigned c_slices_Index_LSigned := soundC_of ok_slices_Index_LSigned hf_slices_Index_LSigned hB_slices_Index_LSigned (by
  intro vs bs p v bs' h hp
  unfold c_slices_Index_LSigned at h
  split at h
  · cases h
    exact ⟨by kernel_rfl, rfl, .inl (run_slices_Index_LSigned _ _ _ hp.1 _ ⟨rfl, rfl⟩)⟩
  · cases h)

def c_slices_Contains_LSigned : Contract := fun vs bs => match vs, bs with
  | [.one (.dat (.list .signed) l), .agg [.dat .int k, .dat .int n]], [] => some (some (l.length ≤ 140737488355328), .one (.dat .bool (hasSig k n l)), [])
  | _, _ => none
def Γ_slices_Contains_LSigned : Ctx := [(n_slices_Index_LSigned, c_slices_Index_LSigned)]
theorem ok_slices_Contains_LSigned : Ok Tryd.prog tab Γ_slices_Contains_LSigned := (ok_nil.consC hf_slices_Index_LSigned hB_slices_Index_LSigned sound_slices_Index_LSigned)
theorem slices_Contains_LSigned_vc (l : List Signed) (k : Int) (n : Int) (rec : RK) (K : KK) v0 (hv0 : v0 = (indexG k n (0 : Int) l)) : segD Γ_slices_Contains_LSigned tab fn_slices_Contains_LSigned 0 K rec [.code (bodyOf fn_slices_Contains_LSigned)] (initSt [.one (.dat (Ty.list Ty.signed) l), .agg [dI k, dI n]] []) = (
 ((List.length l) ≤ 140737488355328) ∧
 (K (.one (dB (lei (0 : Int) v0))) [])) := by subst_vars; kernel_rfl
theorem slices_Contains_LSigned_w (m : Nat) (K : KK) (st : St) : goD Γ_slices_Contains_LSigned tab fn_slices_Contains_LSigned 0 K (m + 1) [.code (bodyOf fn_slices_Contains_LSigned)] st = segD Γ_slices_Contains_LSigned tab fn_slices_Contains_LSigned 0 K (goD Γ_slices_Contains_LSigned tab fn_slices_Contains_LSigned 0 K m) [.code (bodyOf fn_slices_Contains_LSigned)] st := rfl

set_option maxHeartbeats 4000000 in
theorem run_slices_Contains_LSigned (l : List Vm.Signed) (k n : Int) (hp : l.length ≤ 140737488355328) (K : KK) (hK : K (.one (dB (hasSig k n l))) []) : ∃ m, goD Γ_slices_Contains_LSigned tab fn_slices_Contains_LSigned 0 K m [.code (bodyOf fn_slices_Contains_LSigned)] (initSt [.one (.dat (.list .signed) l), .agg [dI k, dI n]] []) := by
  refine ⟨1, ?_⟩
  rw [slices_Contains_LSigned_w, slices_Contains_LSigned_vc _ _ _ _ _ _ rfl]
  rw [← indexG_has k n l 0 (by omega)] at hK
  exact ⟨hp, hK⟩
theorem sound_slices_Contains_LSigned : SoundC Tryd.prog tab n_slices_Contains_LSigned c_slices_Contains_LSigned := soundC_of ok_slices_Contains_LSigned hf_slices_Contains_LSigned hB_slices_Contains_LSigned (by
  intro vs bs p v bs' h hp
  unfold c_slices_Contains_LSigned at h
  split at h
  · cases h
    exact ⟨by kernel_rfl, rfl, .inl (run_slices_Contains_LSigned _ _ _ hp.1 _ ⟨rfl, rfl⟩)⟩
  · cases h)

def c_trust_Count : Contract := fun vs bs => match vs, bs with
  | [.one (.dat (.list .signed) l), .agg [.dat .int v, .dat (.list .int) ks, .dat .int t], .one (.dat (.list .int) sg), .one (.dat .int n)], [] => some (none, .tup [.one (.dat .int (countT l ⟨v, ks, t⟩ sg n).1), .one (.dat .int (countT l ⟨v, ks, t⟩ sg n).2)], [])
  | _, _ => none
def Γ_trust_Count : Ctx := [(n_trust_CheckSigned, c_trust_CheckSigned), (n_meta_CheckRoot, c_meta_CheckRoot), (n_slices_Contains_Lint, c_slices_Contains_Lint), (n_slices_Contains_LSigned, c_slices_Contains_LSigned)]
theorem ok_trust_Count : Ok Tryd.prog tab Γ_trust_Count := ((((ok_nil.consC hf_slices_Contains_LSigned hB_slices_Contains_LSigned sound_slices_Contains_LSigned).consC hf_slices_Contains_Lint hB_slices_Contains_Lint sound_slices_Contains_Lint).consC hf_meta_CheckRoot hB_meta_CheckRoot sound_meta_CheckRoot).consC hf_trust_CheckSigned hB_trust_CheckSigned sound_trust_CheckSigned)
noncomputable def trust_Count_L0 : List It := [.inLoop [31, 30, 29, 12, 9, 8, 0, 2, 3] (Code.sub (bodyOf fn_trust_Count) [1, 1, 1, 1, 1, 0, 1, 0, 0]), .inBlock 0, .code (Code.sub (bodyOf fn_trust_Count) [1, 1, 1, 1, 1, 1])]
def trust_Count_S0 (x0 : Int) (x1 : Int) (x2 : (List Int)) (x3 : Int) (x4 : Int) (x5 : Int) (x6 : (List Vm.Signed)) (x7 : (List Int)) (x8 : Int) : St := ⟨[(31, .one (dI x0)), (30, .one (dI x1)), (29, .one (dL x2)), (12, .one (dI x3)), (9, .one (dI x4)), (8, .one (dI x5)), (0, .one (.dat (Ty.list Ty.signed) x6)), (2, .one (dL x7)), (3, .one (dI x8))], [], 0⟩
theorem trust_Count_vc (l : List Signed) (v : Int) (ks : List Int) (t : Int) (sg : List Int) (n : Int) (rec : RK) (K : KK) v0 (hv0 : v0 = (checkSigned l)) v1 (hv1 : v1 = (checkRoot v ks t)) : segD Γ_trust_Count tab fn_trust_Count 0 K rec [.code (bodyOf fn_trust_Count)] (initSt [.one (.dat (Ty.list Ty.signed) l), .agg [dI v, dL ks, dI t], .one (dL sg), .one (dI n)] []) = (
 br (!(eqi v0 (0 : Int)))
 (K (.tup [.one (dI (0 : Int)), .one (dI v0)]) [])
 (br (!(eqi v1 (0 : Int)))
 (K (.tup [.one (dI (0 : Int)), .one (dI v1)]) [])
 (br (lti (50 : Int) (((len sg) : Nat) : Int))
 (K (.tup [.one (dI (0 : Int)), .one (dI (2 : Int))]) [])
 (rec trust_Count_L0 (trust_Count_S0 (0 : Int) (((len ks) : Nat) : Int) ks (0 : Int) (0 : Int) (0 : Int) l sg n))))) := by subst_vars; kernel_rfl
theorem trust_Count_w (m : Nat) (K : KK) (st : St) : goD Γ_trust_Count tab fn_trust_Count 0 K (m + 1) [.code (bodyOf fn_trust_Count)] st = segD Γ_trust_Count tab fn_trust_Count 0 K (goD Γ_trust_Count tab fn_trust_Count 0 K m) [.code (bodyOf fn_trust_Count)] st := rfl
theorem trust_Count_vc0 (x0 : Int) (x1 : Int) (x2 : (List Int)) (x3 : Int) (x4 : Int) (x5 : Int) (x6 : (List Vm.Signed)) (x7 : (List Int)) (x8 : Int) (rec : RK) (K : KK) v0 (hv0 : v0 = (hasI (nth x2 (Int.toNat x0) (Ty.dflt Ty.int)) x7)) v1 (hv1 : v1 = (hasSig (nth x2 (Int.toNat x0) (Ty.dflt Ty.int)) x8 x6)) v2 (hv2 : v2 = (rec trust_Count_L0 (trust_Count_S0 (w64 (x0 + (1 : Int))) x1 x2 x3 x4 x5 x6 x7 x8))) : segD Γ_trust_Count tab fn_trust_Count 0 K rec (.code (Code.sub (bodyOf fn_trust_Count) [1, 1, 1, 1, 1, 0, 1, 0, 0]) :: trust_Count_L0) (trust_Count_S0 x0 x1 x2 x3 x4 x5 x6 x7 x8) = (
 br (lti x0 x1)
 ((((0 : Int) ≤ x0) ∧ (x0 < (((len x2) : Nat) : Int))) ∧
 (((List.length x7) ≤ 140737488355328) ∧
 (br v0
 (((List.length x6) ≤ 140737488355328) ∧
 (br v1
 (rec trust_Count_L0 (trust_Count_S0 (w64 (x0 + (1 : Int))) x1 x2 (w64 (x3 + (1 : Int))) x4 x5 x6 x7 x8))
 v2))
 v2)))
 (K (.tup [.one (dI x3), .one (dI (0 : Int))]) [])) := by subst_vars; kernel_rfl
theorem trust_Count_w0 (m : Nat) (K : KK) (st : St) : goD Γ_trust_Count tab fn_trust_Count 0 K (m + 1) trust_Count_L0 st = segD Γ_trust_Count tab fn_trust_Count 0 K (goD Γ_trust_Count tab fn_trust_Count 0 K m) (.code (Code.sub (bodyOf fn_trust_Count) [1, 1, 1, 1, 1, 0, 1, 0, 0]) :: trust_Count_L0) st := rfl

theorem loop_trust_Count (l : List Vm.Signed) (ks sg : List Int) (n : Int) (hk6 : ks.length ≤ 6) (hl : l.length ≤ 360) (hs : sg.length ≤ 50) (K : KK) (x4 x5 : Int) : ∀ (d k c : Nat), k + d = ks.length → c ≤ k → K (.tup [.one (dI ((c + countN l sg n (ks.drop k) : Nat) : Int)), .one (dI 0)]) [] →
    goD Γ_trust_Count tab fn_trust_Count 0 K (d + 1) trust_Count_L0 (trust_Count_S0 (k : Int) (((len ks) : Nat) : Int) ks (c : Int) x4 x5 l sg n)
  | 0, k, c, hk, hc, hK => by
    rw [trust_Count_w0, trust_Count_vc0 _ _ _ _ _ _ _ _ _ _ _ _ rfl _ rfl _ rfl]
    rw [List.drop_of_length_le (by omega)] at hK
    exact lt_f (by simp only [len]; omega) hK
  | d + 1, k, c, hk, hc, hK => by
    rw [trust_Count_w0, trust_Count_vc0 _ _ _ _ _ _ _ _ _ _ _ _ rfl _ rfl _ rfl, toNat_nat]
    rw [drop_step (by omega) (Ty.dflt Ty.int), countN_cons] at hK
    obtain ⟨x, hx⟩ : ∃ x, nth ks k (Ty.dflt Ty.int) = x := ⟨_, rfl⟩
    rw [hx] at hK ⊢
    rw [w64_succ (k := k) (by omega), w64_succ (k := c) (by omega)]
    have no : signs l sg n x = false → K (.tup [.one (dI ((c + countN l sg n (ks.drop (k + 1)) : Nat) : Int)), .one (dI 0)]) [] := fun h => by
      rw [if_neg (by rw [h]; simp), Nat.zero_add] at hK; exact hK
    refine lt_t (by simp only [len]; omega) ⟨⟨by omega, by simp only [len]; omega⟩, by omega, br_split (fun h => ⟨by omega, br_split (fun h2 => ?_) (fun h2 => ?_)⟩) (fun h => ?_)⟩
    · rw [if_pos (show signs l sg n x = true from by simp [signs, h, h2])] at hK
      exact loop_trust_Count l ks sg n hk6 hl hs K x4 x5 d (k + 1) (c + 1) (by omega) (by omega) (by rw [show c + 1 + countN l sg n (ks.drop (k + 1)) = c + (1 + countN l sg n (ks.drop (k + 1))) by omega]; exact hK)
    · exact loop_trust_Count l ks sg n hk6 hl hs K x4 x5 d (k + 1) c (by omega) (by omega) (no (by simp [signs, h2]))
    · exact loop_trust_Count l ks sg n hk6 hl hs K x4 x5 d (k + 1) c (by omega) (by omega) (no (by simp [signs, h]))
set_option maxHeartbeats 4000000 in
theorem run_trust_Count (l : List Vm.Signed) (v : Int) (ks : List Int) (t : Int) (sg : List Int) (n : Int) (K : KK) (hK : K (.tup [.one (dI (countT l ⟨v, ks, t⟩ sg n).1), .one (dI (countT l ⟨v, ks, t⟩ sg n).2)]) []) : ∃ m, goD Γ_trust_Count tab fn_trust_Count 0 K m [.code (bodyOf fn_trust_Count)] (initSt [.one (.dat (.list .signed) l), .agg [dI v, dL ks, dI t], .one (dL sg), .one (dI n)] []) := by
  refine ⟨ks.length + 2, ?_⟩
  rw [trust_Count_w, trust_Count_vc _ _ _ _ _ _ _ _ _ rfl _ rfl]
  unfold countT at hK
  simp only at hK
  refine ne_s (fun h => ?_) (fun h => ne_s (fun h2 => ?_) (fun h2 => lt_s (fun h3 => ?_) (fun h3 => ?_)))
  · rw [if_neg h] at hK; exact hK
  · rw [if_pos h, if_neg h2] at hK; exact hK
  · rw [if_pos h, if_pos h2, if_pos (by simp only [len] at h3; omega)] at hK; exact hK
  · rw [if_pos h, if_pos h2, if_neg (by simp only [len] at h3; omega)] at hK
    have hl : l.length ≤ 360 := by
      unfold checkSigned at h
      by_cases c : 360 < l.length
      · rw [if_pos c] at h; cases h
      · omega
    exact loop_trust_Count l ks sg n (checkRoot_ok h2).2.2.2.2.1 hl (by simp only [len] at h3; omega) K 0 0 ks.length 0 0 (by omega) (by omega) (by rw [Nat.zero_add]; exact hK)
theorem sound_trust_Count : SoundC Tryd.prog tab n_trust_Count c_trust_Count := soundC_of ok_trust_Count hf_trust_Count hB_trust_Count (by
  intro vs bs p v bs' h hp
  unfold c_trust_Count at h
  split at h
  · cases h
    exact ⟨by kernel_rfl, rfl, .inl (run_trust_Count _ _ _ _ _ _ _ ⟨rfl, rfl⟩)⟩
  · cases h)

def c_trust_Turn : Contract := fun vs bs => match vs, bs with
  | [.agg [.dat (.list .str) b], .one (.dat (.list .signed) l), .agg [.dat .int v, .dat (.list .int) ks, .dat .int t, .dat .int n], .agg [.dat .int nv, .dat (.list .int) nk, .dat .int nt], .one (.dat (.list .int) sg)], [] => some (some (b.length ≤ 140737488355328), .tup [.agg [.dat .int (turnT b l ⟨⟨v, ks, t⟩, n⟩ ⟨nv, nk, nt⟩ sg).1.r.version, .dat (.list .int) (turnT b l ⟨⟨v, ks, t⟩, n⟩ ⟨nv, nk, nt⟩ sg).1.r.keys, .dat .int (turnT b l ⟨⟨v, ks, t⟩, n⟩ ⟨nv, nk, nt⟩ sg).1.r.thr, .dat .int (turnT b l ⟨⟨v, ks, t⟩, n⟩ ⟨nv, nk, nt⟩ sg).1.version], .one (.dat .int (turnT b l ⟨⟨v, ks, t⟩, n⟩ ⟨nv, nk, nt⟩ sg).2)], [])
  | _, _ => none
def Γ_trust_Turn : Ctx := [(n_trust_CheckTrust, c_trust_CheckTrust), (n_meta_RootText, c_meta_RootText), (n_meta_Name, c_meta_Name), (n_trust_Count, c_trust_Count), (n_slices_Clone_Lint, c_slices_Clone_Lint)]
theorem ok_trust_Turn : Ok Tryd.prog tab Γ_trust_Turn := (((((ok_nil.consC hf_slices_Clone_Lint hB_slices_Clone_Lint sound_slices_Clone_Lint).consC hf_trust_Count hB_trust_Count sound_trust_Count).consC hf_meta_Name hB_meta_Name sound_meta_Name).consC hf_meta_RootText hB_meta_RootText sound_meta_RootText).consC hf_trust_CheckTrust hB_trust_CheckTrust sound_trust_CheckTrust)
noncomputable def trust_Turn_L0 : List It := [.inLoop [57, 56, 15, 11, 10, 8, 7, 1, 4] (Code.sub (bodyOf fn_trust_Turn) [1, 1, 1, 1, 1, 1, 1, 0, 1, 0, 0]), .inBlock 0, .code (Code.sub (bodyOf fn_trust_Turn) [1, 1, 1, 1, 1, 1, 1, 1])]
def trust_Turn_S0 (x0 : Int) (x1 : Int) (x2 : (List Int)) (x3 : Int) (x4 : Int) (x5 : (List Int)) (x6 : Int) (x7 : Int) (x8 : Int) (x9 : (List Vm.Signed)) (x10 : (List Int)) (x11 : Int) (x12 : Int) (x13 : Int) (x14 : Int) (x15 : (List Int)) (x16 : Int) (x17 : Int) (x18 : (List Int)) (x19 : Int) (x20 : Int) (x21 : (List Int)) : St := ⟨[(57, .one (dI x0)), (56, .agg [dI x1, dL x2, dI x3, dI x4, dL x5, dI x6]), (15, .one (dI x7)), (11, .one (dI x8)), (10, .one (.ptr 0 0)), (8, .one (.ptr 1 0)), (7, .one (.ptr 2 0)), (1, .one (.dat (Ty.list Ty.signed) x9)), (4, .one (dL x10))], [(0, .box [dI x11, .own 3, dI x12, dI x13]), (1, .box [dI x14, dL x15, dI x16]), (2, .box [dI x17, dL x18, dI x19, dI x20]), (3, .arr Ty.int x21)], 4⟩
theorem trust_Turn_vc (b : List (List UInt8)) (l : List Signed) (v : Int) (ks : List Int) (t : Int) (n : Int) (nv : Int) (nk : List Int) (nt : Int) (sg : List Int) (rec : RK) (K : KK) v0 (hv0 : v0 = (checkTrust ⟨⟨v, ks, t⟩, n⟩)) v1 (hv1 : v1 = (rootTextE nv nk nt)) v2 (hv2 : v2 = (nameB b v1.fst)) : segD Γ_trust_Turn tab fn_trust_Turn 0 K rec [.code (bodyOf fn_trust_Turn)] (initSt [.agg [.dat (Ty.list Ty.str) b], .one (.dat (Ty.list Ty.signed) l), .agg [dI v, dL ks, dI t, dI n], .agg [dI nv, dL nk, dI nt], .one (dL sg)] []) = (
 br (!(eqi v0 (0 : Int)))
 (K (.tup [.agg [dI (0 : Int), dL [], dI (0 : Int), dI (0 : Int)], .one (dI v0)]) [])
 (br (!(eqi v1.snd (0 : Int)))
 (K (.tup [.agg [dI (0 : Int), dL [], dI (0 : Int), dI (0 : Int)], .one (dI v1.snd)]) [])
 (((List.length b) ≤ 140737488355328) ∧
 (br (!(eqi v2.snd (0 : Int)))
 (K (.tup [.agg [dI (0 : Int), dL [], dI (0 : Int), dI (0 : Int)], .one (dI v2.snd)]) [])
 (br (!(eqi nv (w64 (v + (1 : Int)))))
 (K (.tup [.agg [dI (0 : Int), dL [], dI (0 : Int), dI (0 : Int)], .one (dI (10 : Int))]) [])
 (rec trust_Turn_L0 (trust_Turn_S0 (0 : Int) v ks t nv nk nt v2.fst (0 : Int) l sg (0 : Int) (0 : Int) (0 : Int) nv nk nt v ks t n []))))))) := by subst_vars; kernel_rfl
theorem trust_Turn_w (m : Nat) (K : KK) (st : St) : goD Γ_trust_Turn tab fn_trust_Turn 0 K (m + 1) [.code (bodyOf fn_trust_Turn)] st = segD Γ_trust_Turn tab fn_trust_Turn 0 K (goD Γ_trust_Turn tab fn_trust_Turn 0 K m) [.code (bodyOf fn_trust_Turn)] st := rfl
theorem trust_Turn_vc0_0 (x1 : Int) (x2 : (List Int)) (x3 : Int) (x4 : Int) (x5 : (List Int)) (x6 : Int) (x7 : Int) (x8 : Int) (x9 : (List Vm.Signed)) (x10 : (List Int)) (x11 : Int) (x12 : Int) (x13 : Int) (x14 : Int) (x15 : (List Int)) (x16 : Int) (x17 : Int) (x18 : (List Int)) (x19 : Int) (x20 : Int) (x21 : (List Int)) (rec : RK) (K : KK) v0 (hv0 : v0 = (countT x9 ⟨x1, x2, x3⟩ x10 x7)) : segD Γ_trust_Turn tab fn_trust_Turn 0 K rec (.code (Code.sub (bodyOf fn_trust_Turn) [1, 1, 1, 1, 1, 1, 1, 0, 1, 0, 0]) :: trust_Turn_L0) (trust_Turn_S0 (0 : Int) x1 x2 x3 x4 x5 x6 x7 x8 x9 x10 x11 x12 x13 x14 x15 x16 x17 x18 x19 x20 x21) = (
 (((0 : Int) ≤ (0 : Int)) ∧ ((0 : Int) < ((2 : Nat) : Int))) ∧
 (br (!(eqi v0.snd (0 : Int)))
 (K (.tup [.agg [dI (0 : Int), dL [], dI (0 : Int), dI (0 : Int)], .one (dI v0.snd)]) [])
 (br (lti v0.fst x3)
 (K (.tup [.agg [dI (0 : Int), dL [], dI (0 : Int), dI (0 : Int)], .one (dI (9 : Int))]) [])
 (rec trust_Turn_L0 (trust_Turn_S0 (w64 ((0 : Int) + (1 : Int))) x1 x2 x3 x4 x5 x6 x7 x8 x9 x10 x11 x12 x13 x14 x15 x16 x17 x18 x19 x20 x21))))) := by subst_vars; kernel_rfl
theorem trust_Turn_vc0_1 (x1 : Int) (x2 : (List Int)) (x3 : Int) (x4 : Int) (x5 : (List Int)) (x6 : Int) (x7 : Int) (x8 : Int) (x9 : (List Vm.Signed)) (x10 : (List Int)) (x11 : Int) (x12 : Int) (x13 : Int) (x14 : Int) (x15 : (List Int)) (x16 : Int) (x17 : Int) (x18 : (List Int)) (x19 : Int) (x20 : Int) (x21 : (List Int)) (rec : RK) (K : KK) v0 (hv0 : v0 = (countT x9 ⟨x4, x5, x6⟩ x10 x7)) : segD Γ_trust_Turn tab fn_trust_Turn 0 K rec (.code (Code.sub (bodyOf fn_trust_Turn) [1, 1, 1, 1, 1, 1, 1, 0, 1, 0, 0]) :: trust_Turn_L0) (trust_Turn_S0 (1 : Int) x1 x2 x3 x4 x5 x6 x7 x8 x9 x10 x11 x12 x13 x14 x15 x16 x17 x18 x19 x20 x21) = (
 (((0 : Int) ≤ (1 : Int)) ∧ ((1 : Int) < ((2 : Nat) : Int))) ∧
 (br (!(eqi v0.snd (0 : Int)))
 (K (.tup [.agg [dI (0 : Int), dL [], dI (0 : Int), dI (0 : Int)], .one (dI v0.snd)]) [])
 (br (lti v0.fst x6)
 (K (.tup [.agg [dI (0 : Int), dL [], dI (0 : Int), dI (0 : Int)], .one (dI (9 : Int))]) [])
 (rec trust_Turn_L0 (trust_Turn_S0 (w64 ((1 : Int) + (1 : Int))) x1 x2 x3 x4 x5 x6 x7 x8 x9 x10 x11 x12 x13 x14 x15 x16 x17 x18 x19 x20 x21))))) := by subst_vars; kernel_rfl
theorem trust_Turn_vc0_2 (x1 : Int) (x2 : (List Int)) (x3 : Int) (x4 : Int) (x5 : (List Int)) (x6 : Int) (x7 : Int) (x8 : Int) (x9 : (List Vm.Signed)) (x10 : (List Int)) (x11 : Int) (x12 : Int) (x13 : Int) (x14 : Int) (x15 : (List Int)) (x16 : Int) (x17 : Int) (x18 : (List Int)) (x19 : Int) (x20 : Int) (x21 : (List Int)) (rec : RK) (K : KK) : segD Γ_trust_Turn tab fn_trust_Turn 0 K rec (.code (Code.sub (bodyOf fn_trust_Turn) [1, 1, 1, 1, 1, 1, 1, 0, 1, 0, 0]) :: trust_Turn_L0) (trust_Turn_S0 (2 : Int) x1 x2 x3 x4 x5 x6 x7 x8 x9 x10 x11 x12 x13 x14 x15 x16 x17 x18 x19 x20 x21) = (
 (((len x15) * 8) ≤ 140737488355328) ∧
 (K (.tup [.agg [dI x14, dL x15, dI x16, dI x20], .one (dI (0 : Int))]) [])) := by kernel_rfl
theorem trust_Turn_vc0_3 (x1 : Int) (x2 : (List Int)) (x3 : Int) (x4 : Int) (x5 : (List Int)) (x6 : Int) (x7 : Int) (x8 : Int) (x9 : (List Vm.Signed)) (x10 : (List Int)) (x11 : Int) (x12 : Int) (x13 : Int) (x14 : Int) (x15 : (List Int)) (x16 : Int) (x17 : Int) (x18 : (List Int)) (x19 : Int) (x20 : Int) (x21 : (List Int)) (rec : RK) (K : KK) : segD Γ_trust_Turn tab fn_trust_Turn 0 K rec (.code (Code.sub (bodyOf fn_trust_Turn) [1, 1, 1, 1, 1, 1, 1, 0, 1, 0, 0]) :: trust_Turn_L0) (trust_Turn_S0 (3 : Int) x1 x2 x3 x4 x5 x6 x7 x8 x9 x10 x11 x12 x13 x14 x15 x16 x17 x18 x19 x20 x21) = (
 (((len x15) * 8) ≤ 140737488355328) ∧
 (K (.tup [.agg [dI x14, dL x15, dI x16, dI x20], .one (dI (0 : Int))]) [])) := by kernel_rfl
theorem trust_Turn_w0 (m : Nat) (K : KK) (st : St) : goD Γ_trust_Turn tab fn_trust_Turn 0 K (m + 1) trust_Turn_L0 st = segD Γ_trust_Turn tab fn_trust_Turn 0 K (goD Γ_trust_Turn tab fn_trust_Turn 0 K m) (.code (Code.sub (bodyOf fn_trust_Turn) [1, 1, 1, 1, 1, 1, 1, 0, 1, 0, 0]) :: trust_Turn_L0) st := rfl

set_option maxHeartbeats 4000000 in
theorem run_trust_Turn (b : List (List UInt8)) (l : List Vm.Signed) (v : Int) (ks : List Int) (t n nv : Int) (nk : List Int) (nt : Int) (sg : List Int) (hp : b.length ≤ 140737488355328) (K : KK) (hK : K (.tup [.agg [dI (turnT b l ⟨⟨v, ks, t⟩, n⟩ ⟨nv, nk, nt⟩ sg).1.r.version, dL (turnT b l ⟨⟨v, ks, t⟩, n⟩ ⟨nv, nk, nt⟩ sg).1.r.keys, dI (turnT b l ⟨⟨v, ks, t⟩, n⟩ ⟨nv, nk, nt⟩ sg).1.r.thr, dI (turnT b l ⟨⟨v, ks, t⟩, n⟩ ⟨nv, nk, nt⟩ sg).1.version], .one (dI (turnT b l ⟨⟨v, ks, t⟩, n⟩ ⟨nv, nk, nt⟩ sg).2)]) []) : ∃ m, goD Γ_trust_Turn tab fn_trust_Turn 0 K m [.code (bodyOf fn_trust_Turn)] (initSt [.agg [.dat (.list .str) b], .one (.dat (.list .signed) l), .agg [dI v, dL ks, dI t, dI n], .agg [dI nv, dL nk, dI nt], .one (dL sg)] []) := by
  refine ⟨5, ?_⟩
  rw [trust_Turn_w, trust_Turn_vc _ _ _ _ _ _ _ _ _ _ _ _ _ rfl _ rfl _ rfl]
  have bad : ∀ e : Int, e ≠ 0 → turnE b l ⟨⟨v, ks, t⟩, n⟩ ⟨nv, nk, nt⟩ sg = e → K (.tup [.agg [dI 0, dL [], dI 0, dI 0], .one (dI e)]) [] := fun e he h => by
    rw [show turnT b l ⟨⟨v, ks, t⟩, n⟩ ⟨nv, nk, nt⟩ sg = (noTrust, e) from by unfold turnT; rw [if_neg (by rw [h]; exact he), h]] at hK
    exact hK
  refine ne_s (fun h => bad _ h (if_neg h)) (fun h => ?_)
  have E1 : turnE b l ⟨⟨v, ks, t⟩, n⟩ ⟨nv, nk, nt⟩ sg = _ := if_pos h
  refine ne_s (fun h2 => ?_) (fun h2 => ⟨hp, ?_⟩)
  · unfold rootTextE at h2 ⊢
    by_cases c : checkRoot nv nk nt = 0
    · rw [if_pos c] at h2; exact absurd rfl h2
    · rw [if_neg c]
      exact bad _ c (E1.trans (if_neg c))
  have c2 : checkRoot nv nk nt = 0 := by
    by_cases c : checkRoot nv nk nt = 0
    · exact c
    · unfold rootTextE at h2; rw [if_neg c] at h2; exact h2
  rw [show rootTextE nv nk nt = (rootText nv nk nt, 0) from if_pos c2]
  have E2 := E1.trans (if_pos c2)
  refine ne_s (fun h3 => ?_) (fun h3 => ?_)
  · unfold nameB at h3 ⊢
    by_cases c : checkBook b = 0
    · rw [if_pos c] at h3; exact absurd rfl h3
    · rw [if_neg c]
      exact bad _ c (E2.trans (if_neg c))
  have c3 : checkBook b = 0 := by
    by_cases c : checkBook b = 0
    · exact c
    · unfold nameB at h3; rw [if_neg c] at h3; exact h3
  have E3 := E2.trans (if_pos c3)
  simp only [show nameB b (rootText nv nk nt) = (indexS (rootText nv nk nt) b + 1, 0) from if_pos c3]
  obtain ⟨t1, t2, t3⟩ := checkTrust_ok h
  obtain ⟨r1, r2, r3, r4, r5, _⟩ := checkRoot_ok t3
  obtain ⟨q1, q2, q3, q4, q5, _⟩ := checkRoot_ok c2
  simp only at t1 t2 r1 r2 r3 r4 r5
  rw [w64_id (n := v + 1) (by omega) (by omega)]
  refine ne_s (fun h4 => bad _ (by decide) (E3.trans (if_neg h4))) (fun h4 => ?_)
  have E4 := E3.trans (if_pos h4)
  have step : ∀ (r : Vm.Root) (P Q R : Prop), (enough l r sg (indexS (rootText nv nk nt) b + 1) ≠ 0 → (countT l r sg (indexS (rootText nv nk nt) b + 1)).2 ≠ 0 → (countT l r sg (indexS (rootText nv nk nt) b + 1)).2 = enough l r sg (indexS (rootText nv nk nt) b + 1) → P) → (enough l r sg (indexS (rootText nv nk nt) b + 1) = 9 → Q) → (enough l r sg (indexS (rootText nv nk nt) b + 1) = 0 → R) →
      br (!eqi (countT l r sg (indexS (rootText nv nk nt) b + 1)).2 0) P (br (lti (countT l r sg (indexS (rootText nv nk nt) b + 1)).1 r.thr) Q R) := fun r P Q R hP hQ hR => by
    refine ne_s (fun g => ?_) (fun g => lt_s (fun g2 => hQ ?_) (fun g2 => hR ?_))
    · have e : enough l r sg (indexS (rootText nv nk nt) b + 1) = (countT l r sg (indexS (rootText nv nk nt) b + 1)).2 := if_neg g
      exact hP (by rw [e]; exact g) g e.symm
    · unfold enough; rw [if_pos g, if_pos g2]
    · unfold enough; rw [if_pos g, if_neg (by omega)]
  rw [trust_Turn_w0, trust_Turn_vc0_0 _ _ _ _ _ _ _ _ _ _ _ _ _ _ _ _ _ _ _ _ _ _ _ _ rfl]
  refine ⟨by omega, step ⟨v, ks, t⟩ _ _ _ (fun g g1 g2 => bad _ g1 ((E4.trans (if_neg g)).trans g2.symm)) (fun g => bad _ (by decide) ((E4.trans (if_neg (by rw [g]; decide))).trans g)) (fun g => ?_)⟩
  have E5 := E4.trans (if_pos g)
  rw [show w64 ((0 : Int) + 1) = 1 from w64_id (by omega) (by omega), trust_Turn_w0, trust_Turn_vc0_1 _ _ _ _ _ _ _ _ _ _ _ _ _ _ _ _ _ _ _ _ _ _ _ _ rfl]
  refine ⟨by omega, step ⟨nv, nk, nt⟩ _ _ _ (fun g g1 g2 => bad _ g1 (E5.trans g2.symm)) (fun g => bad _ (by decide) (E5.trans g)) (fun g => ?_)⟩
  rw [show w64 ((1 : Int) + 1) = 2 from w64_id (by omega) (by omega), trust_Turn_w0, trust_Turn_vc0_2 _ _ _ _ _ _ _ _ _ _ _ _ _ _ _ _ _ _ _ _ _ _ _]
  refine ⟨by simp only [len]; omega, ?_⟩
  rw [show turnT b l ⟨⟨v, ks, t⟩, n⟩ ⟨nv, nk, nt⟩ sg = (⟨⟨nv, nk, nt⟩, n⟩, 0) from if_pos (E5.trans g)] at hK
  exact hK
theorem sound_trust_Turn : SoundC Tryd.prog tab n_trust_Turn c_trust_Turn := soundC_of ok_trust_Turn hf_trust_Turn hB_trust_Turn (by
  intro vs bs p v bs' h hp
  unfold c_trust_Turn at h
  split at h
  · cases h
    exact ⟨by kernel_rfl, rfl, .inl (run_trust_Turn _ _ _ _ _ _ _ _ _ _ hp.1 _ ⟨rfl, rfl⟩)⟩
  · cases h)

def c_trust_Take_1 : Contract := fun vs bs => match vs, bs with
  | [.one (.dat .int e)], [] => some (none, .tup [.agg [.dat .int 0, .dat (.list .int) [], .dat .int 0, .dat .int 0], .one (.dat .int e)], [])
  | _, _ => none
def Γ_trust_Take_1 : Ctx := []
theorem ok_trust_Take_1 : Ok Tryd.prog tab Γ_trust_Take_1 := ok_nil
theorem trust_Take_1_vc (e : Int) (rec : RK) (K : KK) : segD Γ_trust_Take_1 tab fn_trust_Take_1 0 K rec [.code (bodyOf fn_trust_Take_1)] (initSt [.one (dI e)] []) = (
 K (.tup [.agg [dI (0 : Int), dL [], dI (0 : Int), dI (0 : Int)], .one (dI e)]) []) := by kernel_rfl
theorem trust_Take_1_w (m : Nat) (K : KK) (st : St) : goD Γ_trust_Take_1 tab fn_trust_Take_1 0 K (m + 1) [.code (bodyOf fn_trust_Take_1)] st = segD Γ_trust_Take_1 tab fn_trust_Take_1 0 K (goD Γ_trust_Take_1 tab fn_trust_Take_1 0 K m) [.code (bodyOf fn_trust_Take_1)] st := rfl

set_option maxHeartbeats 4000000 in
theorem run_trust_Take_1 (e : Int) (K : KK) (hK : K (.tup [.agg [dI 0, dL [], dI 0, dI 0], .one (dI e)]) []) : ∃ m, goD Γ_trust_Take_1 tab fn_trust_Take_1 0 K m [.code (bodyOf fn_trust_Take_1)] (initSt [.one (dI e)] []) := by
  refine ⟨1, ?_⟩
  rw [trust_Take_1_w, trust_Take_1_vc _ _ _]
  exact hK
theorem sound_trust_Take_1 : SoundC Tryd.prog tab n_trust_Take_1 c_trust_Take_1 := soundC_of ok_trust_Take_1 hf_trust_Take_1 hB_trust_Take_1 (by
  intro vs bs p v bs' h hp
  unfold c_trust_Take_1 at h
  split at h
  · cases h
    exact ⟨by kernel_rfl, rfl, .inl (run_trust_Take_1 _ _ ⟨rfl, rfl⟩)⟩
  · cases h)

def c_meta_CheckRelease : Contract := fun vs bs => match vs, bs with
  | [.agg [.dat .int v, .dat .int u, .dat (.list .target) ts]], [] => some (none, .one (.dat .int (checkRelease v u ts)), [])
  | _, _ => none
def Γ_meta_CheckRelease : Ctx := []
theorem ok_meta_CheckRelease : Ok Tryd.prog tab Γ_meta_CheckRelease := ok_nil
noncomputable def meta_CheckRelease_L0 : List It := [.inLoop [38, 37, 36, 2] (Code.sub (bodyOf fn_meta_CheckRelease) [1, 1, 1, 0, 1, 0, 0]), .inBlock 0, .code (Code.sub (bodyOf fn_meta_CheckRelease) [1, 1, 1, 1])]
def meta_CheckRelease_S0 (x0 : Int) (x1 : Int) (x2 : (List Vm.Target)) (x3 : Int) : St := ⟨[(38, .one (dI x0)), (37, .one (dI x1)), (36, .one (.dat (Ty.list Ty.target) x2)), (2, .one (dI x3))], [], 0⟩
noncomputable def meta_CheckRelease_L1 : List It := [.inLoop [55, 54, 53, 52, 51, 50, 49, 48, 47, 46, 45, 44, 43, 3, 4, 42, 41, 40, 39, 38, 37, 36, 2] (Code.sub (bodyOf fn_meta_CheckRelease) [1, 1, 1, 0, 1, 0, 0, 1, 1, 0, 0, 1, 1, 0, 0]), .inBlock 2, .inBlock 1, .code (Code.sub (bodyOf fn_meta_CheckRelease) [1, 1, 1, 0, 1, 0, 0, 1, 1, 1]), .inLoop [38, 37, 36, 2] (Code.sub (bodyOf fn_meta_CheckRelease) [1, 1, 1, 0, 1, 0, 0]), .inBlock 0, .code (Code.sub (bodyOf fn_meta_CheckRelease) [1, 1, 1, 1])]
def meta_CheckRelease_S1 (x0 : Int) (x1 : Int) (x2 : Int) (x3 : Int) (x4 : Int) (x5 : Int) (x6 : Int) (x7 : Int) (x8 : Int) (x9 : Int) (x10 : Int) (x11 : Int) (x12 : Int) (x13 : Int) (x14 : Int) (x15 : Int) (x16 : Int) (x17 : Int) (x18 : Int) (x19 : Int) (x20 : Int) (x21 : Int) (x22 : Int) (x23 : Int) (x24 : Int) (x25 : Int) (x26 : Int) (x27 : Int) (x28 : (List Vm.Target)) (x29 : Nat) (x30 : Int) (x31 : Bool) (x32 : Int) (x33 : Int) (x34 : (List Vm.Target)) (x35 : Int) (x36 : Int) (x37 : Int) (x38 : Int) : St := ⟨[(55, .one (dI x0)), (54, .agg [dI x1, dI x2, dI x3, dI x4, dI x5, dI x6, dI x7, dI x8, dI x9]), (53, .agg [dI x10, dI x11, dI x12]), (52, .one (dI x13)), (51, .one (.ptr 0 2)), (50, .agg [dI x14, dI x15, dI x16]), (49, .one (dI x17)), (48, .one (.ptr 0 1)), (47, .agg [dI x18, dI x19, dI x20]), (46, .one (dI x21)), (45, .one (dI x22)), (44, .one (dI x23)), (43, .one (.ptr 0 0)), (3, .one (dI x24)), (4, .one (.ptr 0 0)), (42, .agg [dI x25, dI x26, dI x27]), (41, .one (.eptr Ty.target x28 x29 0)), (40, .one (dI x30)), (39, .one (dB x31)), (38, .one (dI x32)), (37, .one (dI x33)), (36, .one (.dat (Ty.list Ty.target) x34)), (2, .one (dI x35))], [(0, .box [dI x36, dI x37, dI x38])], 1⟩
theorem meta_CheckRelease_vc (v : Int) (u : Int) (ts : List Vm.Target) (rec : RK) (K : KK) : segD Γ_meta_CheckRelease tab fn_meta_CheckRelease 0 K rec [.code (bodyOf fn_meta_CheckRelease)] (initSt [.agg [dI v, dI u, .dat (Ty.list Ty.target) ts]] []) = (
 br (lti v (1 : Int))
 (K (.one (dI (3 : Int))) [])
 (br (lti (1000 : Int) v)
 (K (.one (dI (3 : Int))) [])
 (br (lti u (0 : Int))
 (K (.one (dI (3 : Int))) [])
 (br (lti (100000 : Int) u)
 (K (.one (dI (3 : Int))) [])
 (br (eqi (((len ts) : Nat) : Int) (0 : Int))
 (K (.one (dI (2 : Int))) [])
 (br (lti (4 : Int) (((len ts) : Nat) : Int))
 (K (.one (dI (2 : Int))) [])
 (rec meta_CheckRelease_L0 (meta_CheckRelease_S0 (0 : Int) (((len ts) : Nat) : Int) ts (0 : Int))))))))) := by kernel_rfl
theorem meta_CheckRelease_w (m : Nat) (K : KK) (st : St) : goD Γ_meta_CheckRelease tab fn_meta_CheckRelease 0 K (m + 1) [.code (bodyOf fn_meta_CheckRelease)] st = segD Γ_meta_CheckRelease tab fn_meta_CheckRelease 0 K (goD Γ_meta_CheckRelease tab fn_meta_CheckRelease 0 K m) [.code (bodyOf fn_meta_CheckRelease)] st := rfl
theorem meta_CheckRelease_vc0 (x0 : Int) (x1 : Int) (x2 : (List Vm.Target)) (x3 : Int) (rec : RK) (K : KK) : segD Γ_meta_CheckRelease tab fn_meta_CheckRelease 0 K rec (.code (Code.sub (bodyOf fn_meta_CheckRelease) [1, 1, 1, 0, 1, 0, 0]) :: meta_CheckRelease_L0) (meta_CheckRelease_S0 x0 x1 x2 x3) = (
 br (lti x0 x1)
 ((((0 : Int) ≤ x0) ∧ (x0 < (((len x2) : Nat) : Int))) ∧
 (rec meta_CheckRelease_L1 (meta_CheckRelease_S1 (0 : Int) ((nth x2 (Int.toNat x0) (Ty.dflt Ty.target))).unit x0 x0 ((nth x2 (Int.toNat x0) (Ty.dflt Ty.target))).image (1 : Int) (60 : Int) ((nth x2 (Int.toNat x0) (Ty.dflt Ty.target))).long (1 : Int) (40 : Int) ((nth x2 (Int.toNat x0) (Ty.dflt Ty.target))).long (1 : Int) (40 : Int) ((nth x2 (Int.toNat x0) (Ty.dflt Ty.target))).long ((nth x2 (Int.toNat x0) (Ty.dflt Ty.target))).image (1 : Int) (60 : Int) ((nth x2 (Int.toNat x0) (Ty.dflt Ty.target))).image ((nth x2 (Int.toNat x0) (Ty.dflt Ty.target))).unit x0 x0 x0 x0 ((nth x2 (Int.toNat x0) (Ty.dflt Ty.target))).unit x0 ((nth x2 (Int.toNat x0) (Ty.dflt Ty.target))).unit ((nth x2 (Int.toNat x0) (Ty.dflt Ty.target))).image ((nth x2 (Int.toNat x0) (Ty.dflt Ty.target))).long x2 (Int.toNat x0) x0 (lti x0 x1) x0 x1 x2 x3 ((nth x2 (Int.toNat x0) (Ty.dflt Ty.target))).unit ((nth x2 (Int.toNat x0) (Ty.dflt Ty.target))).image ((nth x2 (Int.toNat x0) (Ty.dflt Ty.target))).long)))
 (K (.one (dI (0 : Int))) [])) := by kernel_rfl
theorem meta_CheckRelease_w0 (m : Nat) (K : KK) (st : St) : goD Γ_meta_CheckRelease tab fn_meta_CheckRelease 0 K (m + 1) meta_CheckRelease_L0 st = segD Γ_meta_CheckRelease tab fn_meta_CheckRelease 0 K (goD Γ_meta_CheckRelease tab fn_meta_CheckRelease 0 K m) (.code (Code.sub (bodyOf fn_meta_CheckRelease) [1, 1, 1, 0, 1, 0, 0]) :: meta_CheckRelease_L0) st := rfl
theorem meta_CheckRelease_vc1_0 (x1 : Int) (x2 : Int) (x3 : Int) (x4 : Int) (x5 : Int) (x6 : Int) (x7 : Int) (x8 : Int) (x9 : Int) (x10 : Int) (x11 : Int) (x12 : Int) (x13 : Int) (x14 : Int) (x15 : Int) (x16 : Int) (x17 : Int) (x18 : Int) (x19 : Int) (x20 : Int) (x21 : Int) (x22 : Int) (x23 : Int) (x24 : Int) (x25 : Int) (x26 : Int) (x27 : Int) (x28 : (List Vm.Target)) (x29 : Nat) (x30 : Int) (x31 : Bool) (x32 : Int) (x33 : Int) (x34 : (List Vm.Target)) (x35 : Int) (x36 : Int) (x37 : Int) (x38 : Int) (rec : RK) (K : KK) : segD Γ_meta_CheckRelease tab fn_meta_CheckRelease 0 K rec (.code (Code.sub (bodyOf fn_meta_CheckRelease) [1, 1, 1, 0, 1, 0, 0, 1, 1, 0, 0, 1, 1, 0, 0]) :: meta_CheckRelease_L1) (meta_CheckRelease_S1 (0 : Int) x1 x2 x3 x4 x5 x6 x7 x8 x9 x10 x11 x12 x13 x14 x15 x16 x17 x18 x19 x20 x21 x22 x23 x24 x25 x26 x27 x28 x29 x30 x31 x32 x33 x34 x35 x36 x37 x38) = (
 (((0 : Int) ≤ (0 : Int)) ∧ ((0 : Int) < ((3 : Nat) : Int))) ∧
 ((((0 : Int) ≤ (0 : Int)) ∧ ((0 : Int) < ((3 : Nat) : Int))) ∧
 ((((0 : Int) ≤ (1 : Int)) ∧ ((1 : Int) < ((3 : Nat) : Int))) ∧
 (br (lti x1 x2)
 (K (.one (dI (3 : Int))) [])
 ((((0 : Int) ≤ (0 : Int)) ∧ ((0 : Int) < ((3 : Nat) : Int))) ∧
 ((((0 : Int) ≤ (2 : Int)) ∧ ((2 : Int) < ((3 : Nat) : Int))) ∧
 (br (lti x3 x1)
 (K (.one (dI (3 : Int))) [])
 (rec meta_CheckRelease_L1 (meta_CheckRelease_S1 (w64 ((0 : Int) + (1 : Int))) x1 x2 x3 x4 x5 x6 x7 x8 x9 x10 x11 x12 x13 x14 x15 x16 x17 x18 x19 x20 x21 x22 x23 x24 x25 x26 x27 x28 x29 x30 x31 x32 x33 x34 x35 x36 x37 x38))))))))) := by kernel_rfl
theorem meta_CheckRelease_vc1_1 (x1 : Int) (x2 : Int) (x3 : Int) (x4 : Int) (x5 : Int) (x6 : Int) (x7 : Int) (x8 : Int) (x9 : Int) (x10 : Int) (x11 : Int) (x12 : Int) (x13 : Int) (x14 : Int) (x15 : Int) (x16 : Int) (x17 : Int) (x18 : Int) (x19 : Int) (x20 : Int) (x21 : Int) (x22 : Int) (x23 : Int) (x24 : Int) (x25 : Int) (x26 : Int) (x27 : Int) (x28 : (List Vm.Target)) (x29 : Nat) (x30 : Int) (x31 : Bool) (x32 : Int) (x33 : Int) (x34 : (List Vm.Target)) (x35 : Int) (x36 : Int) (x37 : Int) (x38 : Int) (rec : RK) (K : KK) : segD Γ_meta_CheckRelease tab fn_meta_CheckRelease 0 K rec (.code (Code.sub (bodyOf fn_meta_CheckRelease) [1, 1, 1, 0, 1, 0, 0, 1, 1, 0, 0, 1, 1, 0, 0]) :: meta_CheckRelease_L1) (meta_CheckRelease_S1 (1 : Int) x1 x2 x3 x4 x5 x6 x7 x8 x9 x10 x11 x12 x13 x14 x15 x16 x17 x18 x19 x20 x21 x22 x23 x24 x25 x26 x27 x28 x29 x30 x31 x32 x33 x34 x35 x36 x37 x38) = (
 (((0 : Int) ≤ (1 : Int)) ∧ ((1 : Int) < ((3 : Nat) : Int))) ∧
 ((((0 : Int) ≤ (0 : Int)) ∧ ((0 : Int) < ((3 : Nat) : Int))) ∧
 ((((0 : Int) ≤ (1 : Int)) ∧ ((1 : Int) < ((3 : Nat) : Int))) ∧
 (br (lti x4 x5)
 (K (.one (dI (3 : Int))) [])
 ((((0 : Int) ≤ (0 : Int)) ∧ ((0 : Int) < ((3 : Nat) : Int))) ∧
 ((((0 : Int) ≤ (2 : Int)) ∧ ((2 : Int) < ((3 : Nat) : Int))) ∧
 (br (lti x6 x4)
 (K (.one (dI (3 : Int))) [])
 (rec meta_CheckRelease_L1 (meta_CheckRelease_S1 (w64 ((1 : Int) + (1 : Int))) x1 x2 x3 x4 x5 x6 x7 x8 x9 x10 x11 x12 x13 x14 x15 x16 x17 x18 x19 x20 x21 x22 x23 x24 x25 x26 x27 x28 x29 x30 x31 x32 x33 x34 x35 x36 x37 x38))))))))) := by kernel_rfl
theorem meta_CheckRelease_vc1_2 (x1 : Int) (x2 : Int) (x3 : Int) (x4 : Int) (x5 : Int) (x6 : Int) (x7 : Int) (x8 : Int) (x9 : Int) (x10 : Int) (x11 : Int) (x12 : Int) (x13 : Int) (x14 : Int) (x15 : Int) (x16 : Int) (x17 : Int) (x18 : Int) (x19 : Int) (x20 : Int) (x21 : Int) (x22 : Int) (x23 : Int) (x24 : Int) (x25 : Int) (x26 : Int) (x27 : Int) (x28 : (List Vm.Target)) (x29 : Nat) (x30 : Int) (x31 : Bool) (x32 : Int) (x33 : Int) (x34 : (List Vm.Target)) (x35 : Int) (x36 : Int) (x37 : Int) (x38 : Int) (rec : RK) (K : KK) : segD Γ_meta_CheckRelease tab fn_meta_CheckRelease 0 K rec (.code (Code.sub (bodyOf fn_meta_CheckRelease) [1, 1, 1, 0, 1, 0, 0, 1, 1, 0, 0, 1, 1, 0, 0]) :: meta_CheckRelease_L1) (meta_CheckRelease_S1 (2 : Int) x1 x2 x3 x4 x5 x6 x7 x8 x9 x10 x11 x12 x13 x14 x15 x16 x17 x18 x19 x20 x21 x22 x23 x24 x25 x26 x27 x28 x29 x30 x31 x32 x33 x34 x35 x36 x37 x38) = (
 (((0 : Int) ≤ (2 : Int)) ∧ ((2 : Int) < ((3 : Nat) : Int))) ∧
 ((((0 : Int) ≤ (0 : Int)) ∧ ((0 : Int) < ((3 : Nat) : Int))) ∧
 ((((0 : Int) ≤ (1 : Int)) ∧ ((1 : Int) < ((3 : Nat) : Int))) ∧
 (br (lti x7 x8)
 (K (.one (dI (3 : Int))) [])
 ((((0 : Int) ≤ (0 : Int)) ∧ ((0 : Int) < ((3 : Nat) : Int))) ∧
 ((((0 : Int) ≤ (2 : Int)) ∧ ((2 : Int) < ((3 : Nat) : Int))) ∧
 (br (lti x9 x7)
 (K (.one (dI (3 : Int))) [])
 (rec meta_CheckRelease_L1 (meta_CheckRelease_S1 (w64 ((2 : Int) + (1 : Int))) x1 x2 x3 x4 x5 x6 x7 x8 x9 x10 x11 x12 x13 x14 x15 x16 x17 x18 x19 x20 x21 x22 x23 x24 x25 x26 x27 x28 x29 x30 x31 x32 x33 x34 x35 x36 x37 x38))))))))) := by kernel_rfl
theorem meta_CheckRelease_vc1_3 (x1 : Int) (x2 : Int) (x3 : Int) (x4 : Int) (x5 : Int) (x6 : Int) (x7 : Int) (x8 : Int) (x9 : Int) (x10 : Int) (x11 : Int) (x12 : Int) (x13 : Int) (x14 : Int) (x15 : Int) (x16 : Int) (x17 : Int) (x18 : Int) (x19 : Int) (x20 : Int) (x21 : Int) (x22 : Int) (x23 : Int) (x24 : Int) (x25 : Int) (x26 : Int) (x27 : Int) (x28 : (List Vm.Target)) (x29 : Nat) (x30 : Int) (x31 : Bool) (x32 : Int) (x33 : Int) (x34 : (List Vm.Target)) (x35 : Int) (x36 : Int) (x37 : Int) (x38 : Int) (rec : RK) (K : KK) : segD Γ_meta_CheckRelease tab fn_meta_CheckRelease 0 K rec (.code (Code.sub (bodyOf fn_meta_CheckRelease) [1, 1, 1, 0, 1, 0, 0, 1, 1, 0, 0, 1, 1, 0, 0]) :: meta_CheckRelease_L1) (meta_CheckRelease_S1 (3 : Int) x1 x2 x3 x4 x5 x6 x7 x8 x9 x10 x11 x12 x13 x14 x15 x16 x17 x18 x19 x20 x21 x22 x23 x24 x25 x26 x27 x28 x29 x30 x31 x32 x33 x34 x35 x36 x37 x38) = (
 rec meta_CheckRelease_L0 (meta_CheckRelease_S0 (w64 (x32 + (1 : Int))) x33 x34 x35)) := by kernel_rfl
theorem meta_CheckRelease_w1 (m : Nat) (K : KK) (st : St) : goD Γ_meta_CheckRelease tab fn_meta_CheckRelease 0 K (m + 1) meta_CheckRelease_L1 st = segD Γ_meta_CheckRelease tab fn_meta_CheckRelease 0 K (goD Γ_meta_CheckRelease tab fn_meta_CheckRelease 0 K m) (.code (Code.sub (bodyOf fn_meta_CheckRelease) [1, 1, 1, 0, 1, 0, 0, 1, 1, 0, 0, 1, 1, 0, 0]) :: meta_CheckRelease_L1) st := rfl

theorem loop_meta_CheckRelease (ts : List Vm.Target) (hl : ts.length ≤ 4) (K : KK) : ∀ (d k : Nat), k + d = ts.length → K (.one (dI (if okTargets (k : Int) (ts.drop k) then 0 else 3))) [] →
    goD Γ_meta_CheckRelease tab fn_meta_CheckRelease 0 K (5 * d + 1) meta_CheckRelease_L0 (meta_CheckRelease_S0 (k : Int) (((len ts) : Nat) : Int) ts 0)
  | 0, k, hk, hK => by
    rw [show 5 * 0 + 1 = 0 + 1 by omega, meta_CheckRelease_w0, meta_CheckRelease_vc0 _ _ _ _ _ _]
    rw [List.drop_of_length_le (by omega)] at hK
    exact lt_f (by simp only [len]; omega) hK
  | d + 1, k, hk, hK => by
    rw [show 5 * (d + 1) + 1 = (5 * d + 1 + 1 + 1 + 1 + 1) + 1 by omega, meta_CheckRelease_w0, meta_CheckRelease_vc0 _ _ _ _ _ _, toNat_nat]
    rw [drop_step (by omega) (Ty.dflt Ty.target)] at hK
    obtain ⟨x, hx⟩ : ∃ x, nth ts k (Ty.dflt Ty.target) = x := ⟨_, rfl⟩
    rw [hx] at hK ⊢
    have three : okTarget (k : Int) x = false → K (.one (dI 3)) [] := fun h => by rw [show okTargets (k : Int) (x :: ts.drop (k + 1)) = false from by simp [okTargets, h]] at hK; exact hK
    have hot : okTarget (k : Int) x = true ↔ (x.unit = k ∧ 1 ≤ x.image ∧ x.image ≤ 60 ∧ 1 ≤ x.long ∧ x.long ≤ 40) := by
      simp only [okTarget, Bool.and_eq_true, decide_eq_true_eq]; omega
    have bad : ¬ (x.unit = k ∧ 1 ≤ x.image ∧ x.image ≤ 60 ∧ 1 ≤ x.long ∧ x.long ≤ 40) → K (.one (dI 3)) [] := fun h => three (by
      cases hc : okTarget (k : Int) x
      · rfl
      · exact absurd (hot.1 hc) h)
    refine lt_t (by simp only [len]; omega) ⟨⟨by omega, by simp only [len]; omega⟩, ?_⟩
    rw [meta_CheckRelease_w1, meta_CheckRelease_vc1_0 _ _ _ _ _ _ _ _ _ _ _ _ _ _ _ _ _ _ _ _ _ _ _ _ _ _ _ _ _ _ _ _ _ _ _ _ _ _ _ _]
    refine ⟨by omega, by omega, by omega, lt_s (fun h => bad (by omega)) (fun h => ⟨by omega, by omega, lt_s (fun h2 => bad (by omega)) (fun h2 => ?_)⟩)⟩
    rw [show w64 ((0 : Int) + 1) = 1 from w64_id (by omega) (by omega), meta_CheckRelease_w1, meta_CheckRelease_vc1_1 _ _ _ _ _ _ _ _ _ _ _ _ _ _ _ _ _ _ _ _ _ _ _ _ _ _ _ _ _ _ _ _ _ _ _ _ _ _ _ _]
    refine ⟨by omega, by omega, by omega, lt_s (fun h3 => bad (by omega)) (fun h3 => ⟨by omega, by omega, lt_s (fun h4 => bad (by omega)) (fun h4 => ?_)⟩)⟩
    rw [show w64 ((1 : Int) + 1) = 2 from w64_id (by omega) (by omega), meta_CheckRelease_w1, meta_CheckRelease_vc1_2 _ _ _ _ _ _ _ _ _ _ _ _ _ _ _ _ _ _ _ _ _ _ _ _ _ _ _ _ _ _ _ _ _ _ _ _ _ _ _ _]
    refine ⟨by omega, by omega, by omega, lt_s (fun h5 => bad (by omega)) (fun h5 => ⟨by omega, by omega, lt_s (fun h6 => bad (by omega)) (fun h6 => ?_)⟩)⟩
    rw [show w64 ((2 : Int) + 1) = 3 from w64_id (by omega) (by omega), meta_CheckRelease_w1, meta_CheckRelease_vc1_3 _ _ _ _ _ _ _ _ _ _ _ _ _ _ _ _ _ _ _ _ _ _ _ _ _ _ _ _ _ _ _ _ _ _ _ _ _ _ _ _, w64_succ (by omega)]
    rw [show okTargets (k : Int) (x :: ts.drop (k + 1)) = okTargets ((k : Int) + 1) (ts.drop (k + 1)) from by simp only [okTargets, hot.2 (show _ by omega), Bool.true_and]] at hK
    exact loop_meta_CheckRelease ts hl K d (k + 1) (by omega) (by rw [show ((k + 1 : Nat) : Int) = (k : Int) + 1 by omega]; exact hK)
set_option maxHeartbeats 4000000 in
theorem run_meta_CheckRelease (v u : Int) (ts : List Vm.Target) (K : KK) (hK : K (.one (dI (checkRelease v u ts))) []) : ∃ m, goD Γ_meta_CheckRelease tab fn_meta_CheckRelease 0 K m [.code (bodyOf fn_meta_CheckRelease)] (initSt [.agg [dI v, dI u, .dat (.list .target) ts]] []) := by
  refine ⟨5 * ts.length + 1 + 1, ?_⟩
  rw [meta_CheckRelease_w, meta_CheckRelease_vc _ _ _ _ _]
  unfold checkRelease at hK
  refine lt_s (fun h => ?_) (fun h => lt_s (fun h2 => ?_) (fun h2 => lt_s (fun h3 => ?_) (fun h3 => lt_s (fun h4 => ?_) (fun h4 => eq_s (fun h5 => ?_) (fun h5 => lt_s (fun h6 => ?_) (fun h6 => ?_))))))
  · rw [if_pos (by omega)] at hK; exact hK
  · rw [if_pos (by omega)] at hK; exact hK
  · rw [if_pos (by omega)] at hK; exact hK
  · rw [if_pos (by omega)] at hK; exact hK
  · rw [if_neg (by omega), if_pos (by simp only [len] at h5; omega)] at hK; exact hK
  · rw [if_neg (by omega), if_pos (by simp only [len] at h6; omega)] at hK; exact hK
  · rw [if_neg (by omega), if_neg (by simp only [len] at h5 h6; omega)] at hK
    exact loop_meta_CheckRelease ts (by simp only [len] at h6; omega) K ts.length 0 (by omega) hK
theorem sound_meta_CheckRelease : SoundC Tryd.prog tab n_meta_CheckRelease c_meta_CheckRelease := soundC_of ok_meta_CheckRelease hf_meta_CheckRelease hB_meta_CheckRelease (by
  intro vs bs p v bs' h hp
  unfold c_meta_CheckRelease at h
  split at h
  · cases h
    exact ⟨by kernel_rfl, rfl, .inl (run_meta_CheckRelease _ _ _ _ ⟨rfl, rfl⟩)⟩
  · cases h)

def c_meta_ReleaseText : Contract := fun vs bs => match vs, bs with
  | [.agg [.dat .int v, .dat .int u, .dat (.list .target) ts]], [] => some (none, .tup [.one (.dat .str (releaseTextE v u ts).1), .one (.dat .int (releaseTextE v u ts).2)], [])
  | _, _ => none
def Γ_meta_ReleaseText : Ctx := [(n_meta_CheckRelease, c_meta_CheckRelease), (n_strconv_Itoa, c_strconv_Itoa), (n_meta_list, c_meta_list)]
theorem ok_meta_ReleaseText : Ok Tryd.prog tab Γ_meta_ReleaseText := (((ok_nil.consC hf_meta_list hB_meta_list sound_meta_list).consC hf_strconv_Itoa hB_strconv_Itoa sound_strconv_Itoa).consC hf_meta_CheckRelease hB_meta_CheckRelease sound_meta_CheckRelease)
noncomputable def meta_ReleaseText_L0 : List It := [.inLoop [25, 24, 23, 5, 3, 2] (Code.sub (bodyOf fn_meta_ReleaseText) [1, 1, 1, 0, 1, 0, 0]), .inBlock 0, .code (Code.sub (bodyOf fn_meta_ReleaseText) [1, 1, 1, 1])]
def meta_ReleaseText_S0 (x0 : Int) (x1 : Int) (x2 : (List Vm.Target)) (x3 : (List UInt8)) (x4 : Int) (x5 : (List UInt8)) : St := ⟨[(25, .one (dI x0)), (24, .one (dI x1)), (23, .one (.dat (Ty.list Ty.target) x2)), (5, .one (.dat Ty.str x3)), (3, .one (dI x4)), (2, .one (.dat Ty.str x5))], [], 0⟩
theorem meta_ReleaseText_vc (v : Int) (u : Int) (ts : List Vm.Target) (rec : RK) (K : KK) v0 (hv0 : v0 = (checkRelease v u ts)) v1 (hv1 : v1 = (numT v)) v2 (hv2 : v2 = (numT u)) : segD Γ_meta_ReleaseText tab fn_meta_ReleaseText 0 K rec [.code (bodyOf fn_meta_ReleaseText)] (initSt [.agg [dI v, dI u, .dat (Ty.list Ty.target) ts]] []) = (
 br (!(eqi v0 (0 : Int)))
 (K (.tup [.one (.dat Ty.str []), .one (dI v0)]) [])
 ((((0 : Int) ≤ v) ∧ (v ≤ (9223372036854775807 : Int))) ∧
 ((((len ((114 : UInt8) :: ((101 : UInt8) :: ((108 : UInt8) :: ((101 : UInt8) :: ((97 : UInt8) :: ((115 : UInt8) :: ((101 : UInt8) :: ((32 : UInt8) :: []))))))))) + (len v1)) ≤ 140737488355328) ∧
 ((((len (cat ((114 : UInt8) :: ((101 : UInt8) :: ((108 : UInt8) :: ((101 : UInt8) :: ((97 : UInt8) :: ((115 : UInt8) :: ((101 : UInt8) :: ((32 : UInt8) :: [])))))))) v1)) + (len ((32 : UInt8) :: ((117 : UInt8) :: ((110 : UInt8) :: ((116 : UInt8) :: ((105 : UInt8) :: ((108 : UInt8) :: ((32 : UInt8) :: []))))))))) ≤ 140737488355328) ∧
 ((((0 : Int) ≤ u) ∧ (u ≤ (9223372036854775807 : Int))) ∧
 ((((len (cat (cat ((114 : UInt8) :: ((101 : UInt8) :: ((108 : UInt8) :: ((101 : UInt8) :: ((97 : UInt8) :: ((115 : UInt8) :: ((101 : UInt8) :: ((32 : UInt8) :: [])))))))) v1) ((32 : UInt8) :: ((117 : UInt8) :: ((110 : UInt8) :: ((116 : UInt8) :: ((105 : UInt8) :: ((108 : UInt8) :: ((32 : UInt8) :: []))))))))) + (len v2)) ≤ 140737488355328) ∧
 (rec meta_ReleaseText_L0 (meta_ReleaseText_S0 (0 : Int) (((len ts) : Nat) : Int) ts (cat (cat (cat ((114 : UInt8) :: ((101 : UInt8) :: ((108 : UInt8) :: ((101 : UInt8) :: ((97 : UInt8) :: ((115 : UInt8) :: ((101 : UInt8) :: ((32 : UInt8) :: [])))))))) v1) ((32 : UInt8) :: ((117 : UInt8) :: ((110 : UInt8) :: ((116 : UInt8) :: ((105 : UInt8) :: ((108 : UInt8) :: ((32 : UInt8) :: [])))))))) v2) (0 : Int) [])))))))) := by subst_vars; kernel_rfl
theorem meta_ReleaseText_w (m : Nat) (K : KK) (st : St) : goD Γ_meta_ReleaseText tab fn_meta_ReleaseText 0 K (m + 1) [.code (bodyOf fn_meta_ReleaseText)] st = segD Γ_meta_ReleaseText tab fn_meta_ReleaseText 0 K (goD Γ_meta_ReleaseText tab fn_meta_ReleaseText 0 K m) [.code (bodyOf fn_meta_ReleaseText)] st := rfl
theorem meta_ReleaseText_vc0 (x0 : Int) (x1 : Int) (x2 : (List Vm.Target)) (x3 : (List UInt8)) (x4 : Int) (x5 : (List UInt8)) (rec : RK) (K : KK) v0 (hv0 : v0 = (nums (((nth x2 (Int.toNat x0) (Ty.dflt Ty.target))).unit :: (((nth x2 (Int.toNat x0) (Ty.dflt Ty.target))).image :: (((nth x2 (Int.toNat x0) (Ty.dflt Ty.target))).long :: []))))) v1 (hv1 : v1 = (listT (((nth x2 (Int.toNat x0) (Ty.dflt Ty.target))).unit :: (((nth x2 (Int.toNat x0) (Ty.dflt Ty.target))).image :: (((nth x2 (Int.toNat x0) (Ty.dflt Ty.target))).long :: []))))) : segD Γ_meta_ReleaseText tab fn_meta_ReleaseText 0 K rec (.code (Code.sub (bodyOf fn_meta_ReleaseText) [1, 1, 1, 0, 1, 0, 0]) :: meta_ReleaseText_L0) (meta_ReleaseText_S0 x0 x1 x2 x3 x4 x5) = (
 br (lti x0 x1)
 ((((0 : Int) ≤ x0) ∧ (x0 < (((len x2) : Nat) : Int))) ∧
 ((((len (((nth x2 (Int.toNat x0) (Ty.dflt Ty.target))).unit :: (((nth x2 (Int.toNat x0) (Ty.dflt Ty.target))).image :: (((nth x2 (Int.toNat x0) (Ty.dflt Ty.target))).long :: [])))) ≤ 1000) ∧ (v0 = true)) ∧
 ((((len ((59 : UInt8) :: ((32 : UInt8) :: []))) + (len v1)) ≤ 140737488355328) ∧
 ((((len x3) + (len (cat ((59 : UInt8) :: ((32 : UInt8) :: [])) v1))) ≤ 140737488355328) ∧
 (rec meta_ReleaseText_L0 (meta_ReleaseText_S0 (w64 (x0 + (1 : Int))) x1 x2 (cat x3 (cat ((59 : UInt8) :: ((32 : UInt8) :: [])) v1)) x4 x5))))))
 (K (.tup [.one (.dat Ty.str x3), .one (dI (0 : Int))]) [])) := by subst_vars; kernel_rfl
theorem meta_ReleaseText_w0 (m : Nat) (K : KK) (st : St) : goD Γ_meta_ReleaseText tab fn_meta_ReleaseText 0 K (m + 1) meta_ReleaseText_L0 st = segD Γ_meta_ReleaseText tab fn_meta_ReleaseText 0 K (goD Γ_meta_ReleaseText tab fn_meta_ReleaseText 0 K m) (.code (Code.sub (bodyOf fn_meta_ReleaseText) [1, 1, 1, 0, 1, 0, 0]) :: meta_ReleaseText_L0) st := rfl

theorem loop_meta_ReleaseText (ts : List Vm.Target) (hl : ts.length ≤ 4) (hn : ∀ t ∈ ts, 0 ≤ t.unit ∧ t.unit ≤ 1000 ∧ 0 ≤ t.image ∧ t.image ≤ 1000 ∧ 0 ≤ t.long ∧ t.long ≤ 1000) (K : KK) (pre : List UInt8) (hp : pre.length ≤ 1000) (x4 : Int) (x5 : List UInt8) (hK : K (.tup [.one (.dat .str (pre ++ targetsT ts)), .one (dI 0)]) []) : ∀ (d k : Nat), k + d = ts.length → (targetsT (ts.take k)).length ≤ 65 * k →
    goD Γ_meta_ReleaseText tab fn_meta_ReleaseText 0 K (d + 1) meta_ReleaseText_L0 (meta_ReleaseText_S0 (k : Int) (((len ts) : Nat) : Int) ts (pre ++ targetsT (ts.take k)) x4 x5)
  | 0, k, hk, hq => by
    rw [meta_ReleaseText_w0, meta_ReleaseText_vc0 _ _ _ _ _ _ _ _ _ rfl _ rfl, List.take_of_length_le (by omega)]
    exact lt_f (by simp only [len]; omega) hK
  | d + 1, k, hk, hq => by
    have ht := take_step (l := ts) (k := k) (by omega) (Ty.dflt Ty.target)
    have hm : nth ts k (Ty.dflt Ty.target) ∈ ts := by
      have : k < ts.length := by omega
      simp [nth, List.getD_eq_getElem?_getD, this]
    have hx := hn _ hm
    have step : targetsT (ts.take (k + 1)) = targetsT (ts.take k) ++ targetT (nth ts k (Ty.dflt Ty.target)) := by rw [ht]; simp [targetsT]
    rw [meta_ReleaseText_w0, meta_ReleaseText_vc0 _ _ _ _ _ _ _ _ _ rfl _ rfl, toNat_nat]
    obtain ⟨x, hxe⟩ : ∃ x, nth ts k (Ty.dflt Ty.target) = x := ⟨_, rfl⟩
    rw [hxe] at hx step ⊢
    have l1 := listT_len [x.unit, x.image, x.long]
    simp only [List.length_cons, List.length_nil] at l1
    have el : (targetT x).length = 2 + (listT [x.unit, x.image, x.long]).length := by simp [targetT]; omega
    have ek : w64 ((k : Int) + 1) = ((k + 1 : Nat) : Int) := w64_succ (by omega)
    rw [ek]
    refine lt_t (by simp only [len]; omega) ⟨⟨by omega, by simp only [len]; omega⟩, ⟨by simp [len], ?_⟩, by simp only [len, List.length_cons, List.length_nil]; omega, by simp only [len, cat, List.length_append, List.length_cons, List.length_nil]; omega, ?_⟩
    · simp only [nums, List.all_cons, List.all_nil, Bool.and_true, Bool.and_eq_true, decide_eq_true_eq]; omega
    · have := loop_meta_ReleaseText ts hl hn K pre hp x4 x5 hK d (k + 1) (by omega) (by rw [step, List.length_append, el]; omega)
      rw [step] at this
      have e : cat (pre ++ targetsT (ts.take k)) (cat [59, 32] (listT [x.unit, x.image, x.long])) = pre ++ (targetsT (ts.take k) ++ targetT x) := by simp [cat, targetT]
      rw [← e] at this
      exact this
set_option maxHeartbeats 4000000 in
theorem run_meta_ReleaseText (v u : Int) (ts : List Vm.Target) (K : KK) (hK : K (.tup [.one (.dat .str (releaseTextE v u ts).1), .one (dI (releaseTextE v u ts).2)]) []) : ∃ m, goD Γ_meta_ReleaseText tab fn_meta_ReleaseText 0 K m [.code (bodyOf fn_meta_ReleaseText)] (initSt [.agg [dI v, dI u, .dat (.list .target) ts]] []) := by
  refine ⟨ts.length + 2, ?_⟩
  rw [meta_ReleaseText_w, meta_ReleaseText_vc _ _ _ _ _ _ rfl _ rfl _ rfl]
  unfold releaseTextE at hK
  refine ne_s (fun h => ?_) (fun h => ?_)
  · rw [if_neg h] at hK; exact hK
  rw [if_pos h] at hK
  obtain ⟨h1, h2, h3, h4, h5, h6, h7⟩ := checkRelease_ok h
  have n1 := numT_len v
  have n2 := numT_len u
  refine ⟨by omega, by simp only [len, List.length_cons, List.length_nil]; omega, by simp only [len, cat, List.length_append, List.length_cons, List.length_nil]; omega, by omega, by simp only [len, cat, List.length_append, List.length_cons, List.length_nil]; omega, ?_⟩
  have := loop_meta_ReleaseText ts h6 h7 K ([114, 101, 108, 101, 97, 115, 101, 32] ++ numT v ++ [32, 117, 110, 116, 105, 108, 32] ++ numT u) (by simp only [List.length_append, List.length_cons, List.length_nil]; omega) 0 [] hK ts.length 0 (by omega) (by simp [targetsT])
  rw [show targetsT (ts.take 0) = [] from by simp [targetsT], List.append_nil] at this
  exact this
theorem sound_meta_ReleaseText : SoundC Tryd.prog tab n_meta_ReleaseText c_meta_ReleaseText := soundC_of ok_meta_ReleaseText hf_meta_ReleaseText hB_meta_ReleaseText (by
  intro vs bs p v bs' h hp
  unfold c_meta_ReleaseText at h
  split at h
  · cases h
    exact ⟨by kernel_rfl, rfl, .inl (run_meta_ReleaseText _ _ _ _ ⟨rfl, rfl⟩)⟩
  · cases h)

def c_meta_CheckImage : Contract := fun vs bs => match vs, bs with
  | [.one (.dat (.list .int) l)], [] => some (none, .one (.dat .int (checkImage l)), [])
  | _, _ => none
def Γ_meta_CheckImage : Ctx := []
theorem ok_meta_CheckImage : Ok Tryd.prog tab Γ_meta_CheckImage := ok_nil
noncomputable def meta_CheckImage_L0 : List It := [.inLoop [15, 14, 13, 2] (Code.sub (bodyOf fn_meta_CheckImage) [1, 1, 0, 1, 0, 0]), .inBlock 0, .code (Code.sub (bodyOf fn_meta_CheckImage) [1, 1, 1])]
def meta_CheckImage_S0 (x0 : Int) (x1 : Int) (x2 : (List Int)) (x3 : Int) : St := ⟨[(15, .one (dI x0)), (14, .one (dI x1)), (13, .one (dL x2)), (2, .one (dI x3))], [], 0⟩
theorem meta_CheckImage_vc (l : List Int) (rec : RK) (K : KK) : segD Γ_meta_CheckImage tab fn_meta_CheckImage 0 K rec [.code (bodyOf fn_meta_CheckImage)] (initSt [.one (dL l)] []) = (
 br (eqi (((len l) : Nat) : Int) (0 : Int))
 (K (.one (dI (2 : Int))) [])
 (br (lti (40 : Int) (((len l) : Nat) : Int))
 (K (.one (dI (2 : Int))) [])
 (rec meta_CheckImage_L0 (meta_CheckImage_S0 (0 : Int) (((len l) : Nat) : Int) l (0 : Int))))) := by kernel_rfl
theorem meta_CheckImage_w (m : Nat) (K : KK) (st : St) : goD Γ_meta_CheckImage tab fn_meta_CheckImage 0 K (m + 1) [.code (bodyOf fn_meta_CheckImage)] st = segD Γ_meta_CheckImage tab fn_meta_CheckImage 0 K (goD Γ_meta_CheckImage tab fn_meta_CheckImage 0 K m) [.code (bodyOf fn_meta_CheckImage)] st := rfl
theorem meta_CheckImage_vc0 (x0 : Int) (x1 : Int) (x2 : (List Int)) (x3 : Int) (rec : RK) (K : KK) : segD Γ_meta_CheckImage tab fn_meta_CheckImage 0 K rec (.code (Code.sub (bodyOf fn_meta_CheckImage) [1, 1, 0, 1, 0, 0]) :: meta_CheckImage_L0) (meta_CheckImage_S0 x0 x1 x2 x3) = (
 br (lti x0 x1)
 ((((0 : Int) ≤ x0) ∧ (x0 < (((len x2) : Nat) : Int))) ∧
 (br (lti (nth x2 (Int.toNat x0) (Ty.dflt Ty.int)) (0 : Int))
 (K (.one (dI (3 : Int))) [])
 (br (lti (65535 : Int) (nth x2 (Int.toNat x0) (Ty.dflt Ty.int)))
 (K (.one (dI (3 : Int))) [])
 (rec meta_CheckImage_L0 (meta_CheckImage_S0 (w64 (x0 + (1 : Int))) x1 x2 x3)))))
 (K (.one (dI (0 : Int))) [])) := by kernel_rfl
theorem meta_CheckImage_w0 (m : Nat) (K : KK) (st : St) : goD Γ_meta_CheckImage tab fn_meta_CheckImage 0 K (m + 1) meta_CheckImage_L0 st = segD Γ_meta_CheckImage tab fn_meta_CheckImage 0 K (goD Γ_meta_CheckImage tab fn_meta_CheckImage 0 K m) (.code (Code.sub (bodyOf fn_meta_CheckImage) [1, 1, 0, 1, 0, 0]) :: meta_CheckImage_L0) st := rfl

theorem loop_meta_CheckImage (ws : List Int) (hl : ws.length ≤ 40) (K : KK) (hK : K (.one (dI (if okWords ws then 0 else 3))) []) : ∀ (d k : Nat), k + d = ws.length → okWords (ws.take k) = true →
    goD Γ_meta_CheckImage tab fn_meta_CheckImage 0 K (d + 1) meta_CheckImage_L0 (meta_CheckImage_S0 (k : Int) (((len ws) : Nat) : Int) ws (0 : Int))
  | 0, k, hk, he => by
    rw [meta_CheckImage_w0, meta_CheckImage_vc0 _ _ _ _ _ _]
    refine lt_f (by simp only [len]; omega) ?_
    rw [List.take_of_length_le (by omega)] at he
    rw [if_pos he] at hK
    exact hK
  | d + 1, k, hk, he => by
    rw [meta_CheckImage_w0, meta_CheckImage_vc0 _ _ _ _ _ _]
    have bad : okWord (nth ws k (Ty.dflt Ty.int)) = false → K (.one (dI 3)) [] := fun h => by
      rw [show okWords ws = false from all_false (k := k) (by omega) _ h] at hK; exact hK
    refine lt_t (by simp only [len]; omega) ⟨⟨by omega, by simp only [len]; omega⟩, lt_s (fun h => ?_) (fun h => lt_s (fun h2 => ?_) (fun h2 => ?_))⟩
    · rw [toNat_nat] at h
      exact bad (by simp only [okWord, Bool.and_eq_false_iff, decide_eq_false_iff_not]; exact .inl (by omega))
    · rw [toNat_nat] at h2
      exact bad (by simp only [okWord, Bool.and_eq_false_iff, decide_eq_false_iff_not]; exact .inr (by omega))
    · rw [w64_succ (by omega)]
      rw [toNat_nat] at h h2
      exact loop_meta_CheckImage ws hl K hK d (k + 1) (by omega) (all_take_step (by omega) (Ty.dflt Ty.int) he (by simp [okWord, h, h2]))
set_option maxHeartbeats 4000000 in
theorem run_meta_CheckImage (l : List Int) (K : KK) (hK : K (.one (dI (checkImage l))) []) : ∃ m, goD Γ_meta_CheckImage tab fn_meta_CheckImage 0 K m [.code (bodyOf fn_meta_CheckImage)] (initSt [.one (dL l)] []) := by
  refine ⟨l.length + 2, ?_⟩
  rw [meta_CheckImage_w, meta_CheckImage_vc _ _ _]
  unfold checkImage at hK
  refine eq_s (fun h => ?_) (fun h => lt_s (fun h2 => ?_) (fun h2 => ?_))
  · rw [if_pos (by simp only [len] at h; omega)] at hK; exact hK
  · rw [if_pos (by simp only [len] at h2; omega)] at hK; exact hK
  · rw [if_neg (by simp only [len] at h h2; omega)] at hK
    exact loop_meta_CheckImage l (by simp only [len] at h2; omega) K hK l.length 0 (by omega) rfl
theorem sound_meta_CheckImage : SoundC Tryd.prog tab n_meta_CheckImage c_meta_CheckImage := soundC_of ok_meta_CheckImage hf_meta_CheckImage hB_meta_CheckImage (by
  intro vs bs p v bs' h hp
  unfold c_meta_CheckImage at h
  split at h
  · cases h
    exact ⟨by kernel_rfl, rfl, .inl (run_meta_CheckImage _ _ ⟨rfl, rfl⟩)⟩
  · cases h)

def c_meta_ImageText : Contract := fun vs bs => match vs, bs with
  | [.one (.dat (.list .int) l)], [] => some (none, .tup [.one (.dat .str (imageTextE l).1), .one (.dat .int (imageTextE l).2)], [])
  | _, _ => none
def Γ_meta_ImageText : Ctx := [(n_meta_CheckImage, c_meta_CheckImage), (n_meta_list, c_meta_list)]
theorem ok_meta_ImageText : Ok Tryd.prog tab Γ_meta_ImageText := ((ok_nil.consC hf_meta_list hB_meta_list sound_meta_list).consC hf_meta_CheckImage hB_meta_CheckImage sound_meta_CheckImage)
theorem meta_ImageText_vc (l : List Int) (rec : RK) (K : KK) v0 (hv0 : v0 = (checkImage l)) v1 (hv1 : v1 = (nums l)) v2 (hv2 : v2 = (listT l)) : segD Γ_meta_ImageText tab fn_meta_ImageText 0 K rec [.code (bodyOf fn_meta_ImageText)] (initSt [.one (dL l)] []) = (
 br (!(eqi v0 (0 : Int)))
 (K (.tup [.one (.dat Ty.str []), .one (dI v0)]) [])
 ((((len l) ≤ 1000) ∧ (v1 = true)) ∧
 ((((len ((105 : UInt8) :: ((109 : UInt8) :: ((97 : UInt8) :: ((103 : UInt8) :: ((101 : UInt8) :: ((32 : UInt8) :: []))))))) + (len v2)) ≤ 140737488355328) ∧
 (K (.tup [.one (.dat Ty.str (cat ((105 : UInt8) :: ((109 : UInt8) :: ((97 : UInt8) :: ((103 : UInt8) :: ((101 : UInt8) :: ((32 : UInt8) :: [])))))) v2)), .one (dI (0 : Int))]) [])))) := by subst_vars; kernel_rfl
theorem meta_ImageText_w (m : Nat) (K : KK) (st : St) : goD Γ_meta_ImageText tab fn_meta_ImageText 0 K (m + 1) [.code (bodyOf fn_meta_ImageText)] st = segD Γ_meta_ImageText tab fn_meta_ImageText 0 K (goD Γ_meta_ImageText tab fn_meta_ImageText 0 K m) [.code (bodyOf fn_meta_ImageText)] st := rfl

set_option maxHeartbeats 4000000 in
theorem run_meta_ImageText (l : List Int) (K : KK) (hK : K (.tup [.one (.dat .str (imageTextE l).1), .one (dI (imageTextE l).2)]) []) : ∃ m, goD Γ_meta_ImageText tab fn_meta_ImageText 0 K m [.code (bodyOf fn_meta_ImageText)] (initSt [.one (dL l)] []) := by
  refine ⟨1, ?_⟩
  rw [meta_ImageText_w, meta_ImageText_vc _ _ _ _ rfl _ rfl _ rfl]
  unfold imageTextE at hK
  refine ne_s (fun h => ?_) (fun h => ?_)
  · rw [if_neg h] at hK; exact hK
  rw [if_pos h] at hK
  obtain ⟨h1, h2, h3⟩ := checkImage_ok h
  have n3 := listT_len l
  exact ⟨⟨by simp only [len]; omega, nums_of_words h3⟩, by simp only [len, List.length_cons, List.length_nil]; omega, hK⟩
theorem sound_meta_ImageText : SoundC Tryd.prog tab n_meta_ImageText c_meta_ImageText := soundC_of ok_meta_ImageText hf_meta_ImageText hB_meta_ImageText (by
  intro vs bs p v bs' h hp
  unfold c_meta_ImageText at h
  split at h
  · cases h
    exact ⟨by kernel_rfl, rfl, .inl (run_meta_ImageText _ _ ⟨rfl, rfl⟩)⟩
  · cases h)

def c_meta_ImageName : Contract := fun vs bs => match vs, bs with
  | [.agg [.dat (.list .str) l], .one (.dat (.list .int) ws)], [] => some (some (l.length ≤ 140737488355328), .tup [.one (.dat .int (imageName l ws).1), .one (.dat .int (imageName l ws).2)], [])
  | _, _ => none
def Γ_meta_ImageName : Ctx := [(n_meta_ImageText, c_meta_ImageText), (n_meta_Name, c_meta_Name)]
theorem ok_meta_ImageName : Ok Tryd.prog tab Γ_meta_ImageName := ((ok_nil.consC hf_meta_Name hB_meta_Name sound_meta_Name).consC hf_meta_ImageText hB_meta_ImageText sound_meta_ImageText)
theorem meta_ImageName_vc (l : List (List UInt8)) (ws : List Int) (rec : RK) (K : KK) v0 (hv0 : v0 = (imageTextE ws)) v1 (hv1 : v1 = (nameB l v0.fst)) : segD Γ_meta_ImageName tab fn_meta_ImageName 0 K rec [.code (bodyOf fn_meta_ImageName)] (initSt [.agg [.dat (Ty.list Ty.str) l], .one (dL ws)] []) = (
 br (!(eqi v0.snd (0 : Int)))
 (K (.tup [.one (dI (0 : Int)), .one (dI v0.snd)]) [])
 (((List.length l) ≤ 140737488355328) ∧
 (K (.tup [.one (dI v1.fst), .one (dI v1.snd)]) []))) := by subst_vars; kernel_rfl
theorem meta_ImageName_w (m : Nat) (K : KK) (st : St) : goD Γ_meta_ImageName tab fn_meta_ImageName 0 K (m + 1) [.code (bodyOf fn_meta_ImageName)] st = segD Γ_meta_ImageName tab fn_meta_ImageName 0 K (goD Γ_meta_ImageName tab fn_meta_ImageName 0 K m) [.code (bodyOf fn_meta_ImageName)] st := rfl

set_option maxHeartbeats 4000000 in
theorem run_meta_ImageName (l : List (List UInt8)) (ws : List Int) (hp : l.length ≤ 140737488355328) (K : KK) (hK : K (.tup [.one (dI (imageName l ws).1), .one (dI (imageName l ws).2)]) []) : ∃ m, goD Γ_meta_ImageName tab fn_meta_ImageName 0 K m [.code (bodyOf fn_meta_ImageName)] (initSt [.agg [.dat (.list .str) l], .one (dL ws)] []) := by
  refine ⟨1, ?_⟩
  rw [meta_ImageName_w, meta_ImageName_vc _ _ _ _ _ rfl _ rfl]
  unfold imageName at hK
  by_cases h : checkImage ws = 0
  · rw [if_pos h] at hK
    rw [show imageTextE ws = (imageText ws, 0) from if_pos h]
    exact ne_f rfl ⟨hp, hK⟩
  · rw [if_neg h] at hK
    rw [show imageTextE ws = ([], checkImage ws) from if_neg h]
    exact ne_t h hK
theorem sound_meta_ImageName : SoundC Tryd.prog tab n_meta_ImageName c_meta_ImageName := soundC_of ok_meta_ImageName hf_meta_ImageName hB_meta_ImageName (by
  intro vs bs p v bs' h hp
  unfold c_meta_ImageName at h
  split at h
  · cases h
    exact ⟨by kernel_rfl, rfl, .inl (run_meta_ImageName _ _ hp.1 _ ⟨rfl, rfl⟩)⟩
  · cases h)

def c_trust_Take : Contract := fun vs bs => match vs, bs with
  | [.agg [.dat (.list .str) b], .one (.dat (.list .signed) l), .agg [.dat .int v, .dat (.list .int) ks, .dat .int t, .dat .int n], .agg [.dat (.list .root) rs, .dat (.list (.list .int)) rg, .dat .int ov, .dat .int ou, .dat (.list .target) ts, .dat (.list .int) sg, .dat (.list (.list .int)) im], .one (.dat .int now), .one (.dat .int units)], [] => some (some (b.length ≤ 140737488355328), .tup [.agg [.dat .int (takeT b l ⟨⟨v, ks, t⟩, n⟩ ⟨rs, rg, ⟨ov, ou, ts⟩, sg, im⟩ now units).1.r.version, .dat (.list .int) (takeT b l ⟨⟨v, ks, t⟩, n⟩ ⟨rs, rg, ⟨ov, ou, ts⟩, sg, im⟩ now units).1.r.keys, .dat .int (takeT b l ⟨⟨v, ks, t⟩, n⟩ ⟨rs, rg, ⟨ov, ou, ts⟩, sg, im⟩ now units).1.r.thr, .dat .int (takeT b l ⟨⟨v, ks, t⟩, n⟩ ⟨rs, rg, ⟨ov, ou, ts⟩, sg, im⟩ now units).1.version], .one (.dat .int (takeT b l ⟨⟨v, ks, t⟩, n⟩ ⟨rs, rg, ⟨ov, ou, ts⟩, sg, im⟩ now units).2)], [])
  | _, _ => none
def Γ_trust_Take : Ctx := [(n_trust_CheckTrust, c_trust_CheckTrust), (n_trust_Turn, c_trust_Turn), (n_trust_Take_1, c_trust_Take_1), (n_meta_ReleaseText, c_meta_ReleaseText), (n_meta_Name, c_meta_Name), (n_trust_Count, c_trust_Count), (n_meta_ImageName, c_meta_ImageName), (n_slices_Clone_Lint, c_slices_Clone_Lint)]
theorem ok_trust_Take : Ok Tryd.prog tab Γ_trust_Take := ((((((((ok_nil.consC hf_slices_Clone_Lint hB_slices_Clone_Lint sound_slices_Clone_Lint).consC hf_meta_ImageName hB_meta_ImageName sound_meta_ImageName).consC hf_trust_Count hB_trust_Count sound_trust_Count).consC hf_meta_Name hB_meta_Name sound_meta_Name).consC hf_meta_ReleaseText hB_meta_ReleaseText sound_meta_ReleaseText).consC hf_trust_Take_1 hB_trust_Take_1 sound_trust_Take_1).consC hf_trust_Turn hB_trust_Turn sound_trust_Turn).consC hf_trust_CheckTrust hB_trust_CheckTrust sound_trust_CheckTrust)
noncomputable def trust_Take_L0 : List It := [.inLoop [57, 56, 55, 14, 13, 12, 9, 8, 6, 1, 4, 5] (Code.sub (bodyOf fn_trust_Take) [1, 1, 1, 1, 0, 1, 0, 0]), .inBlock 0, .code (Code.sub (bodyOf fn_trust_Take) [1, 1, 1, 1, 1])]
def trust_Take_S0 (x0 : Int) (x1 : Int) (x2 : (List Vm.Root)) (x3 : Int) (x4 : (List Vm.Signed)) (x5 : Int) (x6 : Int) (x7 : Int) (x8 : Int) (x9 : Int) (x10 : (List Vm.Root)) (x11 : (List (List Int))) (x12 : Int) (x13 : Int) (x14 : (List Vm.Target)) (x15 : (List Int)) (x16 : (List (List Int))) (x17 : Int) (x18 : (List Int)) (x19 : Int) (x20 : Int) (x21 : (List (List UInt8))) (x22 : (List Int)) : St := ⟨[(57, .one (dI x0)), (56, .one (dI x1)), (55, .one (.dat (Ty.list Ty.root) x2)), (14, .one (.fn n_trust_Take_1 [])), (13, .one (dI x3)), (12, .one (.ptr 0 0)), (9, .one (.ptr 1 0)), (8, .one (.ptr 2 0)), (6, .one (.ptr 3 0)), (1, .one (.dat (Ty.list Ty.signed) x4)), (4, .one (dI x5)), (5, .one (dI x6))], [(0, .box [dI x7, .own 4, dI x8, dI x9]), (1, .box [.dat (Ty.list Ty.root) x10, dR x11, dI x12, dI x13, .dat (Ty.list Ty.target) x14, dL x15, dR x16]), (2, .box [dI x17, dL x18, dI x19, dI x20]), (3, .box [.dat (Ty.list Ty.str) x21]), (4, .arr Ty.int x22)], 5⟩
noncomputable def trust_Take_L1 : List It := [.inLoop [181, 180, 179, 14, 13, 12, 9, 8, 6] (Code.sub (bodyOf fn_trust_Take) [1, 1, 1, 1, 1, 1, 1, 1, 1, 1, 1, 0, 1, 0, 0]), .inBlock 3, .code (Code.sub (bodyOf fn_trust_Take) [1, 1, 1, 1, 1, 1, 1, 1, 1, 1, 1, 1])]
def trust_Take_S1 (x0 : Int) (x1 : Int) (x2 : (List Vm.Target)) (x3 : Int) (x4 : Int) (x5 : Int) (x6 : Int) (x7 : (List Vm.Root)) (x8 : (List (List Int))) (x9 : Int) (x10 : Int) (x11 : (List Vm.Target)) (x12 : (List Int)) (x13 : (List (List Int))) (x14 : Int) (x15 : (List Int)) (x16 : Int) (x17 : Int) (x18 : (List (List UInt8))) (x19 : (List Int)) : St := ⟨[(181, .one (dI x0)), (180, .one (dI x1)), (179, .one (.dat (Ty.list Ty.target) x2)), (14, .one (.fn n_trust_Take_1 [])), (13, .one (dI x3)), (12, .one (.ptr 0 0)), (9, .one (.ptr 1 0)), (8, .one (.ptr 2 0)), (6, .one (.ptr 3 0))], [(0, .box [dI x4, .own 4, dI x5, dI x6]), (1, .box [.dat (Ty.list Ty.root) x7, dR x8, dI x9, dI x10, .dat (Ty.list Ty.target) x11, dL x12, dR x13]), (2, .box [dI x14, dL x15, dI x16, dI x17]), (3, .box [.dat (Ty.list Ty.str) x18]), (4, .arr Ty.int x19)], 5⟩
theorem trust_Take_vc (b : List (List UInt8)) (l : List Signed) (v : Int) (ks : List Int) (t : Int) (n : Int) (rs : List Root) (rg : List (List Int)) (ov : Int) (ou : Int) (ts : List Vm.Target) (sg : List Int) (im : List (List Int)) (now : Int) (units : Int) (rec : RK) (K : KK) v0 (hv0 : v0 = (checkTrust ⟨⟨v, ks, t⟩, n⟩)) v1 (hv1 : v1 = (K (.tup [.agg [dI (0 : Int), dL [], dI (0 : Int), dI (0 : Int)], .one (dI (2 : Int))]) [])) : segD Γ_trust_Take tab fn_trust_Take 0 K rec [.code (bodyOf fn_trust_Take)] (initSt [.agg [.dat (Ty.list Ty.str) b], .one (.dat (Ty.list Ty.signed) l), .agg [dI v, dL ks, dI t, dI n], .agg [.dat (Ty.list Ty.root) rs, dR rg, dI ov, dI ou, .dat (Ty.list Ty.target) ts, dL sg, dR im], .one (dI now), .one (dI units)] []) = (
 br (!(eqi v0 (0 : Int)))
 (K (.tup [.agg [dI (0 : Int), dL [], dI (0 : Int), dI (0 : Int)], .one (dI v0)]) [])
 (br (lti (6 : Int) (((len rs) : Nat) : Int))
 v1
 (br (!(eqi (((len rg) : Nat) : Int) (((len rs) : Nat) : Int)))
 v1
 (rec trust_Take_L0 (trust_Take_S0 (0 : Int) (((len rs) : Nat) : Int) rs (0 : Int) l now units (0 : Int) (0 : Int) (0 : Int) rs rg ov ou ts sg im v ks t n b []))))) := by subst_vars; kernel_rfl
theorem trust_Take_w (m : Nat) (K : KK) (st : St) : goD Γ_trust_Take tab fn_trust_Take 0 K (m + 1) [.code (bodyOf fn_trust_Take)] st = segD Γ_trust_Take tab fn_trust_Take 0 K (goD Γ_trust_Take tab fn_trust_Take 0 K m) [.code (bodyOf fn_trust_Take)] st := rfl
theorem trust_Take_vc0 (x0 : Int) (x1 : Int) (x2 : (List Vm.Root)) (x3 : Int) (x4 : (List Vm.Signed)) (x5 : Int) (x6 : Int) (x7 : Int) (x8 : Int) (x9 : Int) (x10 : (List Vm.Root)) (x11 : (List (List Int))) (x12 : Int) (x13 : Int) (x14 : (List Vm.Target)) (x15 : (List Int)) (x16 : (List (List Int))) (x17 : Int) (x18 : (List Int)) (x19 : Int) (x20 : Int) (x21 : (List (List UInt8))) (x22 : (List Int)) (rec : RK) (K : KK) v0 (hv0 : v0 = (turnT x21 x4 ⟨⟨x17, x18, x19⟩, x20⟩ ⟨((nth x2 (Int.toNat x0) (Ty.dflt Ty.root))).version, ((nth x2 (Int.toNat x0) (Ty.dflt Ty.root))).keys, ((nth x2 (Int.toNat x0) (Ty.dflt Ty.root))).thr⟩ (nth x11 (Int.toNat x0) (Ty.dflt (Ty.list Ty.int))))) v1 (hv1 : v1 = (releaseTextE x12 x13 x14)) v2 (hv2 : v2 = (nameB x21 v1.fst)) v3 (hv3 : v3 = (countT x4 ⟨x17, x18, x19⟩ x15 v2.fst)) v4 (hv4 : v4 = (K (.tup [.agg [dI (0 : Int), dL [], dI (0 : Int), dI (0 : Int)], .one (dI (4 : Int))]) [])) : segD Γ_trust_Take tab fn_trust_Take 0 K rec (.code (Code.sub (bodyOf fn_trust_Take) [1, 1, 1, 1, 0, 1, 0, 0]) :: trust_Take_L0) (trust_Take_S0 x0 x1 x2 x3 x4 x5 x6 x7 x8 x9 x10 x11 x12 x13 x14 x15 x16 x17 x18 x19 x20 x21 x22) = (
 br (lti x0 x1)
 ((((0 : Int) ≤ x0) ∧ (x0 < (((len x2) : Nat) : Int))) ∧
 ((((0 : Int) ≤ x0) ∧ (x0 < (((len x11) : Nat) : Int))) ∧
 (((List.length x21) ≤ 140737488355328) ∧
 (br (!(eqi v0.snd (0 : Int)))
 (K (.tup [.agg [dI (0 : Int), dL [], dI (0 : Int), dI (0 : Int)], .one (dI v0.snd)]) [])
 (rec trust_Take_L0 (trust_Take_S0 (w64 (x0 + (1 : Int))) x1 x2 x3 x4 x5 x6 x7 x8 x9 x10 x11 x12 x13 x14 x15 x16 v0.fst.r.version v0.fst.r.keys v0.fst.r.thr v0.fst.version x21 x22))))))
 (br (!(eqi v1.snd (0 : Int)))
 (K (.tup [.agg [dI (0 : Int), dL [], dI (0 : Int), dI (0 : Int)], .one (dI v1.snd)]) [])
 (((List.length x21) ≤ 140737488355328) ∧
 (br (!(eqi v2.snd (0 : Int)))
 (K (.tup [.agg [dI (0 : Int), dL [], dI (0 : Int), dI (0 : Int)], .one (dI v2.snd)]) [])
 (br (!(eqi v3.snd (0 : Int)))
 (K (.tup [.agg [dI (0 : Int), dL [], dI (0 : Int), dI (0 : Int)], .one (dI v3.snd)]) [])
 (br (lti v3.fst x19)
 (K (.tup [.agg [dI (0 : Int), dL [], dI (0 : Int), dI (0 : Int)], .one (dI (9 : Int))]) [])
 (br (lei x12 x20)
 (K (.tup [.agg [dI (0 : Int), dL [], dI (0 : Int), dI (0 : Int)], .one (dI (10 : Int))]) [])
 (br (lti x13 x5)
 (K (.tup [.agg [dI (0 : Int), dL [], dI (0 : Int), dI (0 : Int)], .one (dI (11 : Int))]) [])
 (br (!(eqi (((len x14) : Nat) : Int) x6))
 v4
 (br (!(eqi (((len x16) : Nat) : Int) x6))
 v4
 (rec trust_Take_L1 (trust_Take_S1 (0 : Int) (((len x14) : Nat) : Int) x14 x3 x7 x8 x9 x10 x11 x12 x13 x14 x15 x16 x17 x18 x19 x20 x21 x22)))))))))))) := by subst_vars; kernel_rfl
theorem trust_Take_w0 (m : Nat) (K : KK) (st : St) : goD Γ_trust_Take tab fn_trust_Take 0 K (m + 1) trust_Take_L0 st = segD Γ_trust_Take tab fn_trust_Take 0 K (goD Γ_trust_Take tab fn_trust_Take 0 K m) (.code (Code.sub (bodyOf fn_trust_Take) [1, 1, 1, 1, 0, 1, 0, 0]) :: trust_Take_L0) st := rfl
theorem trust_Take_vc1 (x0 : Int) (x1 : Int) (x2 : (List Vm.Target)) (x3 : Int) (x4 : Int) (x5 : Int) (x6 : Int) (x7 : (List Vm.Root)) (x8 : (List (List Int))) (x9 : Int) (x10 : Int) (x11 : (List Vm.Target)) (x12 : (List Int)) (x13 : (List (List Int))) (x14 : Int) (x15 : (List Int)) (x16 : Int) (x17 : Int) (x18 : (List (List UInt8))) (x19 : (List Int)) (rec : RK) (K : KK) v0 (hv0 : v0 = (imageName x18 (nth x13 (Int.toNat x0) (Ty.dflt (Ty.list Ty.int))))) v1 (hv1 : v1 = (K (.tup [.agg [dI (0 : Int), dL [], dI (0 : Int), dI (0 : Int)], .one (dI (5 : Int))]) [])) : segD Γ_trust_Take tab fn_trust_Take 0 K rec (.code (Code.sub (bodyOf fn_trust_Take) [1, 1, 1, 1, 1, 1, 1, 1, 1, 1, 1, 0, 1, 0, 0]) :: trust_Take_L1) (trust_Take_S1 x0 x1 x2 x3 x4 x5 x6 x7 x8 x9 x10 x11 x12 x13 x14 x15 x16 x17 x18 x19) = (
 br (lti x0 x1)
 ((((0 : Int) ≤ x0) ∧ (x0 < (((len x2) : Nat) : Int))) ∧
 ((((0 : Int) ≤ x0) ∧ (x0 < (((len x13) : Nat) : Int))) ∧
 (((List.length x18) ≤ 140737488355328) ∧
 (br (!(eqi v0.snd (0 : Int)))
 v1
 (br (!(eqi v0.fst ((nth x2 (Int.toNat x0) (Ty.dflt Ty.target))).image))
 v1
 ((((0 : Int) ≤ x0) ∧ (x0 < (((len x13) : Nat) : Int))) ∧
 (br (!(eqi (((len (nth x13 (Int.toNat x0) (Ty.dflt (Ty.list Ty.int)))) : Nat) : Int) ((nth x2 (Int.toNat x0) (Ty.dflt Ty.target))).long))
 v1
 (rec trust_Take_L1 (trust_Take_S1 (w64 (x0 + (1 : Int))) x1 x2 x3 x4 x5 x6 x7 x8 x9 x10 x11 x12 x13 x14 x15 x16 x17 x18 x19)))))))))
 ((((len x15) * 8) ≤ 140737488355328) ∧
 (K (.tup [.agg [dI x14, dL x15, dI x16, dI x9], .one (dI (0 : Int))]) []))) := by subst_vars; kernel_rfl
theorem trust_Take_w1 (m : Nat) (K : KK) (st : St) : goD Γ_trust_Take tab fn_trust_Take 0 K (m + 1) trust_Take_L1 st = segD Γ_trust_Take tab fn_trust_Take 0 K (goD Γ_trust_Take tab fn_trust_Take 0 K m) (.code (Code.sub (bodyOf fn_trust_Take) [1, 1, 1, 1, 1, 1, 1, 1, 1, 1, 1, 0, 1, 0, 0]) :: trust_Take_L1) st := rfl

theorem loop1_trust_Take (b : List (List UInt8)) (hb : b.length ≤ 140737488355328) (ts : List Vm.Target) (im : List (List Int)) (hl : ts.length ≤ 4) (hi : im.length = ts.length) (K : KK) (x3 x4 x5 x6 : Int) (rs : List Vm.Root) (rg : List (List Int)) (ov ou : Int) (sg : List Int) (v : Int) (ks : List Int) (t n : Int) (hk : ks.length ≤ 6) (x19 : List Int) : ∀ (d k : Nat), k + d = ts.length →
    (okImages b (ts.drop k) (im.drop k) = true → K (.tup [.agg [dI v, dL ks, dI t, dI ov], .one (dI 0)]) []) →
    (okImages b (ts.drop k) (im.drop k) = false → K (.tup [.agg [dI 0, dL [], dI 0, dI 0], .one (dI 5)]) []) →
    goD Γ_trust_Take tab fn_trust_Take 0 K (d + 1) trust_Take_L1 (trust_Take_S1 (k : Int) (((len ts) : Nat) : Int) ts x3 x4 x5 x6 rs rg ov ou ts sg im v ks t n b x19)
  | 0, k, hk', hT, hF => by
    rw [trust_Take_w1, trust_Take_vc1 _ _ _ _ _ _ _ _ _ _ _ _ _ _ _ _ _ _ _ _ _ _ _ rfl _ rfl]
    rw [List.drop_of_length_le (by omega)] at hT
    exact lt_f (by simp only [len]; omega) ⟨by simp only [len]; omega, hT rfl⟩
  | d + 1, k, hk', hT, hF => by
    rw [trust_Take_w1, trust_Take_vc1 _ _ _ _ _ _ _ _ _ _ _ _ _ _ _ _ _ _ _ _ _ _ _ rfl _ rfl, toNat_nat]
    rw [drop_step (l := ts) (by omega) (Ty.dflt Ty.target), drop_step (l := im) (by omega) (Ty.dflt (Ty.list Ty.int))] at hT hF
    obtain ⟨x, hx⟩ : ∃ x, nth ts k (Ty.dflt Ty.target) = x := ⟨_, rfl⟩
    obtain ⟨w, hw⟩ : ∃ w, nth im k (Ty.dflt (Ty.list Ty.int)) = w := ⟨_, rfl⟩
    rw [hx, hw] at hT hF ⊢
    simp only [okImages, List.headD_cons, List.tail_cons] at hT hF
    have five : okImage b x w = false → K (.tup [.agg [dI 0, dL [], dI 0, dI 0], .one (dI 5)]) [] := fun h => hF (by rw [h]; rfl)
    have ek : w64 ((k : Int) + 1) = ((k + 1 : Nat) : Int) := w64_succ (by omega)
    rw [ek]
    refine lt_t (by simp only [len]; omega) ⟨⟨by omega, by simp only [len]; omega⟩, ⟨by omega, by simp only [len]; omega⟩, hb, ne_s (fun h => five ?_) (fun h => ne_s (fun h2 => five ?_) (fun h2 => ⟨⟨by omega, by simp only [len]; omega⟩, ne_s (fun h3 => five ?_) (fun h3 => ?_)⟩))⟩
    · simp [okImage, h]
    · simp [okImage, h2]
    · simp only [okImage, Bool.and_eq_false_iff, decide_eq_false_iff_not]; exact .inr h3
    · have ok : okImage b x w = true := by
        simp only [okImage, Bool.and_eq_true, decide_eq_true_eq]; exact ⟨⟨h, h2⟩, h3⟩
      rw [ok] at hT hF
      exact loop1_trust_Take b hb ts im hl hi K x3 x4 x5 x6 rs rg ov ou sg v ks t n hk x19 d (k + 1) (by omega) (fun g => hT (by rw [g]; rfl)) (fun g => hF (by rw [g]; rfl))
theorem loop_trust_Take (b : List (List UInt8)) (hb : b.length ≤ 140737488355328) (l : List Vm.Signed) (rs : List Vm.Root) (rg : List (List Int)) (ov ou : Int) (ts : List Vm.Target) (sg : List Int) (im : List (List Int)) (now units : Int) (hr : rs.length ≤ 6) (hg : rg.length = rs.length) (K : KK) (x3 x7 x8 x9 : Int) (x22 : List Int) : ∀ (d k : Nat) (v : Int) (ks : List Int) (t n : Int), k + d = rs.length → ks.length ≤ 6 →
    K (.tup [.agg [dI (takeEnd b l ⟨rs, rg, ⟨ov, ou, ts⟩, sg, im⟩ now units (rootsT b l ⟨⟨v, ks, t⟩, n⟩ (rs.drop k) (rg.drop k))).1.r.version, dL (takeEnd b l ⟨rs, rg, ⟨ov, ou, ts⟩, sg, im⟩ now units (rootsT b l ⟨⟨v, ks, t⟩, n⟩ (rs.drop k) (rg.drop k))).1.r.keys, dI (takeEnd b l ⟨rs, rg, ⟨ov, ou, ts⟩, sg, im⟩ now units (rootsT b l ⟨⟨v, ks, t⟩, n⟩ (rs.drop k) (rg.drop k))).1.r.thr, dI (takeEnd b l ⟨rs, rg, ⟨ov, ou, ts⟩, sg, im⟩ now units (rootsT b l ⟨⟨v, ks, t⟩, n⟩ (rs.drop k) (rg.drop k))).1.version], .one (dI (takeEnd b l ⟨rs, rg, ⟨ov, ou, ts⟩, sg, im⟩ now units (rootsT b l ⟨⟨v, ks, t⟩, n⟩ (rs.drop k) (rg.drop k))).2)]) [] →
    goD Γ_trust_Take tab fn_trust_Take 0 K ((ts.length + 1) + d + 1) trust_Take_L0 (trust_Take_S0 (k : Int) (((len rs) : Nat) : Int) rs x3 l now units x7 x8 x9 rs rg ov ou ts sg im v ks t n b x22)
  | 0, k, v, ks, t, n, hk, hks, hK => by
    rw [trust_Take_w0, trust_Take_vc0 _ _ _ _ _ _ _ _ _ _ _ _ _ _ _ _ _ _ _ _ _ _ _ _ _ _ rfl _ rfl _ rfl _ rfl _ rfl]
    rw [List.drop_of_length_le (by omega)] at hK
    refine lt_f (by simp only [len]; omega) ?_
    have e0 : takeEnd b l ⟨rs, rg, ⟨ov, ou, ts⟩, sg, im⟩ now units (rootsT b l ⟨⟨v, ks, t⟩, n⟩ [] (rg.drop k)) = if relE b l ⟨⟨v, ks, t⟩, n⟩ ⟨rs, rg, ⟨ov, ou, ts⟩, sg, im⟩ now units = 0 then (⟨⟨v, ks, t⟩, ov⟩, 0) else (noTrust, relE b l ⟨⟨v, ks, t⟩, n⟩ ⟨rs, rg, ⟨ov, ou, ts⟩, sg, im⟩ now units) := rfl
    rw [e0] at hK
    have bad : ∀ e : Int, e ≠ 0 → relE b l ⟨⟨v, ks, t⟩, n⟩ ⟨rs, rg, ⟨ov, ou, ts⟩, sg, im⟩ now units = e → K (.tup [.agg [dI 0, dL [], dI 0, dI 0], .one (dI e)]) [] := fun e he h => by
      rw [if_neg (by rw [h]; exact he), h] at hK; exact hK
    have good : relE b l ⟨⟨v, ks, t⟩, n⟩ ⟨rs, rg, ⟨ov, ou, ts⟩, sg, im⟩ now units = 0 → K (.tup [.agg [dI v, dL ks, dI t, dI ov], .one (dI 0)]) [] := fun h => by
      rw [if_pos h] at hK; exact hK
    clear hK e0
    refine ne_s (fun h2 => ?_) (fun h2 => ⟨hb, ?_⟩)
    · unfold releaseTextE at h2 ⊢
      by_cases c : checkRelease ov ou ts = 0
      · rw [if_pos c] at h2; exact absurd rfl h2
      · rw [if_neg c]
        exact bad _ c (if_neg c)
    have c2 : checkRelease ov ou ts = 0 := by
      by_cases c : checkRelease ov ou ts = 0
      · exact c
      · unfold releaseTextE at h2; rw [if_neg c] at h2; exact h2
    rw [show releaseTextE ov ou ts = (releaseText ov ou ts, 0) from if_pos c2]
    have E2 : relE b l ⟨⟨v, ks, t⟩, n⟩ ⟨rs, rg, ⟨ov, ou, ts⟩, sg, im⟩ now units = _ := if_pos c2
    refine ne_s (fun h3 => ?_) (fun h3 => ?_)
    · unfold nameB at h3 ⊢
      by_cases c : checkBook b = 0
      · rw [if_pos c] at h3; exact absurd rfl h3
      · rw [if_neg c]
        exact bad _ c (E2.trans (if_neg c))
    have c3 : checkBook b = 0 := by
      by_cases c : checkBook b = 0
      · exact c
      · unfold nameB at h3; rw [if_neg c] at h3; exact h3
    have E3 := E2.trans (if_pos c3)
    simp only [show nameB b (releaseText ov ou ts) = (indexS (releaseText ov ou ts) b + 1, 0) from if_pos c3]
    obtain ⟨q1, q2, q3, q4, q5, q6, _⟩ := checkRelease_ok c2
    refine ne_s (fun g => ?_) (fun g => lt_s (fun g2 => ?_) (fun g2 => ?_))
    · have e : enough l ⟨v, ks, t⟩ sg (indexS (releaseText ov ou ts) b + 1) = (countT l ⟨v, ks, t⟩ sg (indexS (releaseText ov ou ts) b + 1)).2 := if_neg g
      exact bad _ g ((E3.trans (if_neg (by rw [e]; exact g))).trans e)
    · have e : enough l ⟨v, ks, t⟩ sg (indexS (releaseText ov ou ts) b + 1) = 9 := by unfold enough; rw [if_pos g, if_pos g2]
      exact bad _ (by decide) ((E3.trans (if_neg (by rw [e]; decide))).trans e)
    have e : enough l ⟨v, ks, t⟩ sg (indexS (releaseText ov ou ts) b + 1) = 0 := by unfold enough; rw [if_pos g, if_neg (by simp only; omega)]
    have E4 := E3.trans (if_pos e)
    simp only at E4
    refine br_split (fun h5 => ?_) (fun h5 => ?_)
    · rw [lei_true] at h5
      exact bad _ (by decide) (E4.trans (if_pos h5))
    rw [lei_false] at h5
    have E5 := E4.trans (if_neg (by omega))
    refine lt_s (fun h6 => bad _ (by decide) (E5.trans (if_pos h6))) (fun h6 => ?_)
    have E6 := E5.trans (if_neg (by omega))
    refine ne_s (fun h7 => bad _ (by decide) (E6.trans (if_pos (.inl h7)))) (fun h7 => ne_s (fun h8 => bad _ (by decide) (E6.trans (if_pos (.inr h8)))) (fun h8 => ?_))
    have E7 := E6.trans (if_neg (by simp only [len] at h7 h8; omega))
    exact loop1_trust_Take b hb ts im q6 (by simp only [len] at h7 h8; omega) K x3 x7 x8 x9 rs rg ov ou sg v ks t n hks x22 ts.length 0 (by omega) (fun g => good (E7.trans (if_pos g))) (fun g => bad 5 (by decide) (E7.trans (if_neg (by rw [show okImages b ts im = false from g]; simp))))
  | d + 1, k, v, ks, t, n, hk, hks, hK => by
    rw [show ts.length + 1 + (d + 1) + 1 = (ts.length + 1 + d + 1) + 1 by omega, trust_Take_w0, trust_Take_vc0 _ _ _ _ _ _ _ _ _ _ _ _ _ _ _ _ _ _ _ _ _ _ _ _ _ _ rfl _ rfl _ rfl _ rfl _ rfl, toNat_nat]
    rw [drop_step (l := rs) (by omega) (Ty.dflt Ty.root), drop_step (l := rg) (by omega) (Ty.dflt (Ty.list Ty.int))] at hK
    obtain ⟨x, hx⟩ : ∃ x, nth rs k (Ty.dflt Ty.root) = x := ⟨_, rfl⟩
    obtain ⟨w, hw⟩ : ∃ w, nth rg k (Ty.dflt (Ty.list Ty.int)) = w := ⟨_, rfl⟩
    rw [hx, hw] at hK ⊢
    have ek : w64 ((k : Int) + 1) = ((k + 1 : Nat) : Int) := w64_succ (by omega)
    rw [ek]
    have ex : (⟨x.version, x.keys, x.thr⟩ : Vm.Root) = x := rfl
    rw [ex]
    refine lt_t (by simp only [len]; omega) ⟨⟨by omega, by simp only [len]; omega⟩, ⟨by omega, by simp only [len]; omega⟩, hb, ne_s (fun h => ?_) (fun h => ?_)⟩
    · rw [show rootsT b l ⟨⟨v, ks, t⟩, n⟩ (x :: rs.drop (k + 1)) (w :: rg.drop (k + 1)) = (noTrust, (turnT b l ⟨⟨v, ks, t⟩, n⟩ x w).2) from if_neg h] at hK
      have e : takeEnd b l ⟨rs, rg, ⟨ov, ou, ts⟩, sg, im⟩ now units (noTrust, (turnT b l ⟨⟨v, ks, t⟩, n⟩ x w).2) = (noTrust, (turnT b l ⟨⟨v, ks, t⟩, n⟩ x w).2) := if_neg h
      rw [e] at hK; exact hK
    · rw [show rootsT b l ⟨⟨v, ks, t⟩, n⟩ (x :: rs.drop (k + 1)) (w :: rg.drop (k + 1)) = rootsT b l (turnT b l ⟨⟨v, ks, t⟩, n⟩ x w).1 (rs.drop (k + 1)) (rg.drop (k + 1)) from if_pos h] at hK
      obtain ⟨h1, h2⟩ := turnT_ok h
      obtain ⟨_, h3, _⟩ := turnE_ok h1
      rw [h2] at hK ⊢
      exact loop_trust_Take b hb l rs rg ov ou ts sg im now units hr hg K x3 x7 x8 x9 x22 d (k + 1) x.version x.keys x.thr n (by omega) (checkRoot_ok h3).2.2.2.2.1 hK
set_option maxHeartbeats 4000000 in
theorem run_trust_Take (b : List (List UInt8)) (l : List Vm.Signed) (v : Int) (ks : List Int) (t n : Int) (rs : List Vm.Root) (rg : List (List Int)) (ov ou : Int) (ts : List Vm.Target) (sg : List Int) (im : List (List Int)) (now units : Int) (hp : b.length ≤ 140737488355328) (K : KK) (hK : K (.tup [.agg [dI (takeT b l ⟨⟨v, ks, t⟩, n⟩ ⟨rs, rg, ⟨ov, ou, ts⟩, sg, im⟩ now units).1.r.version, dL (takeT b l ⟨⟨v, ks, t⟩, n⟩ ⟨rs, rg, ⟨ov, ou, ts⟩, sg, im⟩ now units).1.r.keys, dI (takeT b l ⟨⟨v, ks, t⟩, n⟩ ⟨rs, rg, ⟨ov, ou, ts⟩, sg, im⟩ now units).1.r.thr, dI (takeT b l ⟨⟨v, ks, t⟩, n⟩ ⟨rs, rg, ⟨ov, ou, ts⟩, sg, im⟩ now units).1.version], .one (dI (takeT b l ⟨⟨v, ks, t⟩, n⟩ ⟨rs, rg, ⟨ov, ou, ts⟩, sg, im⟩ now units).2)]) []) : ∃ m, goD Γ_trust_Take tab fn_trust_Take 0 K m [.code (bodyOf fn_trust_Take)] (initSt [.agg [.dat (.list .str) b], .one (.dat (.list .signed) l), .agg [dI v, dL ks, dI t, dI n], .agg [.dat (.list .root) rs, dR rg, dI ov, dI ou, .dat (.list .target) ts, dL sg, dR im], .one (dI now), .one (dI units)] []) := by
  refine ⟨ts.length + 1 + rs.length + 1 + 1, ?_⟩
  rw [trust_Take_w, trust_Take_vc _ _ _ _ _ _ _ _ _ _ _ _ _ _ _ _ _ _ rfl _ rfl]
  unfold takeT at hK
  simp only at hK
  refine ne_s (fun h => ?_) (fun h => lt_s (fun h2 => ?_) (fun h2 => ne_s (fun h3 => ?_) (fun h3 => ?_)))
  · rw [if_neg h] at hK; exact hK
  · rw [if_pos h, if_pos (.inl (by simp only [len] at h2; omega))] at hK; exact hK
  · rw [if_pos h, if_pos (.inr (by simp only [len] at h3; omega))] at hK; exact hK
  · rw [if_pos h, if_neg (by simp only [len] at h2 h3; omega)] at hK
    exact loop_trust_Take b hp l rs rg ov ou ts sg im now units (by simp only [len] at h2; omega) (by simp only [len] at h3; omega) K 0 0 0 0 [] rs.length 0 v ks t n (by omega) (checkRoot_ok (checkTrust_ok h).2.2).2.2.2.2.1 hK
theorem sound_trust_Take : SoundC Tryd.prog tab n_trust_Take c_trust_Take := soundC_of ok_trust_Take hf_trust_Take hB_trust_Take (by
  intro vs bs p v bs' h hp
  unfold c_trust_Take at h
  split at h
  · cases h
    exact ⟨by kernel_rfl, rfl, .inl (run_trust_Take _ _ _ _ _ _ _ _ _ _ _ _ _ _ _ hp.1 _ ⟨rfl, rfl⟩)⟩
  · cases h)

abbrev n_flash_Copy_d : Nat := n_flash_Copy
noncomputable abbrev fn_flash_Copy_d : Func := fn_flash_Copy
theorem hf_flash_Copy_d : Tryd.prog.funcs[n_flash_Copy_d]? = some fn_flash_Copy_d := hf_flash_Copy
theorem hB_flash_Copy_d : fnB fn_flash_Copy_d = true := hB_flash_Copy
def c_flash_Copy_d : Contract := fun vs bs => match vs, bs with
  | [.agg [.dat (.list .int) ws, .dat .int fu]], [] => some (some (len ws * 8 ≤ 140737488355328), .agg [.dat (.list .int) ws, .dat .int fu], [])
  | _, _ => none
def Γ_flash_Copy_d : Ctx := [(n_slices_Clone_Lint, c_slices_Clone_Lint)]
theorem ok_flash_Copy_d : Ok Tryd.prog tab Γ_flash_Copy_d := (ok_nil.consC hf_slices_Clone_Lint hB_slices_Clone_Lint sound_slices_Clone_Lint)
theorem flash_Copy_d_vc (ws : List Int) (fu : Int) (rec : RK) (K : KK) : segD Γ_flash_Copy_d tab fn_flash_Copy_d 0 K rec [.code (bodyOf fn_flash_Copy_d)] (initSt [.agg [dL ws, dI fu]] []) = (
 (((len ws) * 8) ≤ 140737488355328) ∧
 (K (.agg [dL ws, dI fu]) [])) := by kernel_rfl
theorem flash_Copy_d_w (m : Nat) (K : KK) (st : St) : goD Γ_flash_Copy_d tab fn_flash_Copy_d 0 K (m + 1) [.code (bodyOf fn_flash_Copy_d)] st = segD Γ_flash_Copy_d tab fn_flash_Copy_d 0 K (goD Γ_flash_Copy_d tab fn_flash_Copy_d 0 K m) [.code (bodyOf fn_flash_Copy_d)] st := rfl

set_option maxHeartbeats 4000000 in
theorem run_flash_Copy_d (ws : List Int) (fu : Int) (hp : len ws * 8 ≤ 140737488355328) (K : KK) (hK : K (.agg [dL ws, dI fu]) []) : ∃ m, goD Γ_flash_Copy_d tab fn_flash_Copy_d 0 K m [.code (bodyOf fn_flash_Copy_d)] (initSt [.agg [dL ws, dI fu]] []) := by
  refine ⟨1, ?_⟩
  rw [flash_Copy_d_w, flash_Copy_d_vc _ _ _ _]
  exact ⟨hp, hK⟩
theorem sound_flash_Copy_d : SoundC Tryd.prog tab n_flash_Copy_d c_flash_Copy_d := soundC_of ok_flash_Copy_d hf_flash_Copy_d hB_flash_Copy_d (by
  intro vs bs p v bs' h hp
  unfold c_flash_Copy_d at h
  split at h
  · cases h
    exact ⟨by kernel_rfl, rfl, .inl (run_flash_Copy_d _ _ hp.1 _ ⟨rfl, rfl⟩)⟩
  · cases h)

def c_slices_Clone_Lbool : Contract := fun vs bs => match vs, bs with
  | [.one (.dat (.list .bool) l)], [] => some (some (len l ≤ 1000), .one (.own 0), [.arr .bool l])
  | _, _ => none
def Γ_slices_Clone_Lbool : Ctx := []
theorem ok_slices_Clone_Lbool : Ok Tryd.prog tab Γ_slices_Clone_Lbool := ok_nil
theorem slices_Clone_Lbool_vc (l : List Bool) (rec : RK) (K : KK) : segO Γ_slices_Clone_Lbool tab fn_slices_Clone_Lbool 0 K rec [.code (bodyOf fn_slices_Clone_Lbool)] (initSt [.one (dLb l)] []) = (
 (∀ bn : Bool, (((bn = true) → ((len l) = 0)) → br bn
 (K (.one (.own 0)) [.arr Ty.bool []])
 ((((0 + (len l)) * 1) ≤ 140737488355328) ∧
 (K (.one (.own 0)) [.arr Ty.bool (cat [] l)]))))) := by kernel_rfl
theorem slices_Clone_Lbool_w (m : Nat) (K : KK) (st : St) : goO Γ_slices_Clone_Lbool tab fn_slices_Clone_Lbool 0 K (m + 1) [.code (bodyOf fn_slices_Clone_Lbool)] st = segO Γ_slices_Clone_Lbool tab fn_slices_Clone_Lbool 0 K (goO Γ_slices_Clone_Lbool tab fn_slices_Clone_Lbool 0 K m) [.code (bodyOf fn_slices_Clone_Lbool)] st := rfl

set_option maxHeartbeats 4000000 in
theorem run_slices_Clone_Lbool (l : List Bool) (hp : len l ≤ 1000) (K : KK) (hK : K (.one (.own 0)) [.arr .bool l]) : ∃ m, goO Γ_slices_Clone_Lbool tab fn_slices_Clone_Lbool 0 K m [.code (bodyOf fn_slices_Clone_Lbool)] (initSt [.one (dLb l)] []) := by
  refine ⟨1, ?_⟩
  rw [slices_Clone_Lbool_w, slices_Clone_Lbool_vc _ _ _]
  intro bn hb
  refine br_split (fun h => ?_) (fun h => ⟨by simp only [len] at hp ⊢; omega, hK⟩)
  have : l = [] := List.length_eq_zero_iff.1 (hb h)
  subst this
  exact hK
theorem sound_slices_Clone_Lbool : SoundC Tryd.prog tab n_slices_Clone_Lbool c_slices_Clone_Lbool := soundC_of ok_slices_Clone_Lbool hf_slices_Clone_Lbool hB_slices_Clone_Lbool (by
  intro vs bs p v bs' h hp
  unfold c_slices_Clone_Lbool at h
  split at h
  · cases h
    exact ⟨by kernel_rfl, rfl, .inr (.inl (run_slices_Clone_Lbool _ hp.1 _ ⟨rfl, rfl⟩))⟩
  · cases h)

def c_gate_Copy : Contract := fun vs bs => match vs, bs with
  | [.agg [.dat (.list .int) ws, .dat .int fu, .dat .bool up, .dat .int tv, .dat (.list .int) tk, .dat .int tt, .dat .int tn, .dat (.list .bool) vo, .dat (.list .bool) di]], [] => some (some (len ws * 8 ≤ 140737488355328 ∧ len tk * 8 ≤ 140737488355328 ∧ len vo ≤ 1000 ∧ len di ≤ 1000), .agg [.dat (.list .int) ws, .dat .int fu, .dat .bool up, .dat .int tv, .dat (.list .int) tk, .dat .int tt, .dat .int tn, .own 0, .own 1], [.arr .bool vo, .arr .bool di])
  | _, _ => none
def Γ_gate_Copy : Ctx := [(n_flash_Copy_d, c_flash_Copy_d), (n_slices_Clone_Lint_d, c_slices_Clone_Lint_d), (n_slices_Clone_Lbool, c_slices_Clone_Lbool)]
theorem ok_gate_Copy : Ok Tryd.prog tab Γ_gate_Copy := (((ok_nil.consC hf_slices_Clone_Lbool hB_slices_Clone_Lbool sound_slices_Clone_Lbool).consC hf_slices_Clone_Lint_d hB_slices_Clone_Lint_d sound_slices_Clone_Lint_d).consC hf_flash_Copy_d hB_flash_Copy_d sound_flash_Copy_d)
theorem gate_Copy_vc (ws : List Int) (fu : Int) (up : Bool) (tv : Int) (tk : List Int) (tt : Int) (tn : Int) (vo : List Bool) (di : List Bool) (rec : RK) (K : KK) : segO Γ_gate_Copy tab fn_gate_Copy 0 K rec [.code (bodyOf fn_gate_Copy)] (initSt [.agg [dL ws, dI fu, dB up, dI tv, dL tk, dI tt, dI tn, dLb vo, dLb di]] []) = (
 (((len ws) * 8) ≤ 140737488355328) ∧
 ((((len tk) * 8) ≤ 140737488355328) ∧
 (((len vo) ≤ 1000) ∧
 (((len di) ≤ 1000) ∧
 (K (.agg [dL ws, dI fu, dB up, dI tv, dL tk, dI tt, dI tn, .own 0, .own 1]) [.arr Ty.bool vo, .arr Ty.bool di]))))) := by kernel_rfl
theorem gate_Copy_w (m : Nat) (K : KK) (st : St) : goO Γ_gate_Copy tab fn_gate_Copy 0 K (m + 1) [.code (bodyOf fn_gate_Copy)] st = segO Γ_gate_Copy tab fn_gate_Copy 0 K (goO Γ_gate_Copy tab fn_gate_Copy 0 K m) [.code (bodyOf fn_gate_Copy)] st := rfl

set_option maxHeartbeats 4000000 in
theorem run_gate_Copy (ws : List Int) (fu : Int) (up : Bool) (tv : Int) (tk : List Int) (tt tn : Int) (vo di : List Bool) (hp : len ws * 8 ≤ 140737488355328 ∧ len tk * 8 ≤ 140737488355328 ∧ len vo ≤ 1000 ∧ len di ≤ 1000) (K : KK) (hK : K (.agg [dL ws, dI fu, dB up, dI tv, dL tk, dI tt, dI tn, .own 0, .own 1]) [.arr .bool vo, .arr .bool di]) : ∃ m, goO Γ_gate_Copy tab fn_gate_Copy 0 K m [.code (bodyOf fn_gate_Copy)] (initSt [.agg [dL ws, dI fu, dB up, dI tv, dL tk, dI tt, dI tn, dLb vo, dLb di]] []) := by
  refine ⟨1, ?_⟩
  rw [gate_Copy_w, gate_Copy_vc _ _ _ _ _ _ _ _ _ _ _]
  exact ⟨hp.1, hp.2.1, hp.2.2.1, hp.2.2.2, hK⟩
theorem sound_gate_Copy : SoundC Tryd.prog tab n_gate_Copy c_gate_Copy := soundC_of ok_gate_Copy hf_gate_Copy hB_gate_Copy (by
  intro vs bs p v bs' h hp
  unfold c_gate_Copy at h
  split at h
  · cases h
    exact ⟨by kernel_rfl, rfl, .inr (.inl (run_gate_Copy _ _ _ _ _ _ _ _ _ hp.1 _ ⟨rfl, rfl⟩))⟩
  · cases h)
end Go.Proofs.YtlbppjmekiemiacDoor
