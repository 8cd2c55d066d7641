/- What the functions of GateTwice compute (part 1 of 2). No condition. -/
import Derived.Test.YtlbppjmekiemiacDoorTab
import Derived.Test.YtlbppjmekiemiacDoorSpec
import Derived.KernelRfl
import Derived.WalkKit
import Derived.Lib.Mul64
import Derived.Laws.Bits64b
import Derived.Test.YtlbppjmekiemiacDoorShelf
/- math/bits.Mul: the whole product. Both factors are of 64 bits. -/
namespace Go.Proofs.YtlbppjmekiemiacDoor
open Go.RowKit Go.Lib Vm
namespace Mul64
theorem maskN (a : Nat) (ha : a < 18446744073709551616) : bits .and .u64 (a : Int) 4294967295 = ((a % 4294967296 : Nat) : Int) := by
  have h := bits_and_u64_nat a 4294967295 ha (by omega)
  have e : a &&& 4294967295 = a % 4294967296 := Nat.and_two_pow_sub_one_eq_mod a 32
  rw [e] at h
  exact h
theorem divN (a : Nat) : (a : Int) / 4294967296 = ((a / 4294967296 : Nat) : Int) := by omega
theorem mulN (a b : Nat) : (a : Int) * (b : Int) = ((a * b : Nat) : Int) := (Int.natCast_mul a b).symm
theorem addN (a b : Nat) : (a : Int) + (b : Int) = ((a + b : Nat) : Int) := (Int.natCast_add a b).symm
theorem wrapN (a : Nat) (ha : a < 18446744073709551616) : IntKind.u64.wrap (a : Int) = (a : Int) := by rw [IntKind.wrap_u64]; omega
theorem wrapM (a : Nat) : IntKind.u64.wrap (a : Int) = ((a % 18446744073709551616 : Nat) : Int) := by rw [IntKind.wrap_u64]; omega
end Mul64
set_option maxHeartbeats 1000000 in
theorem mul64_any (x y : Nat) (hx : x < 18446744073709551616) (hy : y < 18446744073709551616) (w : World) :
    Calls Tryd.prog 155 #[.int .u64 x, .int .u64 y] w fun e w' => e = .returned (.tuple #[.int .u64 ((x * y / 18446744073709551616 : Nat) : Int), .int .u64 ((x * y % 18446744073709551616 : Nat) : Int)]) ∧ w' = w := by
  obtain ⟨bd, bt, bw, hhi⟩ := Lib.mul64_hi x y hx hy
  have ba := Lib.half_mul_le (a := x / 4294967296) (b := y / 4294967296) (by omega) (by omega)
  have bb := Lib.half_mul_le (a := x / 4294967296) (b := y % 4294967296) (by omega) (by omega)
  have bc := Lib.half_mul_le (a := x % 4294967296) (b := y / 4294967296) (by omega) (by omega)
  have ba' : x / 4294967296 * (y / 4294967296) < 18446744073709551616 := by omega
  have bb' : x / 4294967296 * (y % 4294967296) < 18446744073709551616 := by omega
  have bc' : x % 4294967296 * (y / 4294967296) < 18446744073709551616 := by omega
  have bh1 : x / 4294967296 * (y / 4294967296) + (x / 4294967296 * (y % 4294967296) + x % 4294967296 * (y % 4294967296) / 4294967296) / 4294967296 < 18446744073709551616 := by omega
  have bh : x / 4294967296 * (y / 4294967296) + (x / 4294967296 * (y % 4294967296) + x % 4294967296 * (y % 4294967296) / 4294967296) / 4294967296 + ((x / 4294967296 * (y % 4294967296) + x % 4294967296 * (y % 4294967296) / 4294967296) % 4294967296 + x % 4294967296 * (y / 4294967296)) / 4294967296 < 18446744073709551616 := by omega
  go_enter Tryd.func155, Tryd.ntmps155
  go_wp2
  simp only [Mul64.maskN x hx, Mul64.maskN y hy, Mul64.divN, Mul64.mulN, Mul64.addN, Mul64.wrapN _ bd, Mul64.wrapN _ bb', Mul64.wrapN _ bt, Mul64.maskN _ bt, Mul64.wrapN _ bc', Mul64.wrapN _ bw, Mul64.wrapN _ ba', Mul64.wrapN _ bh1, Mul64.wrapN _ bh, Mul64.wrapM (x * y)]
  rw [hhi]
  go_ret2
  exact ⟨rfl, rfl⟩
set_option maxHeartbeats 1000000 in
theorem mul_any (x y : Nat) (hx : x < 18446744073709551616) (hy : y < 18446744073709551616) (w : World) :
    Calls Tryd.prog 130 #[.int .u64 x, .int .u64 y] w fun e w' => e = .returned (.tuple #[.int .u64 ((x * y / 18446744073709551616 : Nat) : Int), .int .u64 ((x * y % 18446744073709551616 : Nat) : Int)]) ∧ w' = w := by
  have c64 := mul64_any x y hx hy w
  go_enter Tryd.func130, Tryd.ntmps130
  go_wp2_with (go_at_call 155; refine c64.mono ?_; rintro e w' ⟨rfl, hw⟩; rw [hw])
  go_ret2
  exact ⟨rfl, rfl⟩
def c_math_bits_Mul : Contract := fun vs bs => match vs, bs with
  | [.one (.dat .u64 a), .one (.dat .u64 b)], [] => some (some (inU64 a = true ∧ inU64 b = true), .tup [.one (.dat .u64 ((a * b) / two64)), .one (.dat .u64 ((a * b) % two64))], [])
  | _, _ => none
theorem sound_math_bits_Mul : SoundC Tryd.prog tab n_math_bits_Mul c_math_bits_Mul := by
  intro vs bs p v bs' h hp w S μ xs I hx
  unfold c_math_bits_Mul at h
  split at h
  · cases h
    rename_i a b
    obtain ⟨⟨h1, h2⟩, _⟩ := hp
    simp only [inU64, Bool.and_eq_true, decide_eq_true_eq] at h1 h2
    obtain ⟨x, rfl⟩ := Int.eq_ofNat_of_zero_le h1.1
    obtain ⟨y, rfl⟩ := Int.eq_ofNat_of_zero_le h2.1
    match xs, hx with
    | [X, Y], ⟨g1, g2, _⟩ =>
      have e1 := rel_u64 g1
      have e2 := rel_u64 g2
      subst e1 e2
      refine (mul_any x y (by omega) (by omega) w).mono fun e w' ⟨he, hw⟩ => ?_
      subst hw he
      refine ⟨_, μ, S, rfl, Ext.refl, I, _, rfl, rfl, fun i u hu => ?_⟩
      match i, hu with
      | 0, hu => cases hu; exact ⟨_, rfl, mk_u64 _⟩
      | 1, hu => cases hu; exact ⟨_, rfl, mk_u64 _⟩
  · cases h
end Go.Proofs.YtlbppjmekiemiacDoor

/- strconv.Itoa: the shelf's contract as one of ours. The number is no less than 0. -/
namespace Go.Proofs.YtlbppjmekiemiacDoor
open Go.RowKit Go.Lib Go.Sort Vm
def c_strconv_Itoa : Contract := fun vs bs => match vs, bs with
  | [.one (.dat .int n)], [] => some (some (0 ≤ n ∧ n ≤ 9223372036854775807), .one (.dat .str (numT n)), [])
  | _, _ => none
theorem sound_strconv_Itoa : SoundC Tryd.prog tab n_strconv_Itoa c_strconv_Itoa := by
  intro vs bs p v bs' h hp w S μ xs I hx
  unfold c_strconv_Itoa at h
  split at h
  · cases h
    rename_i n
    obtain ⟨⟨h1, h2⟩, _⟩ := hp
    have h1 : (0 : Int) ≤ n := h1
    have h2 : (n : Int) ≤ 9223372036854775807 := h2
    match xs, hx with
    | [X], ⟨g1, _⟩ =>
      have e1 := rel_int g1
      subst e1
      obtain ⟨g, hg⟩ : ∃ g, tab.pow = some g := ⟨_, rfl⟩
      obtain ⟨_, ty, m, hb⟩ := I.pow g hg
      have htab : Go.Lib.TabIs Tryd.prog w "internal/strconv.uint64pow10" .u64 Go.Lib.pow10Tab := by
        have hgn : Tryd.prog.globalNamed "internal/strconv.uint64pow10" = tab.pow := by kernel_rfl
        unfold Go.Lib.TabIs World.var?
        rw [hgn, hg]
        simp only [Option.bind_some, hb]
        rfl
      refine (Tryd.strconv_Itoa n (by omega) h2 w htab).mono fun e w' ⟨he, k, os, hw⟩ => ?_
      subst hw he
      have hsz : (grow (w.drewN k) os).heap = w.heap ++ os := rfl
      have E : Ext μ (memL []) w S μ (memL []) (grow (w.drewN k) os) S := ⟨fun _ h => h, (Ext.refl (μ := μ) (mem := memL []) (w := w) (S := S)).kinds, fun _ h => h, by rw [hsz]; simp, fun b hb _ => by rw [hsz, Array.getElem?_append_left hb], fun _ h => .inl h, fun _ h => .inl h, rfl, rfl, rfl⟩
      refine ⟨_, μ, S, rfl, E, ⟨fun r B h => by simp [memL] at h, fun r r' _ ⟨B, h, _⟩ => by simp [memL] at h, fun r ⟨B, h, _⟩ => by simp [memL] at h, fun b hb => Nat.lt_of_lt_of_le (I.lt b hb) E.size, I.powExt E⟩, ?_⟩
      rw [itoa_eq h1 h2]
      exact mk_str _
  · cases h
end Go.Proofs.YtlbppjmekiemiacDoor

/- strings.Join: the shelf's contract as one of ours. What comes of it is no longer than memory holds. -/
namespace Go.Proofs.YtlbppjmekiemiacDoor
open Go.RowKit Go.Lib Vm
theorem below_EI {μ : Mu} {w w' : World} {S : Nat → Prop} (I : Inv tab μ (memL []) w S) (hb : Below w.heap.size w w') : Ext μ (memL []) w S μ (memL []) w' S ∧ Inv tab μ (memL []) w' S := by
  have E : Ext μ (memL []) w S μ (memL []) w' S := ⟨fun _ h => h, (Ext.refl (μ := μ) (mem := memL []) (w := w) (S := S)).kinds, fun _ h => h, hb.size, fun b hlt _ => hb.block b hlt, fun _ h => .inl h, fun _ h => .inl h, hb.os, hb.tape, hb.output⟩
  exact ⟨E, ⟨fun r B h => by simp [memL] at h, fun r r' _ ⟨B, h, _⟩ => by simp [memL] at h, fun r ⟨B, h, _⟩ => by simp [memL] at h, fun b hb => Nat.lt_of_lt_of_le (I.lt b hb) E.size, I.powExt E⟩⟩
def c_strings_Join : Contract := fun vs bs => match vs, bs with
  | [.one (.dat (.list .str) l), .one (.dat .str sep)], [] => some (some (l.length ≤ 140737488355328 ∧ (joinT sep l).length ≤ 140737488355328), .one (.dat .str (joinT sep l)), [])
  | _, _ => none
theorem sound_strings_Join : SoundC Tryd.prog tab n_strings_Join c_strings_Join := by
  intro vs bs p v bs' h hp w S μ xs I hx
  unfold c_strings_Join at h
  split at h
  · cases h
    rename_i l sep
    obtain ⟨⟨h1, h2⟩, _⟩ := hp
    match xs, hx with
    | [X, Y], ⟨g1, g2, _⟩ =>
      have e2 := rel_str g2
      subst e2
      obtain ⟨_, hr⟩ := g1
      cases hr with
      | empty t a cap =>
        refine (Tryd.strings_Join_none a cap ⟨sep.toArray⟩ w).mono fun e w' ⟨he, hw⟩ => ?_
        subst hw he
        exact ⟨_, μ, S, rfl, Ext.refl, I, mk_str []⟩
      | list t l b off cap cs hS hcap hc hr =>
        have hm : (l.map fun s : List UInt8 => (⟨s.toArray⟩ : ByteArray)).map (·.data.toList) = l := by simp [List.map_map, Function.comp_def]
        have hj : (Go.Lib.join ((l.map fun s : List UInt8 => (⟨s.toArray⟩ : ByteArray)).map (·.data.toList)) (⟨sep.toArray⟩ : ByteArray).data.toList) = joinT sep l := by rw [hm]; exact join_eq sep l
        have key := Tryd.strings_Join b off cap (l.map fun s : List UInt8 => (⟨s.toArray⟩ : ByteArray)) ⟨sep.toArray⟩ w (fun j x hx => by
          rw [List.getElem?_map] at hx
          obtain ⟨s, hs, rfl⟩ := Option.map_eq_some_iff.1 hx
          have hjl : j < l.length := (List.getElem?_eq_some_iff.1 hs).1
          have c1 := hc j 0 hjl (by decide)
          have e : nth l j (Ty.dflt .str) = s := by simp [nth, List.getD_eq_getElem?_getD, hs]
          have c2 := hr j 0 (.dat .str s) hjl (by rw [e]; rfl)
          have c3 : cs j 0 = .string ⟨s.toArray⟩ := by
            generalize cs j 0 = y at c2
            cases c2; rfl
          rw [c3] at c1
          simpa [at0, Ty.width] using c1) (I.lt b hS) (by simpa using h1) (by simpa using hcap) (by rw [hj]; exact h2)
        rw [List.length_map, hj] at key
        refine key.mono fun e w' ⟨he, hb⟩ => ?_
        subst he
        obtain ⟨E, I'⟩ := below_EI I hb
        exact ⟨_, μ, S, rfl, E, I', mk_str _⟩
  · cases h
end Go.Proofs.YtlbppjmekiemiacDoor
namespace Go.Proofs.YtlbppjmekiemiacDoor
open Vm
def c_flash_Check : Contract := fun vs bs => match vs, bs with
  | [.agg [.dat (.list .int) ws, .dat .int fu]], [] => some (none, .one (.dat .int (checkFlash ⟨ws, fu⟩)), [])
  | _, _ => none
def Γ_flash_Check : Ctx := []
theorem ok_flash_Check : Ok Tryd.prog tab Γ_flash_Check := ok_nil
noncomputable def flash_Check_L0 : List It := [.inLoop [31, 30, 29, 2] (Code.sub (bodyOf fn_flash_Check) [1, 1, 1, 0, 1, 0, 0]), .inBlock 0, .code (Code.sub (bodyOf fn_flash_Check) [1, 1, 1, 1])]
def flash_Check_S0 (x0 : Int) (x1 : Int) (x2 : (List Int)) (x3 : Int) : St := ⟨[(31, .one (.dat Ty.int x0)), (30, .one (.dat Ty.int x1)), (29, .one (.dat (Ty.list Ty.int) x2)), (2, .one (.dat Ty.int x3))], [], 0⟩
theorem flash_Check_vc (ws : List Int) (fu : Int) (rec : List It → St → Prop) (K : V → List Blk → Prop) : segD Γ_flash_Check tab fn_flash_Check 0 K rec [.code (bodyOf fn_flash_Check)] (initSt [.agg [.dat (Ty.list Ty.int) ws, .dat Ty.int fu]] []) = (
    br (eqi (((len ws) : Nat) : Int) (0 : Int))
     (K (.one (.dat Ty.int (4 : Int))) [])
     (((32 : Int) ≠ (0 : Int)) ∧
      (br (!(eqi (Int.tmod (((len ws) : Nat) : Int) (32 : Int)) (0 : Int)))
       (K (.one (.dat Ty.int (4 : Int))) [])
       (br (lti (192 : Int) (((len ws) : Nat) : Int))
         (K (.one (.dat Ty.int (4 : Int))) [])
         (br (lti fu (-(1 : Int)))
           (K (.one (.dat Ty.int (3 : Int))) [])
           (br (lti (100000 : Int) fu)
             (K (.one (.dat Ty.int (3 : Int))) [])
             (rec flash_Check_L0 (flash_Check_S0 (0 : Int) (((len ws) : Nat) : Int) ws (0 : Int))))))))) := by kernel_rfl
theorem flash_Check_w (ws : List Int) (fu : Int) (m : Nat) (K : V → List Blk → Prop) : goD Γ_flash_Check tab fn_flash_Check 0 K (m + 1) [.code (bodyOf fn_flash_Check)] (initSt [.agg [.dat (Ty.list Ty.int) ws, .dat Ty.int fu]] []) = segD Γ_flash_Check tab fn_flash_Check 0 K (goD Γ_flash_Check tab fn_flash_Check 0 K m) [.code (bodyOf fn_flash_Check)] (initSt [.agg [.dat (Ty.list Ty.int) ws, .dat Ty.int fu]] []) := rfl
theorem flash_Check_vc0 (x0 : Int) (x1 : Int) (x2 : (List Int)) (x3 : Int) (rec : List It → St → Prop) (K : V → List Blk → Prop) : segD Γ_flash_Check tab fn_flash_Check 0 K rec (.code (Code.sub (bodyOf fn_flash_Check) [1, 1, 1, 0, 1, 0, 0]) :: flash_Check_L0) (flash_Check_S0 x0 x1 x2 x3) = (
    br (lti x0 x1)
     ((((0 : Int) ≤ x0) ∧ (x0 < (((len x2) : Nat) : Int))) ∧
      (br (lti (nth x2 (Int.toNat x0) (Ty.dflt Ty.int)) (0 : Int))
       (K (.one (.dat Ty.int (3 : Int))) [])
       (br (lti (65535 : Int) (nth x2 (Int.toNat x0) (Ty.dflt Ty.int)))
         (K (.one (.dat Ty.int (3 : Int))) [])
         (rec flash_Check_L0 (flash_Check_S0 (w64 (x0 + (1 : Int))) x1 x2 x3)))))
     (K (.one (.dat Ty.int (0 : Int))) [])) := by kernel_rfl
theorem flash_Check_w0 (x0 : Int) (x1 : Int) (x2 : (List Int)) (x3 : Int) (m : Nat) (K : V → List Blk → Prop) : goD Γ_flash_Check tab fn_flash_Check 0 K (m + 1) flash_Check_L0 (flash_Check_S0 x0 x1 x2 x3) = segD Γ_flash_Check tab fn_flash_Check 0 K (goD Γ_flash_Check tab fn_flash_Check 0 K m) (.code (Code.sub (bodyOf fn_flash_Check) [1, 1, 1, 0, 1, 0, 0]) :: flash_Check_L0) (flash_Check_S0 x0 x1 x2 x3) := rfl

theorem loop_flash_Check (ws : List Int) (hl : ws.length ≤ 192) (K : V → List Blk → Prop) (hK : K (.one (.dat .int (if okWords ws then 0 else 3))) []) : ∀ (d k : Nat), k + d = ws.length → okWords (ws.take k) = true →
    goD Γ_flash_Check tab fn_flash_Check 0 K (d + 1) flash_Check_L0 (flash_Check_S0 (k : Int) (((len ws) : Nat) : Int) ws (0 : Int))
  | 0, k, hk, he => by
    rw [flash_Check_w0, flash_Check_vc0 _ _ _ _ _ _]
    refine lt_f (by simp only [len]; omega) ?_
    rw [List.take_of_length_le (by omega)] at he
    rw [if_pos he] at hK
    exact hK
  | d + 1, k, hk, he => by
    rw [flash_Check_w0, flash_Check_vc0 _ _ _ _ _ _]
    have bad : okWord (nth ws k (Ty.dflt Ty.int)) = false → K (.one (.dat .int 3)) [] := fun h => by
      rw [show okWords ws = false from all_false (k := k) (by omega) _ h] at hK; exact hK
    refine lt_t (by simp only [len]; omega) ⟨⟨by omega, by simp only [len]; omega⟩, lt_s (fun h => ?_) (fun h => lt_s (fun h2 => ?_) (fun h2 => ?_))⟩
    · rw [toNat_nat] at h
      exact bad (by simp only [okWord, Bool.and_eq_false_iff, decide_eq_false_iff_not]; exact .inl (by omega))
    · rw [toNat_nat] at h2
      exact bad (by simp only [okWord, Bool.and_eq_false_iff, decide_eq_false_iff_not]; exact .inr (by omega))
    · rw [w64_succ (by omega)]
      rw [toNat_nat] at h h2
      exact loop_flash_Check ws hl K hK d (k + 1) (by omega) (all_take_step (by omega) (Ty.dflt Ty.int) he (by simp [okWord, h, h2]))
set_option maxHeartbeats 4000000 in
theorem run_flash_Check (ws : List Int) (fu : Int) (K : V → List Blk → Prop) (hK : K (.one (.dat .int (checkFlash ⟨ws, fu⟩))) []) : ∃ m, goD Γ_flash_Check tab fn_flash_Check 0 K m [.code (bodyOf fn_flash_Check)] (initSt [.agg [.dat (.list .int) ws, .dat .int fu]] []) := by
  refine ⟨ws.length + 2, ?_⟩
  rw [flash_Check_w, flash_Check_vc _ _ _ _]
  have four : okLen ws.length = false → K (.one (.dat .int 4)) [] := fun h => by
    rw [show checkFlash ⟨ws, fu⟩ = 4 from by simp [checkFlash, h]] at hK; exact hK
  refine eq_s (fun h => four ?_) (fun h => ⟨by decide, ne_s (fun h2 => four ?_) (fun h2 => lt_s (fun h3 => four ?_) (fun h3 => ?_))⟩)
  · simp only [len] at h; simp [okLen]; omega
  · simp only [len] at h2; rw [Int.tmod_eq_emod_of_nonneg (by omega)] at h2; simp [okLen]; omega
  · simp only [len] at h3; simp [okLen]; omega
  · have hlen : okLen ws.length = true := by simp only [len] at h h2 h3; rw [Int.tmod_eq_emod_of_nonneg (by omega)] at h2; simp [okLen]; omega
    have three : (decide (-1 ≤ fu) && decide (fu ≤ 100000)) = false → K (.one (.dat .int 3)) [] := fun h => by
      rw [show checkFlash ⟨ws, fu⟩ = 3 from by simp [checkFlash, hlen, h]] at hK; exact hK
    refine lt_s (fun h4 => three ?_) (fun h4 => lt_s (fun h5 => three ?_) (fun h5 => ?_))
    · simp; omega
    · simp; omega
    · refine loop_flash_Check ws (by simp only [len] at h3; omega) K ?_ ws.length 0 (by omega) rfl
      rw [show checkFlash ⟨ws, fu⟩ = if okWords ws then 0 else 3 from by simp [checkFlash, hlen, h4, h5]] at hK
      exact hK
theorem sound_flash_Check : SoundC Tryd.prog tab n_flash_Check c_flash_Check := soundC_of ok_flash_Check hf_flash_Check hB_flash_Check (by
  intro vs bs p v bs' h hp
  unfold c_flash_Check at h
  split at h
  · cases h
    exact ⟨by kernel_rfl, rfl, .inl (run_flash_Check _ _ _ ⟨rfl, rfl⟩)⟩
  · cases h)

def c_log_live : Contract := fun vs bs => match vs, bs with
  | [.agg [.dat (.list .int) ws, .dat .int _]], [] => some (some (64 ≤ len ws ∧ okWords ws = true), .tup [.one (.dat .int (liveS ws)), .one (.dat .int (liveG ws)), .one (.dat .bool (liveOk ws))], [])
  | _, _ => none
def Γ_log_live : Ctx := []
theorem ok_log_live : Ok Tryd.prog tab Γ_log_live := ok_nil
theorem log_live_vc (ws : List Int) (fu : Int) (rec : List It → St → Prop) (K : V → List Blk → Prop) : segD Γ_log_live tab fn_log_live 0 K rec [.code (bodyOf fn_log_live)] (initSt [.agg [.dat (Ty.list Ty.int) ws, .dat Ty.int fu]] []) = (
    (((0 : Int) ≤ (0 : Int)) ∧ ((0 : Int) < (((len ws) : Nat) : Int))) ∧
    ((((0 : Int) ≤ (32 : Int)) ∧ ((32 : Int) < (((len ws) : Nat) : Int))) ∧
    (br (eqi (nth ws (Int.toNat (0 : Int)) (Ty.dflt Ty.int)) (65535 : Int))
     (br (eqi (nth ws (Int.toNat (32 : Int)) (Ty.dflt Ty.int)) (65535 : Int))
       (K (.tup [.one (.dat Ty.int (0 : Int)), .one (.dat Ty.int (0 : Int)), .one (.dat Ty.bool (lti (0 : Int) (0 : Int)))]) [])
       (br (lti (0 : Int) (nth ws (Int.toNat (32 : Int)) (Ty.dflt Ty.int)))
         (K (.tup [.one (.dat Ty.int (1 : Int)), .one (.dat Ty.int (nth ws (Int.toNat (32 : Int)) (Ty.dflt Ty.int))), .one (.dat Ty.bool true)]) [])
         (K (.tup [.one (.dat Ty.int (0 : Int)), .one (.dat Ty.int (0 : Int)), .one (.dat Ty.bool (lti (0 : Int) (0 : Int)))]) [])))
     (br (eqi (nth ws (Int.toNat (32 : Int)) (Ty.dflt Ty.int)) (65535 : Int))
       (br (lti (nth ws (Int.toNat (0 : Int)) (Ty.dflt Ty.int)) (0 : Int))
         (K (.tup [.one (.dat Ty.int (1 : Int)), .one (.dat Ty.int (0 : Int)), .one (.dat Ty.bool true)]) [])
         (K (.tup [.one (.dat Ty.int (0 : Int)), .one (.dat Ty.int (nth ws (Int.toNat (0 : Int)) (Ty.dflt Ty.int))), .one (.dat Ty.bool (lti (0 : Int) (nth ws (Int.toNat (0 : Int)) (Ty.dflt Ty.int))))]) []))
       (br (lti (nth ws (Int.toNat (0 : Int)) (Ty.dflt Ty.int)) (nth ws (Int.toNat (32 : Int)) (Ty.dflt Ty.int)))
         (K (.tup [.one (.dat Ty.int (1 : Int)), .one (.dat Ty.int (nth ws (Int.toNat (32 : Int)) (Ty.dflt Ty.int))), .one (.dat Ty.bool true)]) [])
         (K (.tup [.one (.dat Ty.int (0 : Int)), .one (.dat Ty.int (nth ws (Int.toNat (0 : Int)) (Ty.dflt Ty.int))), .one (.dat Ty.bool (lti (0 : Int) (nth ws (Int.toNat (0 : Int)) (Ty.dflt Ty.int))))]) [])))))) := by kernel_rfl
theorem log_live_w (ws : List Int) (fu : Int) (m : Nat) (K : V → List Blk → Prop) : goD Γ_log_live tab fn_log_live 0 K (m + 1) [.code (bodyOf fn_log_live)] (initSt [.agg [.dat (Ty.list Ty.int) ws, .dat Ty.int fu]] []) = segD Γ_log_live tab fn_log_live 0 K (goD Γ_log_live tab fn_log_live 0 K m) [.code (bodyOf fn_log_live)] (initSt [.agg [.dat (Ty.list Ty.int) ws, .dat Ty.int fu]] []) := rfl

set_option maxHeartbeats 4000000 in
theorem run_log_live (ws : List Int) (fu : Int) (hp : 64 ≤ len ws ∧ okWords ws = true) (K : V → List Blk → Prop) (hK : K (.tup [.one (.dat .int (liveS ws)), .one (.dat .int (liveG ws)), .one (.dat .bool (liveOk ws))]) []) : ∃ m, goD Γ_log_live tab fn_log_live 0 K m [.code (bodyOf fn_log_live)] (initSt [.agg [.dat (.list .int) ws, .dat .int fu]] []) := by
  obtain ⟨hl, hok⟩ := hp
  refine ⟨1, ?_⟩
  rw [log_live_w, log_live_vc _ _ _ _]
  have o0 := getD_ok hok 0
  have o1 := getD_ok hok 32
  have e0 : nth ws (Int.toNat (0 : Int)) (Ty.dflt Ty.int) = ws.getD 0 0 := rfl
  have e1 : nth ws (Int.toNat (32 : Int)) (Ty.dflt Ty.int) = ws.getD 32 0 := rfl
  rw [e0, e1]
  have g0 : genOf ws 0 = if ws.getD 0 0 = 65535 then 0 else ws.getD 0 0 := rfl
  have g1 : genOf ws 1 = if ws.getD 32 0 = 65535 then 0 else ws.getD 32 0 := rfl
  unfold liveOk liveG liveS at hK
  refine ⟨⟨by omega, by omega⟩, ⟨by omega, by omega⟩, eq_s (fun h => eq_s (fun h2 => ?_) (fun h2 => lt_s (fun h3 => ?_) (fun h3 => ?_))) (fun h => eq_s (fun h2 => lt_s (fun h3 => ?_) (fun h3 => ?_)) (fun h2 => lt_s (fun h3 => ?_) (fun h3 => ?_)))⟩
  · rw [if_pos h] at g0; rw [if_pos h2] at g1
    rw [if_neg (by omega), g0] at hK; exact hK
  · rw [if_pos h] at g0; rw [if_neg h2] at g1
    rw [if_pos (by omega), g1, show decide (0 < ws.getD 32 0) = true from decide_eq_true h3] at hK; exact hK
  · rw [if_pos h] at g0; rw [if_neg h2] at g1
    rw [if_neg (by omega), g0] at hK; exact hK
  · omega
  · rw [if_neg h] at g0; rw [if_pos h2] at g1
    rw [if_neg (by omega), g0] at hK; exact hK
  · rw [if_neg h] at g0; rw [if_neg h2] at g1
    rw [if_pos (by omega), g1, show decide (0 < ws.getD 32 0) = true from decide_eq_true (by omega)] at hK; exact hK
  · rw [if_neg h] at g0; rw [if_neg h2] at g1
    rw [if_neg (by omega), g0] at hK; exact hK
theorem sound_log_live : SoundC Tryd.prog tab n_log_live c_log_live := soundC_of ok_log_live hf_log_live hB_log_live (by
  intro vs bs p v bs' h hp
  unfold c_log_live at h
  split at h
  · cases h
    exact ⟨by kernel_rfl, rfl, .inl (run_log_live _ _ hp.1 _ ⟨rfl, rfl⟩)⟩
  · cases h)

def c_log_Check : Contract := fun vs bs => match vs, bs with
  | [.agg [.dat (.list .int) ws, .dat .int fu]], [] => some (none, .one (.dat .int (checkLog ⟨ws, fu⟩)), [])
  | _, _ => none
def Γ_log_Check : Ctx := [(n_flash_Check, c_flash_Check), (n_log_live, c_log_live)]
theorem ok_log_Check : Ok Tryd.prog tab Γ_log_Check := ((ok_nil.consC hf_log_live hB_log_live sound_log_live).consC hf_flash_Check hB_flash_Check sound_flash_Check)
theorem log_Check_vc (ws : List Int) (fu : Int) (rec : List It → St → Prop) (K : V → List Blk → Prop) v0 (hv0 : v0 = (checkFlash (⟨ws, fu⟩ : Flash))) v1 (hv1 : v1 = (okWords ws)) v2 (hv2 : v2 = (liveOk ws)) v3 (hv3 : v3 = (liveG ws)) : segD Γ_log_Check tab fn_log_Check 0 K rec [.code (bodyOf fn_log_Check)] (initSt [.agg [.dat (Ty.list Ty.int) ws, .dat Ty.int fu]] []) = (
    br (!(eqi v0 (0 : Int)))
     (K (.one (.dat Ty.int v0)) [])
     (br (lti (((len ws) : Nat) : Int) (64 : Int))
       (K (.one (.dat Ty.int (4 : Int))) [])
       (((64 ≤ (len ws)) ∧ (v1 = true)) ∧
        (br (!v2)
         (K (.one (.dat Ty.int (5 : Int))) [])
         (br (lti (60000 : Int) v3)
           (K (.one (.dat Ty.int (5 : Int))) [])
           (K (.one (.dat Ty.int (0 : Int))) [])))))) := by subst hv3; subst hv2; subst hv1; subst hv0; kernel_rfl
theorem log_Check_w (ws : List Int) (fu : Int) (m : Nat) (K : V → List Blk → Prop) : goD Γ_log_Check tab fn_log_Check 0 K (m + 1) [.code (bodyOf fn_log_Check)] (initSt [.agg [.dat (Ty.list Ty.int) ws, .dat Ty.int fu]] []) = segD Γ_log_Check tab fn_log_Check 0 K (goD Γ_log_Check tab fn_log_Check 0 K m) [.code (bodyOf fn_log_Check)] (initSt [.agg [.dat (Ty.list Ty.int) ws, .dat Ty.int fu]] []) := rfl

set_option maxHeartbeats 4000000 in
theorem run_log_Check (ws : List Int) (fu : Int) (K : V → List Blk → Prop) (hK : K (.one (.dat .int (checkLog ⟨ws, fu⟩))) []) : ∃ m, goD Γ_log_Check tab fn_log_Check 0 K m [.code (bodyOf fn_log_Check)] (initSt [.agg [.dat (.list .int) ws, .dat .int fu]] []) := by
  refine ⟨1, ?_⟩
  rw [log_Check_w, log_Check_vc _ _ _ _ _ rfl _ rfl _ rfl _ rfl]
  unfold checkLog at hK
  refine ne_s (fun h => ?_) (fun h => ?_)
  · rw [if_neg h] at hK; exact hK
  rw [if_pos h] at hK
  refine lt_s (fun h2 => ?_) (fun h2 => ?_)
  · rw [if_neg (by simp only [len] at h2 ⊢; omega)] at hK; exact hK
  rw [if_pos (by simp only [len] at h2 ⊢; omega)] at hK
  refine ⟨⟨by simp only [len] at h2 ⊢; omega, (checkFlash_ok h).2.2.2⟩, nt_s (fun h3 => ?_) (fun h3 => lt_s (fun h4 => ?_) (fun h4 => ?_))⟩
  · rw [if_neg (by simp only [liveOk, decide_eq_false_iff_not] at h3 ⊢; omega)] at hK; exact hK
  · rw [if_neg (by simp only; omega)] at hK; exact hK
  · rw [if_pos (by simp only [liveOk, decide_eq_true_eq] at h3 ⊢; omega)] at hK; exact hK
theorem sound_log_Check : SoundC Tryd.prog tab n_log_Check c_log_Check := soundC_of ok_log_Check hf_log_Check hB_log_Check (by
  intro vs bs p v bs' h hp
  unfold c_log_Check at h
  split at h
  · cases h
    exact ⟨by kernel_rfl, rfl, .inl (run_log_Check _ _ _ ⟨rfl, rfl⟩)⟩
  · cases h)

def c_meta_CheckRoot : Contract := fun vs bs => match vs, bs with
  | [.agg [.dat .int v, .dat (.list .int) ks, .dat .int t]], [] => some (none, .one (.dat .int (checkRoot v ks t)), [])
  | _, _ => none
def Γ_meta_CheckRoot : Ctx := []
theorem ok_meta_CheckRoot : Ok Tryd.prog tab Γ_meta_CheckRoot := ok_nil
noncomputable def meta_CheckRoot_L0 : List It := [.inLoop [26, 25, 24, 2, 1] (Code.sub (bodyOf fn_meta_CheckRoot) [1, 1, 1, 0, 1, 0, 0]), .inBlock 0, .code (Code.sub (bodyOf fn_meta_CheckRoot) [1, 1, 1, 1])]
def meta_CheckRoot_S0 (x0 : Int) (x1 : Int) (x2 : (List Int)) (x3 : Int) (x4 : Int) (x5 : (List Int)) (x6 : Int) : St := ⟨[(26, .one (.dat Ty.int x0)), (25, .one (.dat Ty.int x1)), (24, .one (.dat (Ty.list Ty.int) x2)), (2, .one (.dat Ty.int x3)), (1, .one (.ptr 0 0))], [(0, .box [.dat Ty.int x4, .dat (Ty.list Ty.int) x5, .dat Ty.int x6])], 1⟩
theorem meta_CheckRoot_vc (v : Int) (ks : List Int) (t : Int) (rec : List It → St → Prop) (K : V → List Blk → Prop) : segD Γ_meta_CheckRoot tab fn_meta_CheckRoot 0 K rec [.code (bodyOf fn_meta_CheckRoot)] (initSt [.agg [.dat Ty.int v, .dat (Ty.list Ty.int) ks, .dat Ty.int t]] []) = (
    br (lti v (1 : Int))
     (K (.one (.dat Ty.int (3 : Int))) [])
     (br (lti (1000 : Int) v)
       (K (.one (.dat Ty.int (3 : Int))) [])
       (br (eqi (((len ks) : Nat) : Int) (0 : Int))
         (K (.one (.dat Ty.int (2 : Int))) [])
         (br (lti (6 : Int) (((len ks) : Nat) : Int))
           (K (.one (.dat Ty.int (2 : Int))) [])
           (rec meta_CheckRoot_L0 (meta_CheckRoot_S0 (0 : Int) (((len ks) : Nat) : Int) ks (0 : Int) v ks t)))))) := by kernel_rfl
theorem meta_CheckRoot_w (v : Int) (ks : List Int) (t : Int) (m : Nat) (K : V → List Blk → Prop) : goD Γ_meta_CheckRoot tab fn_meta_CheckRoot 0 K (m + 1) [.code (bodyOf fn_meta_CheckRoot)] (initSt [.agg [.dat Ty.int v, .dat (Ty.list Ty.int) ks, .dat Ty.int t]] []) = segD Γ_meta_CheckRoot tab fn_meta_CheckRoot 0 K (goD Γ_meta_CheckRoot tab fn_meta_CheckRoot 0 K m) [.code (bodyOf fn_meta_CheckRoot)] (initSt [.agg [.dat Ty.int v, .dat (Ty.list Ty.int) ks, .dat Ty.int t]] []) := rfl
theorem meta_CheckRoot_vc0 (x0 : Int) (x1 : Int) (x2 : (List Int)) (x3 : Int) (x4 : Int) (x5 : (List Int)) (x6 : Int) (rec : List It → St → Prop) (K : V → List Blk → Prop) : segD Γ_meta_CheckRoot tab fn_meta_CheckRoot 0 K rec (.code (Code.sub (bodyOf fn_meta_CheckRoot) [1, 1, 1, 0, 1, 0, 0]) :: meta_CheckRoot_L0) (meta_CheckRoot_S0 x0 x1 x2 x3 x4 x5 x6) = (
    br (lti x0 x1)
     ((((0 : Int) ≤ x0) ∧ (x0 < (((len x2) : Nat) : Int))) ∧
      (br (lti (nth x2 (Int.toNat x0) (Ty.dflt Ty.int)) (1 : Int))
       (K (.one (.dat Ty.int (3 : Int))) [])
       (br (lti (50 : Int) (nth x2 (Int.toNat x0) (Ty.dflt Ty.int)))
         (K (.one (.dat Ty.int (3 : Int))) [])
         (br (lti (0 : Int) x0)
           ((((0 : Int) ≤ (w64 (x0 - (1 : Int)))) ∧ ((w64 (x0 - (1 : Int))) < (((len x5) : Nat) : Int))) ∧
            (br (lei (nth x2 (Int.toNat x0) (Ty.dflt Ty.int)) (nth x5 (Int.toNat (w64 (x0 - (1 : Int)))) (Ty.dflt Ty.int)))
             (K (.one (.dat Ty.int (6 : Int))) [])
             (rec meta_CheckRoot_L0 (meta_CheckRoot_S0 (w64 (x0 + (1 : Int))) x1 x2 x3 x4 x5 x6))))
           (rec meta_CheckRoot_L0 (meta_CheckRoot_S0 (w64 (x0 + (1 : Int))) x1 x2 x3 x4 x5 x6))))))
     (br (lti x6 (1 : Int))
       (K (.one (.dat Ty.int (4 : Int))) [])
       (br (lti (((len x5) : Nat) : Int) x6)
         (K (.one (.dat Ty.int (4 : Int))) [])
         (K (.one (.dat Ty.int (0 : Int))) [])))) := by kernel_rfl
theorem meta_CheckRoot_w0 (x0 : Int) (x1 : Int) (x2 : (List Int)) (x3 : Int) (x4 : Int) (x5 : (List Int)) (x6 : Int) (m : Nat) (K : V → List Blk → Prop) : goD Γ_meta_CheckRoot tab fn_meta_CheckRoot 0 K (m + 1) meta_CheckRoot_L0 (meta_CheckRoot_S0 x0 x1 x2 x3 x4 x5 x6) = segD Γ_meta_CheckRoot tab fn_meta_CheckRoot 0 K (goD Γ_meta_CheckRoot tab fn_meta_CheckRoot 0 K m) (.code (Code.sub (bodyOf fn_meta_CheckRoot) [1, 1, 1, 0, 1, 0, 0]) :: meta_CheckRoot_L0) (meta_CheckRoot_S0 x0 x1 x2 x3 x4 x5 x6) := rfl

theorem loop_meta_CheckRoot (ks : List Int) (v t : Int) (hl : ks.length ≤ 6) (K : V → List Blk → Prop) (last : Nat → Option Int) (h0 : last 0 = none) (hs : ∀ k, k < ks.length → last (k + 1) = some (nth ks k 0)) : ∀ (d k : Nat), k + d = ks.length →
    K (.one (.dat .int (rootEnd (keysFrom (last k) (ks.drop k)) t ks.length))) [] →
    goD Γ_meta_CheckRoot tab fn_meta_CheckRoot 0 K (d + 1) meta_CheckRoot_L0 (meta_CheckRoot_S0 (k : Int) (((len ks) : Nat) : Int) ks 0 v ks t)
  | 0, k, hk, hK => by
    rw [meta_CheckRoot_w0, meta_CheckRoot_vc0 _ _ _ _ _ _ _ _ _]
    rw [List.drop_of_length_le (by omega)] at hK
    rw [show rootEnd (keysFrom (last k) []) t ks.length = if t < 1 ∨ (ks.length : Int) < t then 4 else 0 from rfl] at hK
    refine lt_f (by simp only [len]; omega) (lt_s (fun h => ?_) (fun h => lt_s (fun h2 => ?_) (fun h2 => ?_)))
    · rw [if_pos (.inl h)] at hK; exact hK
    · rw [if_pos (.inr h2)] at hK; exact hK
    · rw [if_neg (by simp only [len] at h2; omega)] at hK; exact hK
  | d + 1, k, hk, hK => by
    rw [meta_CheckRoot_w0, meta_CheckRoot_vc0 _ _ _ _ _ _ _ _ _, toNat_nat]
    rw [drop_step (by omega) (Ty.dflt Ty.int)] at hK
    have hsk := hs k (by omega)
    have e : nth ks k (Ty.dflt Ty.int) = nth ks k 0 := rfl
    rw [e] at hK ⊢
    obtain ⟨x, hx⟩ : ∃ x, nth ks k (0 : Int) = x := ⟨_, rfl⟩
    rw [hx] at hK hsk ⊢
    have ek : w64 ((k : Int) + 1) = ((k + 1 : Nat) : Int) := w64_succ (by omega)
    rw [ek]
    refine lt_t (by simp only [len]; omega) ⟨⟨by omega, by simp only [len]; omega⟩, lt_s (fun h => ?_) (fun h => lt_s (fun h2 => ?_) (fun h2 => ?_))⟩
    · rw [show keysFrom (last k) (x :: ks.drop (k + 1)) = 3 from if_pos (.inl h)] at hK; exact hK
    · rw [show keysFrom (last k) (x :: ks.drop (k + 1)) = 3 from if_pos (.inr h2)] at hK; exact hK
    · rw [show keysFrom (last k) (x :: ks.drop (k + 1)) = if notBehind (last k) x then 6 else keysFrom (some x) (ks.drop (k + 1)) from if_neg (by omega)] at hK
      refine lt_s (fun h3 => ?_) (fun h3 => ?_)
      · obtain ⟨j, rfl⟩ : ∃ j, k = j + 1 := ⟨k - 1, by omega⟩
        have hj := hs j (by omega)
        rw [hj] at hK
        rw [w64_id (n := ((j + 1 : Nat) : Int) - 1) (by omega) (by omega), show Int.toNat (((j + 1 : Nat) : Int) - 1) = j by omega]
        have e2 : nth ks j (Ty.dflt Ty.int) = nth ks j 0 := rfl
        rw [e2]
        refine ⟨⟨by omega, by simp only [len]; omega⟩, br_split (fun h4 => ?_) (fun h4 => ?_)⟩
        · rw [lei_true] at h4
          rw [if_pos (show notBehind (some (nth ks j 0)) x = true from decide_eq_true h4)] at hK; exact hK
        · rw [lei_false] at h4
          rw [if_neg (show ¬ notBehind (some (nth ks j 0)) x = true from by simp only [notBehind, decide_eq_true_eq]; omega)] at hK
          refine loop_meta_CheckRoot ks v t hl K last h0 hs d (j + 1 + 1) (by omega) ?_
          rw [hsk]; exact hK
      · have hk0 : k = 0 := by omega
        subst hk0
        rw [h0] at hK
        rw [if_neg (show ¬ notBehind none x = true from by simp [notBehind])] at hK
        refine loop_meta_CheckRoot ks v t hl K last h0 hs d 1 (by omega) ?_
        rw [hsk]; exact hK
set_option maxHeartbeats 4000000 in
theorem run_meta_CheckRoot (v : Int) (ks : List Int) (t : Int) (K : V → List Blk → Prop) (hK : K (.one (.dat .int (checkRoot v ks t))) []) : ∃ m, goD Γ_meta_CheckRoot tab fn_meta_CheckRoot 0 K m [.code (bodyOf fn_meta_CheckRoot)] (initSt [.agg [.dat .int v, .dat (.list .int) ks, .dat .int t]] []) := by
  refine ⟨ks.length + 2, ?_⟩
  rw [meta_CheckRoot_w, meta_CheckRoot_vc _ _ _ _ _]
  unfold checkRoot at hK
  refine lt_s (fun h => ?_) (fun h => lt_s (fun h2 => ?_) (fun h2 => eq_s (fun h3 => ?_) (fun h3 => lt_s (fun h4 => ?_) (fun h4 => ?_))))
  · rw [if_pos (.inl h)] at hK; exact hK
  · rw [if_pos (.inr h2)] at hK; exact hK
  · rw [if_neg (by omega), if_pos (by simp only [len] at h3; omega)] at hK; exact hK
  · rw [if_neg (by omega), if_pos (by simp only [len] at h4; omega)] at hK; exact hK
  · rw [if_neg (by omega), if_neg (by simp only [len] at h3 h4; omega)] at hK
    exact loop_meta_CheckRoot ks v t (by simp only [len] at h4; omega) K (fun k => match k with | 0 => none | k + 1 => some (nth ks k 0)) rfl (fun k _ => rfl) ks.length 0 (by omega) hK
theorem sound_meta_CheckRoot : SoundC Tryd.prog tab n_meta_CheckRoot c_meta_CheckRoot := soundC_of ok_meta_CheckRoot hf_meta_CheckRoot hB_meta_CheckRoot (by
  intro vs bs p v bs' h hp
  unfold c_meta_CheckRoot at h
  split at h
  · cases h
    exact ⟨by kernel_rfl, rfl, .inl (run_meta_CheckRoot _ _ _ _ ⟨rfl, rfl⟩)⟩
  · cases h)

def c_trust_CheckTrust : Contract := fun vs bs => match vs, bs with
  | [.agg [.dat .int v, .dat (.list .int) ks, .dat .int t, .dat .int n]], [] => some (none, .one (.dat .int (checkTrust ⟨⟨v, ks, t⟩, n⟩)), [])
  | _, _ => none
def Γ_trust_CheckTrust : Ctx := [(n_meta_CheckRoot, c_meta_CheckRoot)]
theorem ok_trust_CheckTrust : Ok Tryd.prog tab Γ_trust_CheckTrust := (ok_nil.consC hf_meta_CheckRoot hB_meta_CheckRoot sound_meta_CheckRoot)
theorem trust_CheckTrust_vc (v : Int) (ks : List Int) (t : Int) (n : Int) (rec : List It → St → Prop) (K : V → List Blk → Prop) v0 (hv0 : v0 = (checkRoot v ks t)) : segD Γ_trust_CheckTrust tab fn_trust_CheckTrust 0 K rec [.code (bodyOf fn_trust_CheckTrust)] (initSt [.agg [.dat Ty.int v, .dat (Ty.list Ty.int) ks, .dat Ty.int t, .dat Ty.int n]] []) = (
    br (lti n (0 : Int))
     (K (.one (.dat Ty.int (3 : Int))) [])
     (br (lti (1000 : Int) n)
       (K (.one (.dat Ty.int (3 : Int))) [])
       (K (.one (.dat Ty.int v0)) []))) := by subst hv0; kernel_rfl
theorem trust_CheckTrust_w (v : Int) (ks : List Int) (t : Int) (n : Int) (m : Nat) (K : V → List Blk → Prop) : goD Γ_trust_CheckTrust tab fn_trust_CheckTrust 0 K (m + 1) [.code (bodyOf fn_trust_CheckTrust)] (initSt [.agg [.dat Ty.int v, .dat (Ty.list Ty.int) ks, .dat Ty.int t, .dat Ty.int n]] []) = segD Γ_trust_CheckTrust tab fn_trust_CheckTrust 0 K (goD Γ_trust_CheckTrust tab fn_trust_CheckTrust 0 K m) [.code (bodyOf fn_trust_CheckTrust)] (initSt [.agg [.dat Ty.int v, .dat (Ty.list Ty.int) ks, .dat Ty.int t, .dat Ty.int n]] []) := rfl

set_option maxHeartbeats 4000000 in
theorem run_trust_CheckTrust (v : Int) (ks : List Int) (t n : Int) (K : V → List Blk → Prop) (hK : K (.one (.dat .int (checkTrust ⟨⟨v, ks, t⟩, n⟩))) []) : ∃ m, goD Γ_trust_CheckTrust tab fn_trust_CheckTrust 0 K m [.code (bodyOf fn_trust_CheckTrust)] (initSt [.agg [.dat .int v, .dat (.list .int) ks, .dat .int t, .dat .int n]] []) := by
  refine ⟨1, ?_⟩
  rw [trust_CheckTrust_w, trust_CheckTrust_vc _ _ _ _ _ _ _ rfl]
  unfold checkTrust at hK
  simp only at hK
  refine lt_s (fun h => ?_) (fun h => lt_s (fun h2 => ?_) (fun h2 => ?_))
  · rw [if_pos (.inl h)] at hK; exact hK
  · rw [if_pos (.inr h2)] at hK; exact hK
  · rw [if_neg (by omega)] at hK; exact hK
theorem sound_trust_CheckTrust : SoundC Tryd.prog tab n_trust_CheckTrust c_trust_CheckTrust := soundC_of ok_trust_CheckTrust hf_trust_CheckTrust hB_trust_CheckTrust (by
  intro vs bs p v bs' h hp
  unfold c_trust_CheckTrust at h
  split at h
  · cases h
    exact ⟨by kernel_rfl, rfl, .inl (run_trust_CheckTrust _ _ _ _ _ ⟨rfl, rfl⟩)⟩
  · cases h)

def c_gate_Check : Contract := fun vs bs => match vs, bs with
  | [.agg [.dat (.list .int) ws, .dat .int fu, .dat .bool up, .dat .int tv, .dat (.list .int) tk, .dat .int tt, .dat .int tn, .dat (.list .bool) vo, .dat (.list .bool) di]], [] => some (none, .one (.dat .int (checkG ⟨⟨ws, fu⟩, up, ⟨⟨tv, tk, tt⟩, tn⟩, vo, di⟩)), [])
  | _, _ => none
def Γ_gate_Check : Ctx := [(n_log_Check, c_log_Check), (n_trust_CheckTrust, c_trust_CheckTrust)]
theorem ok_gate_Check : Ok Tryd.prog tab Γ_gate_Check := ((ok_nil.consC hf_trust_CheckTrust hB_trust_CheckTrust sound_trust_CheckTrust).consC hf_log_Check hB_log_Check sound_log_Check)
theorem gate_Check_vc (ws : List Int) (fu : Int) (up : Bool) (tv : Int) (tk : List Int) (tt : Int) (tn : Int) (vo : List Bool) (di : List Bool) (rec : List It → St → Prop) (K : V → List Blk → Prop) v0 (hv0 : v0 = (checkLog (⟨ws, fu⟩ : Vm.Flash))) v1 (hv1 : v1 = (checkTrust (⟨(⟨tv, tk, tt⟩ : Vm.Root), tn⟩ : Vm.Trust))) : segD Γ_gate_Check tab fn_gate_Check 0 K rec [.code (bodyOf fn_gate_Check)] (initSt [.agg [.dat (Ty.list Ty.int) ws, .dat Ty.int fu, .dat Ty.bool up, .dat Ty.int tv, .dat (Ty.list Ty.int) tk, .dat Ty.int tt, .dat Ty.int tn, .dat (Ty.list Ty.bool) vo, .dat (Ty.list Ty.bool) di]] []) = (
    br (!(eqi v0 (0 : Int)))
     (K (.one (.dat Ty.int v0)) [])
     (br (lti (((len vo) : Nat) : Int) (1 : Int))
       (K (.one (.dat Ty.int (4 : Int))) [])
       (br (lti (4 : Int) (((len vo) : Nat) : Int))
         (K (.one (.dat Ty.int (4 : Int))) [])
         (br (!(eqi (((len di) : Nat) : Int) (((len vo) : Nat) : Int)))
           (K (.one (.dat Ty.int (4 : Int))) [])
           (K (.one (.dat Ty.int v1)) []))))) := by subst hv1; subst hv0; kernel_rfl
theorem gate_Check_w (ws : List Int) (fu : Int) (up : Bool) (tv : Int) (tk : List Int) (tt : Int) (tn : Int) (vo : List Bool) (di : List Bool) (m : Nat) (K : V → List Blk → Prop) : goD Γ_gate_Check tab fn_gate_Check 0 K (m + 1) [.code (bodyOf fn_gate_Check)] (initSt [.agg [.dat (Ty.list Ty.int) ws, .dat Ty.int fu, .dat Ty.bool up, .dat Ty.int tv, .dat (Ty.list Ty.int) tk, .dat Ty.int tt, .dat Ty.int tn, .dat (Ty.list Ty.bool) vo, .dat (Ty.list Ty.bool) di]] []) = segD Γ_gate_Check tab fn_gate_Check 0 K (goD Γ_gate_Check tab fn_gate_Check 0 K m) [.code (bodyOf fn_gate_Check)] (initSt [.agg [.dat (Ty.list Ty.int) ws, .dat Ty.int fu, .dat Ty.bool up, .dat Ty.int tv, .dat (Ty.list Ty.int) tk, .dat Ty.int tt, .dat Ty.int tn, .dat (Ty.list Ty.bool) vo, .dat (Ty.list Ty.bool) di]] []) := rfl

set_option maxHeartbeats 4000000 in
theorem run_gate_Check (ws : List Int) (fu : Int) (up : Bool) (tv : Int) (tk : List Int) (tt tn : Int) (vo di : List Bool) (K : V → List Blk → Prop) (hK : K (.one (.dat .int (checkG ⟨⟨ws, fu⟩, up, ⟨⟨tv, tk, tt⟩, tn⟩, vo, di⟩))) []) : ∃ m, goD Γ_gate_Check tab fn_gate_Check 0 K m [.code (bodyOf fn_gate_Check)] (initSt [.agg [.dat (.list .int) ws, .dat .int fu, .dat .bool up, .dat .int tv, .dat (.list .int) tk, .dat .int tt, .dat .int tn, .dat (.list .bool) vo, .dat (.list .bool) di]] []) := by
  refine ⟨1, ?_⟩
  rw [gate_Check_w, gate_Check_vc _ _ _ _ _ _ _ _ _ _ _ _ rfl _ rfl]
  unfold checkG at hK
  simp only at hK
  refine ne_s (fun h => ?_) (fun h => ?_)
  · rw [if_neg h] at hK; exact hK
  · rw [if_pos h] at hK
    have l1 : ((len vo : Nat) : Int) = (vo.length : Int) := rfl
    have l2 : ((len di : Nat) : Int) = (di.length : Int) := rfl
    rw [l1, l2]
    by_cases c : vo.length < 1 ∨ 4 < vo.length ∨ di.length ≠ vo.length
    · rw [if_pos c] at hK
      exact lt_s (fun _ => hK) (fun _ => lt_s (fun _ => hK) (fun _ => ne_t (by omega) hK))
    · rw [if_neg c] at hK
      exact lt_f (by omega) (lt_f (by omega) (ne_f (by omega) hK))
theorem sound_gate_Check : SoundC Tryd.prog tab n_gate_Check c_gate_Check := soundC_of ok_gate_Check hf_gate_Check hB_gate_Check (by
  intro vs bs p v bs' h hp
  unfold c_gate_Check at h
  split at h
  · cases h
    exact ⟨by kernel_rfl, rfl, .inl (run_gate_Check _ _ _ _ _ _ _ _ _ _ ⟨rfl, rfl⟩)⟩
  · cases h)

def c_slices_Clone_Lint : Contract := fun vs bs => match vs, bs with
  | [.one (.dat (.list .int) l)], [] => some (some (len l * 8 ≤ 140737488355328), .one (.own 0), [.arr .int l])
  | _, _ => none
def Γ_slices_Clone_Lint : Ctx := []
theorem ok_slices_Clone_Lint : Ok Tryd.prog tab Γ_slices_Clone_Lint := ok_nil
theorem slices_Clone_Lint_vc (l : List Int) (rec : List It → St → Prop) (K : V → List Blk → Prop) : segO Γ_slices_Clone_Lint tab fn_slices_Clone_Lint 0 K rec [.code (bodyOf fn_slices_Clone_Lint)] (initSt [.one (.dat (Ty.list Ty.int) l)] []) = (
    (∀ bn : Bool, (((bn = true) → ((len l) = 0)) → br bn
       (K (.one (.own 0)) [.arr Ty.int []])
       ((((0 + (len l)) * 8) ≤ 140737488355328) ∧
        (K (.one (.own 0)) [.arr Ty.int (cat [] l)]))))) := by kernel_rfl
theorem slices_Clone_Lint_w (l : List Int) (m : Nat) (K : V → List Blk → Prop) : goO Γ_slices_Clone_Lint tab fn_slices_Clone_Lint 0 K (m + 1) [.code (bodyOf fn_slices_Clone_Lint)] (initSt [.one (.dat (Ty.list Ty.int) l)] []) = segO Γ_slices_Clone_Lint tab fn_slices_Clone_Lint 0 K (goO Γ_slices_Clone_Lint tab fn_slices_Clone_Lint 0 K m) [.code (bodyOf fn_slices_Clone_Lint)] (initSt [.one (.dat (Ty.list Ty.int) l)] []) := rfl

set_option maxHeartbeats 4000000 in
theorem run_slices_Clone_Lint (l : List Int) (hp : len l * 8 ≤ 140737488355328) (K : V → List Blk → Prop) (hK : K (.one (.own 0)) [.arr .int l]) : ∃ m, goO Γ_slices_Clone_Lint tab fn_slices_Clone_Lint 0 K m [.code (bodyOf fn_slices_Clone_Lint)] (initSt [.one (.dat (.list .int) l)] []) := by
  refine ⟨1, ?_⟩
  rw [slices_Clone_Lint_w, slices_Clone_Lint_vc _ _ _]
  intro bn hb
  refine br_split (fun h => ?_) (fun h => ⟨by simp only [len] at hp ⊢; omega, hK⟩)
  have : l = [] := List.length_eq_zero_iff.1 (hb h)
  subst this
  exact hK
theorem sound_slices_Clone_Lint : SoundC Tryd.prog tab n_slices_Clone_Lint c_slices_Clone_Lint := soundC_of ok_slices_Clone_Lint hf_slices_Clone_Lint hB_slices_Clone_Lint (by
  intro vs bs p v bs' h hp
  unfold c_slices_Clone_Lint at h
  split at h
  · cases h
    exact ⟨by kernel_rfl, rfl, .inr (run_slices_Clone_Lint _ hp.1 _ ⟨rfl, rfl⟩)⟩
  · cases h)

abbrev n_flash_Copy_d : Nat := n_flash_Copy
noncomputable abbrev fn_flash_Copy_d : Func := fn_flash_Copy
theorem hf_flash_Copy_d : Tryd.prog.funcs[n_flash_Copy_d]? = some fn_flash_Copy_d := hf_flash_Copy
theorem hB_flash_Copy_d : fnB fn_flash_Copy_d = true := hB_flash_Copy
def c_flash_Copy_d : Contract := fun vs bs => match vs, bs with
  | [.agg [.dat (.list .int) ws, .dat .int fu]], [] => some (some (len ws * 8 ≤ 140737488355328), .agg [.dat (.list .int) ws, .dat .int fu], [])
  | _, _ => none
def Γ_flash_Copy_d : Ctx := [(n_slices_Clone_Lint, c_slices_Clone_Lint)]
theorem ok_flash_Copy_d : Ok Tryd.prog tab Γ_flash_Copy_d := (ok_nil.consC hf_slices_Clone_Lint hB_slices_Clone_Lint sound_slices_Clone_Lint)
theorem flash_Copy_d_vc (ws : List Int) (fu : Int) (rec : List It → St → Prop) (K : V → List Blk → Prop) : segD Γ_flash_Copy_d tab fn_flash_Copy_d 0 K rec [.code (bodyOf fn_flash_Copy_d)] (initSt [.agg [.dat (Ty.list Ty.int) ws, .dat Ty.int fu]] []) = (
    (((len ws) * 8) ≤ 140737488355328) ∧
    (K (.agg [.dat (Ty.list Ty.int) ws, .dat Ty.int fu]) [])) := by kernel_rfl
theorem flash_Copy_d_w (ws : List Int) (fu : Int) (m : Nat) (K : V → List Blk → Prop) : goD Γ_flash_Copy_d tab fn_flash_Copy_d 0 K (m + 1) [.code (bodyOf fn_flash_Copy_d)] (initSt [.agg [.dat (Ty.list Ty.int) ws, .dat Ty.int fu]] []) = segD Γ_flash_Copy_d tab fn_flash_Copy_d 0 K (goD Γ_flash_Copy_d tab fn_flash_Copy_d 0 K m) [.code (bodyOf fn_flash_Copy_d)] (initSt [.agg [.dat (Ty.list Ty.int) ws, .dat Ty.int fu]] []) := rfl

set_option maxHeartbeats 4000000 in
theorem run_flash_Copy_d (ws : List Int) (fu : Int) (hp : len ws * 8 ≤ 140737488355328) (K : V → List Blk → Prop) (hK : K (.agg [.dat (.list .int) ws, .dat .int fu]) []) : ∃ m, goD Γ_flash_Copy_d tab fn_flash_Copy_d 0 K m [.code (bodyOf fn_flash_Copy_d)] (initSt [.agg [.dat (.list .int) ws, .dat .int fu]] []) := by
  refine ⟨1, ?_⟩
  rw [flash_Copy_d_w, flash_Copy_d_vc _ _ _ _]
  exact ⟨hp, hK⟩
theorem sound_flash_Copy_d : SoundC Tryd.prog tab n_flash_Copy_d c_flash_Copy_d := soundC_of ok_flash_Copy_d hf_flash_Copy_d hB_flash_Copy_d (by
  intro vs bs p v bs' h hp
  unfold c_flash_Copy_d at h
  split at h
  · cases h
    exact ⟨by kernel_rfl, rfl, .inl (run_flash_Copy_d _ _ hp.1 _ ⟨rfl, rfl⟩)⟩
  · cases h)

abbrev n_slices_Clone_Lint_d : Nat := n_slices_Clone_Lint
noncomputable abbrev fn_slices_Clone_Lint_d : Func := fn_slices_Clone_Lint
theorem hf_slices_Clone_Lint_d : Tryd.prog.funcs[n_slices_Clone_Lint_d]? = some fn_slices_Clone_Lint_d := hf_slices_Clone_Lint
theorem hB_slices_Clone_Lint_d : fnB fn_slices_Clone_Lint_d = true := hB_slices_Clone_Lint
def c_slices_Clone_Lint_d : Contract := fun vs bs => match vs, bs with
  | [.one (.dat (.list .int) l)], [] => some (some (len l * 8 ≤ 140737488355328), .one (.dat (.list .int) l), [])
  | _, _ => none
def Γ_slices_Clone_Lint_d : Ctx := []
theorem ok_slices_Clone_Lint_d : Ok Tryd.prog tab Γ_slices_Clone_Lint_d := ok_nil
theorem slices_Clone_Lint_d_vc (l : List Int) (rec : List It → St → Prop) (K : V → List Blk → Prop) : segD Γ_slices_Clone_Lint_d tab fn_slices_Clone_Lint_d 0 K rec [.code (bodyOf fn_slices_Clone_Lint_d)] (initSt [.one (.dat (Ty.list Ty.int) l)] []) = (
    (∀ bn : Bool, (((bn = true) → ((len l) = 0)) → br bn
       (K (.one (.dat (Ty.list Ty.int) [])) [])
       ((((0 + (len l)) * 8) ≤ 140737488355328) ∧
        (K (.one (.dat (Ty.list Ty.int) (cat [] l))) []))))) := by kernel_rfl
theorem slices_Clone_Lint_d_w (l : List Int) (m : Nat) (K : V → List Blk → Prop) : goD Γ_slices_Clone_Lint_d tab fn_slices_Clone_Lint_d 0 K (m + 1) [.code (bodyOf fn_slices_Clone_Lint_d)] (initSt [.one (.dat (Ty.list Ty.int) l)] []) = segD Γ_slices_Clone_Lint_d tab fn_slices_Clone_Lint_d 0 K (goD Γ_slices_Clone_Lint_d tab fn_slices_Clone_Lint_d 0 K m) [.code (bodyOf fn_slices_Clone_Lint_d)] (initSt [.one (.dat (Ty.list Ty.int) l)] []) := rfl

set_option maxHeartbeats 4000000 in
theorem run_slices_Clone_Lint_d (l : List Int) (hp : len l * 8 ≤ 140737488355328) (K : V → List Blk → Prop) (hK : K (.one (.dat (.list .int) l)) []) : ∃ m, goD Γ_slices_Clone_Lint_d tab fn_slices_Clone_Lint_d 0 K m [.code (bodyOf fn_slices_Clone_Lint_d)] (initSt [.one (.dat (.list .int) l)] []) := by
  refine ⟨1, ?_⟩
  rw [slices_Clone_Lint_d_w, slices_Clone_Lint_d_vc _ _ _]
  intro bn hb
  refine br_split (fun h => ?_) (fun h => ⟨by simp only [len] at hp ⊢; omega, hK⟩)
  have : l = [] := List.length_eq_zero_iff.1 (hb h)
  subst this
  exact hK
theorem sound_slices_Clone_Lint_d : SoundC Tryd.prog tab n_slices_Clone_Lint_d c_slices_Clone_Lint_d := soundC_of ok_slices_Clone_Lint_d hf_slices_Clone_Lint_d hB_slices_Clone_Lint_d (by
  intro vs bs p v bs' h hp
  unfold c_slices_Clone_Lint_d at h
  split at h
  · cases h
    exact ⟨by kernel_rfl, rfl, .inl (run_slices_Clone_Lint_d _ hp.1 _ ⟨rfl, rfl⟩)⟩
  · cases h)

def c_slices_Clone_Lbool : Contract := fun vs bs => match vs, bs with
  | [.one (.dat (.list .bool) l)], [] => some (some (len l ≤ 1000), .one (.own 0), [.arr .bool l])
  | _, _ => none
def Γ_slices_Clone_Lbool : Ctx := []
theorem ok_slices_Clone_Lbool : Ok Tryd.prog tab Γ_slices_Clone_Lbool := ok_nil
theorem slices_Clone_Lbool_vc (l : List Bool) (rec : List It → St → Prop) (K : V → List Blk → Prop) : segO Γ_slices_Clone_Lbool tab fn_slices_Clone_Lbool 0 K rec [.code (bodyOf fn_slices_Clone_Lbool)] (initSt [.one (.dat (Ty.list Ty.bool) l)] []) = (
    (∀ bn : Bool, (((bn = true) → ((len l) = 0)) → br bn
       (K (.one (.own 0)) [.arr Ty.bool []])
       ((((0 + (len l)) * 1) ≤ 140737488355328) ∧
        (K (.one (.own 0)) [.arr Ty.bool (cat [] l)]))))) := by kernel_rfl
theorem slices_Clone_Lbool_w (l : List Bool) (m : Nat) (K : V → List Blk → Prop) : goO Γ_slices_Clone_Lbool tab fn_slices_Clone_Lbool 0 K (m + 1) [.code (bodyOf fn_slices_Clone_Lbool)] (initSt [.one (.dat (Ty.list Ty.bool) l)] []) = segO Γ_slices_Clone_Lbool tab fn_slices_Clone_Lbool 0 K (goO Γ_slices_Clone_Lbool tab fn_slices_Clone_Lbool 0 K m) [.code (bodyOf fn_slices_Clone_Lbool)] (initSt [.one (.dat (Ty.list Ty.bool) l)] []) := rfl

set_option maxHeartbeats 4000000 in
theorem run_slices_Clone_Lbool (l : List Bool) (hp : len l ≤ 1000) (K : V → List Blk → Prop) (hK : K (.one (.own 0)) [.arr .bool l]) : ∃ m, goO Γ_slices_Clone_Lbool tab fn_slices_Clone_Lbool 0 K m [.code (bodyOf fn_slices_Clone_Lbool)] (initSt [.one (.dat (.list .bool) l)] []) := by
  refine ⟨1, ?_⟩
  rw [slices_Clone_Lbool_w, slices_Clone_Lbool_vc _ _ _]
  intro bn hb
  refine br_split (fun h => ?_) (fun h => ⟨by simp only [len] at hp ⊢; omega, hK⟩)
  have : l = [] := List.length_eq_zero_iff.1 (hb h)
  subst this
  exact hK
theorem sound_slices_Clone_Lbool : SoundC Tryd.prog tab n_slices_Clone_Lbool c_slices_Clone_Lbool := soundC_of ok_slices_Clone_Lbool hf_slices_Clone_Lbool hB_slices_Clone_Lbool (by
  intro vs bs p v bs' h hp
  unfold c_slices_Clone_Lbool at h
  split at h
  · cases h
    exact ⟨by kernel_rfl, rfl, .inr (run_slices_Clone_Lbool _ hp.1 _ ⟨rfl, rfl⟩)⟩
  · cases h)

def c_gate_Copy : Contract := fun vs bs => match vs, bs with
  | [.agg [.dat (.list .int) ws, .dat .int fu, .dat .bool up, .dat .int tv, .dat (.list .int) tk, .dat .int tt, .dat .int tn, .dat (.list .bool) vo, .dat (.list .bool) di]], [] => some (some (len ws * 8 ≤ 140737488355328 ∧ len tk * 8 ≤ 140737488355328 ∧ len vo ≤ 1000 ∧ len di ≤ 1000), .agg [.dat (.list .int) ws, .dat .int fu, .dat .bool up, .dat .int tv, .dat (.list .int) tk, .dat .int tt, .dat .int tn, .own 0, .own 1], [.arr .bool vo, .arr .bool di])
  | _, _ => none
def Γ_gate_Copy : Ctx := [(n_flash_Copy_d, c_flash_Copy_d), (n_slices_Clone_Lint_d, c_slices_Clone_Lint_d), (n_slices_Clone_Lbool, c_slices_Clone_Lbool)]
theorem ok_gate_Copy : Ok Tryd.prog tab Γ_gate_Copy := (((ok_nil.consC hf_slices_Clone_Lbool hB_slices_Clone_Lbool sound_slices_Clone_Lbool).consC hf_slices_Clone_Lint_d hB_slices_Clone_Lint_d sound_slices_Clone_Lint_d).consC hf_flash_Copy_d hB_flash_Copy_d sound_flash_Copy_d)
theorem gate_Copy_vc (ws : List Int) (fu : Int) (up : Bool) (tv : Int) (tk : List Int) (tt : Int) (tn : Int) (vo : List Bool) (di : List Bool) (rec : List It → St → Prop) (K : V → List Blk → Prop) : segO Γ_gate_Copy tab fn_gate_Copy 0 K rec [.code (bodyOf fn_gate_Copy)] (initSt [.agg [.dat (Ty.list Ty.int) ws, .dat Ty.int fu, .dat Ty.bool up, .dat Ty.int tv, .dat (Ty.list Ty.int) tk, .dat Ty.int tt, .dat Ty.int tn, .dat (Ty.list Ty.bool) vo, .dat (Ty.list Ty.bool) di]] []) = (
    (((len ws) * 8) ≤ 140737488355328) ∧
    ((((len tk) * 8) ≤ 140737488355328) ∧
    (((len vo) ≤ 1000) ∧
    (((len di) ≤ 1000) ∧
    (K (.agg [.dat (Ty.list Ty.int) ws, .dat Ty.int fu, .dat Ty.bool up, .dat Ty.int tv, .dat (Ty.list Ty.int) tk, .dat Ty.int tt, .dat Ty.int tn, .own 0, .own 1]) [.arr Ty.bool vo, .arr Ty.bool di]))))) := by kernel_rfl
theorem gate_Copy_w (ws : List Int) (fu : Int) (up : Bool) (tv : Int) (tk : List Int) (tt : Int) (tn : Int) (vo : List Bool) (di : List Bool) (m : Nat) (K : V → List Blk → Prop) : goO Γ_gate_Copy tab fn_gate_Copy 0 K (m + 1) [.code (bodyOf fn_gate_Copy)] (initSt [.agg [.dat (Ty.list Ty.int) ws, .dat Ty.int fu, .dat Ty.bool up, .dat Ty.int tv, .dat (Ty.list Ty.int) tk, .dat Ty.int tt, .dat Ty.int tn, .dat (Ty.list Ty.bool) vo, .dat (Ty.list Ty.bool) di]] []) = segO Γ_gate_Copy tab fn_gate_Copy 0 K (goO Γ_gate_Copy tab fn_gate_Copy 0 K m) [.code (bodyOf fn_gate_Copy)] (initSt [.agg [.dat (Ty.list Ty.int) ws, .dat Ty.int fu, .dat Ty.bool up, .dat Ty.int tv, .dat (Ty.list Ty.int) tk, .dat Ty.int tt, .dat Ty.int tn, .dat (Ty.list Ty.bool) vo, .dat (Ty.list Ty.bool) di]] []) := rfl

set_option maxHeartbeats 4000000 in
theorem run_gate_Copy (ws : List Int) (fu : Int) (up : Bool) (tv : Int) (tk : List Int) (tt tn : Int) (vo di : List Bool) (hp : len ws * 8 ≤ 140737488355328 ∧ len tk * 8 ≤ 140737488355328 ∧ len vo ≤ 1000 ∧ len di ≤ 1000) (K : V → List Blk → Prop) (hK : K (.agg [.dat (.list .int) ws, .dat .int fu, .dat .bool up, .dat .int tv, .dat (.list .int) tk, .dat .int tt, .dat .int tn, .own 0, .own 1]) [.arr .bool vo, .arr .bool di]) : ∃ m, goO Γ_gate_Copy tab fn_gate_Copy 0 K m [.code (bodyOf fn_gate_Copy)] (initSt [.agg [.dat (.list .int) ws, .dat .int fu, .dat .bool up, .dat .int tv, .dat (.list .int) tk, .dat .int tt, .dat .int tn, .dat (.list .bool) vo, .dat (.list .bool) di]] []) := by
  refine ⟨1, ?_⟩
  rw [gate_Copy_w, gate_Copy_vc _ _ _ _ _ _ _ _ _ _ _]
  exact ⟨hp.1, hp.2.1, hp.2.2.1, hp.2.2.2, hK⟩
theorem sound_gate_Copy : SoundC Tryd.prog tab n_gate_Copy c_gate_Copy := soundC_of ok_gate_Copy hf_gate_Copy hB_gate_Copy (by
  intro vs bs p v bs' h hp
  unfold c_gate_Copy at h
  split at h
  · cases h
    exact ⟨by kernel_rfl, rfl, .inr (run_gate_Copy _ _ _ _ _ _ _ _ _ hp.1 _ ⟨rfl, rfl⟩)⟩
  · cases h)

def c_slices_Clone_Record : Contract := fun vs bs => match vs, bs with
  | [.one (.dat (.list .int) l)], [] => some (some (len l * 8 ≤ 140737488355328), .one (.own 0), [.arr .int l])
  | _, _ => none
def Γ_slices_Clone_Record : Ctx := []
theorem ok_slices_Clone_Record : Ok Tryd.prog tab Γ_slices_Clone_Record := ok_nil
theorem slices_Clone_Record_vc (l : List Int) (rec : List It → St → Prop) (K : V → List Blk → Prop) : segO Γ_slices_Clone_Record tab fn_slices_Clone_Record 0 K rec [.code (bodyOf fn_slices_Clone_Record)] (initSt [.one (.dat (Ty.list Ty.int) l)] []) = (
    (∀ bn : Bool, (((bn = true) → ((len l) = 0)) → br bn
       (K (.one (.own 0)) [.arr Ty.int []])
       ((((0 + (len l)) * 8) ≤ 140737488355328) ∧
        (K (.one (.own 0)) [.arr Ty.int (cat [] l)]))))) := by kernel_rfl
theorem slices_Clone_Record_w (l : List Int) (m : Nat) (K : V → List Blk → Prop) : goO Γ_slices_Clone_Record tab fn_slices_Clone_Record 0 K (m + 1) [.code (bodyOf fn_slices_Clone_Record)] (initSt [.one (.dat (Ty.list Ty.int) l)] []) = segO Γ_slices_Clone_Record tab fn_slices_Clone_Record 0 K (goO Γ_slices_Clone_Record tab fn_slices_Clone_Record 0 K m) [.code (bodyOf fn_slices_Clone_Record)] (initSt [.one (.dat (Ty.list Ty.int) l)] []) := rfl

set_option maxHeartbeats 4000000 in
theorem run_slices_Clone_Record (l : List Int) (hp : len l * 8 ≤ 140737488355328) (K : V → List Blk → Prop) (hK : K (.one (.own 0)) [.arr .int l]) : ∃ m, goO Γ_slices_Clone_Record tab fn_slices_Clone_Record 0 K m [.code (bodyOf fn_slices_Clone_Record)] (initSt [.one (.dat (.list .int) l)] []) := by
  refine ⟨1, ?_⟩
  rw [slices_Clone_Record_w, slices_Clone_Record_vc _ _ _]
  intro bn hb
  refine br_split (fun h => ?_) (fun h => ⟨by simp only [len] at hp ⊢; omega, hK⟩)
  have : l = [] := List.length_eq_zero_iff.1 (hb h)
  subst this
  exact hK
theorem sound_slices_Clone_Record : SoundC Tryd.prog tab n_slices_Clone_Record c_slices_Clone_Record := soundC_of ok_slices_Clone_Record hf_slices_Clone_Record hB_slices_Clone_Record (by
  intro vs bs p v bs' h hp
  unfold c_slices_Clone_Record at h
  split at h
  · cases h
    exact ⟨by kernel_rfl, rfl, .inr (run_slices_Clone_Record _ hp.1 _ ⟨rfl, rfl⟩)⟩
  · cases h)

def c_log_scan : Contract := fun vs bs => match vs, bs with
  | [.agg [.dat (.list .int) ws, .dat .int _], .one (.dat .int sector)], [] => some (some (0 ≤ sector ∧ sector ≤ 1 ∧ 64 ≤ len ws ∧ len ws ≤ 192 ∧ okWords ws = true), .tup [.one (.dat (.list (.list .int)) (scanS ws sector.toNat).1), .one (.dat .int (nextI sector.toNat (scanS ws sector.toNat).2))], [])
  | _, _ => none
def Γ_log_scan : Ctx := [(n_slices_Clone_Record, c_slices_Clone_Record)]
theorem ok_log_scan : Ok Tryd.prog tab Γ_log_scan := (ok_nil.consC hf_slices_Clone_Record hB_slices_Clone_Record sound_slices_Clone_Record)
noncomputable def log_scan_L0 : List It := [.inLoop [7, 6, 5, 4, 1] (Code.sub (bodyOf fn_log_scan) [1, 1, 1, 0, 0, 0]), .inBlock 0, .code (Code.sub (bodyOf fn_log_scan) [1, 1, 1, 1])]
def log_scan_S0 (x0 : Int) (x1 : (List Int)) (x2 : Int) (x3 : Int) (x4 : (List (List Int))) : St := ⟨[(7, .one (.dat Ty.int x0)), (6, .one (.dat (Ty.list Ty.int) x1)), (5, .one (.dat Ty.int x2)), (4, .one (.own 0)), (1, .one (.dat Ty.int x3))], [(0, .arr (Ty.list Ty.int) x4)], 1⟩
noncomputable def log_scan_L1 : List It := [.inLoop [74, 73, 72, 7, 5, 4, 1] (Code.sub (bodyOf fn_log_scan) [1, 1, 1, 1, 0, 1, 0, 0]), .inBlock 2, .code (Code.sub (bodyOf fn_log_scan) [1, 1, 1, 1, 1])]
def log_scan_S1 (x0 : Int) (x1 : Int) (x2 : (List Int)) (x3 : Int) (x4 : Int) (x5 : Int) (x6 : (List (List Int))) : St := ⟨[(74, .one (.dat Ty.int x0)), (73, .one (.dat Ty.int x1)), (72, .one (.dat (Ty.list Ty.int) x2)), (7, .one (.dat Ty.int x3)), (5, .one (.dat Ty.int x4)), (4, .one (.own 0)), (1, .one (.dat Ty.int x5))], [(0, .arr (Ty.list Ty.int) x6)], 1⟩
theorem log_scan_vc (ws : List Int) (fu : Int) (sector : Int) (rec : List It → St → Prop) (K : V → List Blk → Prop) : segD Γ_log_scan tab fn_log_scan 0 K rec [.code (bodyOf fn_log_scan)] (initSt [.agg [.dat (Ty.list Ty.int) ws, .dat Ty.int fu], .one (.dat Ty.int sector)] []) = (
    (((0 : Int) ≤ (w64 (sector * (32 : Int)))) ∧ (((w64 (sector * (32 : Int))) ≤ (w64 ((w64 (sector + (1 : Int))) * (32 : Int)))) ∧ ((w64 ((w64 (sector + (1 : Int))) * (32 : Int))) ≤ (((len ws) : Nat) : Int)))) ∧
    (rec log_scan_L0 (log_scan_S0 (1 : Int) (slc ws (Int.toNat (w64 (sector * (32 : Int)))) (Int.toNat (w64 ((w64 (sector + (1 : Int))) * (32 : Int))))) (0 : Int) sector []))) := by kernel_rfl
theorem log_scan_w (ws : List Int) (fu : Int) (sector : Int) (m : Nat) (K : V → List Blk → Prop) : goD Γ_log_scan tab fn_log_scan 0 K (m + 1) [.code (bodyOf fn_log_scan)] (initSt [.agg [.dat (Ty.list Ty.int) ws, .dat Ty.int fu], .one (.dat Ty.int sector)] []) = segD Γ_log_scan tab fn_log_scan 0 K (goD Γ_log_scan tab fn_log_scan 0 K m) [.code (bodyOf fn_log_scan)] (initSt [.agg [.dat (Ty.list Ty.int) ws, .dat Ty.int fu], .one (.dat Ty.int sector)] []) := rfl
theorem log_scan_vc0 (x0 : Int) (x1 : (List Int)) (x2 : Int) (x3 : Int) (x4 : (List (List Int))) (rec : List It → St → Prop) (K : V → List Blk → Prop) : segD Γ_log_scan tab fn_log_scan 0 K rec (.code (Code.sub (bodyOf fn_log_scan) [1, 1, 1, 0, 0, 0]) :: log_scan_L0) (log_scan_S0 x0 x1 x2 x3 x4) = (
    br (lti x0 (((len x1) : Nat) : Int))
     ((((0 : Int) ≤ x0) ∧ (x0 < (((len x1) : Nat) : Int))) ∧
      (br (!(eqi (nth x1 (Int.toNat x0) (Ty.dflt Ty.int)) (65535 : Int)))
       ((((0 : Int) ≤ x0) ∧ (x0 < (((len x1) : Nat) : Int))) ∧
        (br (lti (xori (nth x1 (Int.toNat x0) (Ty.dflt Ty.int)) (42240 : Int)) (1 : Int))
         (K (.tup [.one (.dat (Ty.list (Ty.list Ty.int)) x4), .one (.dat Ty.int (-(1 : Int)))]) [])
         (br (lti (4 : Int) (xori (nth x1 (Int.toNat x0) (Ty.dflt Ty.int)) (42240 : Int)))
           (K (.tup [.one (.dat (Ty.list (Ty.list Ty.int)) x4), .one (.dat Ty.int (-(1 : Int)))]) [])
           (br (lti (((len x1) : Nat) : Int) (w64 ((w64 (x0 + (xori (nth x1 (Int.toNat x0) (Ty.dflt Ty.int)) (42240 : Int)))) + (1 : Int))))
             (K (.tup [.one (.dat (Ty.list (Ty.list Ty.int)) x4), .one (.dat Ty.int (-(1 : Int)))]) [])
             ((((0 : Int) ≤ (w64 (x0 + (1 : Int)))) ∧ (((w64 (x0 + (1 : Int))) ≤ (w64 ((w64 (x0 + (1 : Int))) + (xori (nth x1 (Int.toNat x0) (Ty.dflt Ty.int)) (42240 : Int))))) ∧ ((w64 ((w64 (x0 + (1 : Int))) + (xori (nth x1 (Int.toNat x0) (Ty.dflt Ty.int)) (42240 : Int)))) ≤ (((len x1) : Nat) : Int)))) ∧
              ((((len (slc x1 (Int.toNat (w64 (x0 + (1 : Int)))) (Int.toNat (w64 ((w64 (x0 + (1 : Int))) + (xori (nth x1 (Int.toNat x0) (Ty.dflt Ty.int)) (42240 : Int))))))) * 8) ≤ 140737488355328) ∧
              (((((len x4) + (len ((slc x1 (Int.toNat (w64 (x0 + (1 : Int)))) (Int.toNat (w64 ((w64 (x0 + (1 : Int))) + (xori (nth x1 (Int.toNat x0) (Ty.dflt Ty.int)) (42240 : Int)))))) :: []))) * 24) ≤ 140737488355328) ∧
              (rec log_scan_L0 (log_scan_S0 (w64 (x0 + (w64 ((xori (nth x1 (Int.toNat x0) (Ty.dflt Ty.int)) (42240 : Int)) + (1 : Int))))) x1 x2 x3 (cat x4 ((slc x1 (Int.toNat (w64 (x0 + (1 : Int)))) (Int.toNat (w64 ((w64 (x0 + (1 : Int))) + (xori (nth x1 (Int.toNat x0) (Ty.dflt Ty.int)) (42240 : Int)))))) :: [])))))))))))
       ((((0 : Int) ≤ (min x0 (((len x1) : Nat) : Int))) ∧ (((min x0 (((len x1) : Nat) : Int)) ≤ (((len x1) : Nat) : Int)) ∧ ((((len x1) : Nat) : Int) ≤ (((len x1) : Nat) : Int)))) ∧
        (rec log_scan_L1 (log_scan_S1 (0 : Int) (((len (slc x1 (Int.toNat (min x0 (((len x1) : Nat) : Int))) (Int.toNat (((len x1) : Nat) : Int)))) : Nat) : Int) (slc x1 (Int.toNat (min x0 (((len x1) : Nat) : Int))) (Int.toNat (((len x1) : Nat) : Int))) x0 x2 x3 x4)))))
     ((((0 : Int) ≤ (min x0 (((len x1) : Nat) : Int))) ∧ (((min x0 (((len x1) : Nat) : Int)) ≤ (((len x1) : Nat) : Int)) ∧ ((((len x1) : Nat) : Int) ≤ (((len x1) : Nat) : Int)))) ∧
      (rec log_scan_L1 (log_scan_S1 (0 : Int) (((len (slc x1 (Int.toNat (min x0 (((len x1) : Nat) : Int))) (Int.toNat (((len x1) : Nat) : Int)))) : Nat) : Int) (slc x1 (Int.toNat (min x0 (((len x1) : Nat) : Int))) (Int.toNat (((len x1) : Nat) : Int))) x0 x2 x3 x4)))) := by kernel_rfl
theorem log_scan_w0 (x0 : Int) (x1 : (List Int)) (x2 : Int) (x3 : Int) (x4 : (List (List Int))) (m : Nat) (K : V → List Blk → Prop) : goD Γ_log_scan tab fn_log_scan 0 K (m + 1) log_scan_L0 (log_scan_S0 x0 x1 x2 x3 x4) = segD Γ_log_scan tab fn_log_scan 0 K (goD Γ_log_scan tab fn_log_scan 0 K m) (.code (Code.sub (bodyOf fn_log_scan) [1, 1, 1, 0, 0, 0]) :: log_scan_L0) (log_scan_S0 x0 x1 x2 x3 x4) := rfl
theorem log_scan_vc1 (x0 : Int) (x1 : Int) (x2 : (List Int)) (x3 : Int) (x4 : Int) (x5 : Int) (x6 : (List (List Int))) (rec : List It → St → Prop) (K : V → List Blk → Prop) : segD Γ_log_scan tab fn_log_scan 0 K rec (.code (Code.sub (bodyOf fn_log_scan) [1, 1, 1, 1, 0, 1, 0, 0]) :: log_scan_L1) (log_scan_S1 x0 x1 x2 x3 x4 x5 x6) = (
    br (lti x0 x1)
     ((((0 : Int) ≤ x0) ∧ (x0 < (((len x2) : Nat) : Int))) ∧
      (br (!(eqi (nth x2 (Int.toNat x0) (Ty.dflt Ty.int)) (65535 : Int)))
       (K (.tup [.one (.dat (Ty.list (Ty.list Ty.int)) x6), .one (.dat Ty.int (-(1 : Int)))]) [])
       (rec log_scan_L1 (log_scan_S1 (w64 (x0 + (1 : Int))) x1 x2 x3 x4 x5 x6))))
     (K (.tup [.one (.dat (Ty.list (Ty.list Ty.int)) x6), .one (.dat Ty.int (w64 ((w64 (x5 * (32 : Int))) + x3)))]) [])) := by kernel_rfl
theorem log_scan_w1 (x0 : Int) (x1 : Int) (x2 : (List Int)) (x3 : Int) (x4 : Int) (x5 : Int) (x6 : (List (List Int))) (m : Nat) (K : V → List Blk → Prop) : goD Γ_log_scan tab fn_log_scan 0 K (m + 1) log_scan_L1 (log_scan_S1 x0 x1 x2 x3 x4 x5 x6) = segD Γ_log_scan tab fn_log_scan 0 K (goD Γ_log_scan tab fn_log_scan 0 K m) (.code (Code.sub (bodyOf fn_log_scan) [1, 1, 1, 1, 0, 1, 0, 0]) :: log_scan_L1) (log_scan_S1 x0 x1 x2 x3 x4 x5 x6) := rfl

theorem clean_log_scan (x3 x4 x5 : Int) (x6 : List (List Int)) (K : V → List Blk → Prop) (t : List Int) (ht : t.length ≤ 32)
    (hK : K (.tup [.one (.dat (.list (.list .int)) x6), .one (.dat .int (if allClean t then w64 (w64 (x5 * 32) + x3) else -1))]) []) : ∀ (d k : Nat), t.length ≤ k + d → k ≤ t.length → allClean (t.take k) = true →
    goD Γ_log_scan tab fn_log_scan 0 K (d + 1) log_scan_L1 (log_scan_S1 (k : Int) (((len t) : Nat) : Int) t x3 x4 x5 x6)
  | 0, k, hk, hk2, he => by
    rw [log_scan_w1, log_scan_vc1 _ _ _ _ _ _ _ _ _]
    rw [List.take_of_length_le (by omega)] at he
    rw [if_pos he] at hK
    exact lt_f (by simp only [len]; omega) hK
  | d + 1, k, hk, hk2, he => by
    rw [log_scan_w1, log_scan_vc1 _ _ _ _ _ _ _ _ _, toNat_nat]
    by_cases c : k = t.length
    · rw [List.take_of_length_le (by omega)] at he
      rw [if_pos he] at hK
      exact lt_f (by simp only [len]; omega) hK
    refine lt_t (by simp only [len]; omega) ⟨⟨by omega, by simp only [len]; omega⟩, ne_s (fun hne => ?_) (fun heq => ?_)⟩
    · rw [if_neg (by rw [show allClean t = false from all_false (k := k) (by omega) (Ty.dflt Ty.int) (by simpa using hne)]; simp)] at hK
      exact hK
    · rw [w64_succ (by omega)]
      exact clean_log_scan x3 x4 x5 x6 K t ht hK d (k + 1) (by omega) (by omega) (all_take_step (by omega) (Ty.dflt Ty.int) he (by simpa using heq))
theorem exit_log_scan (s : List Int) (sec : Nat) (hsec : sec ≤ 1) (hl : s.length = 32) (K : V → List Blk → Prop) (k : Nat) (hk : k ≤ 32) (acc : List (List Int)) (M : Nat)
    (hK : K (.tup [.one (.dat (.list (.list .int)) acc), .one (.dat .int (if allClean (s.drop k) then 32 * (sec : Int) + k else -1))]) []) :
    goD Γ_log_scan tab fn_log_scan 0 K (M + 33) log_scan_L1 (log_scan_S1 (0 : Int) (((len (slc s (Int.toNat (min (k : Int) (((len s) : Nat) : Int))) (Int.toNat (((len s) : Nat) : Int)))) : Nat) : Int) (slc s (Int.toNat (min (k : Int) (((len s) : Nat) : Int))) (Int.toNat (((len s) : Nat) : Int))) (k : Int) 0 (sec : Int) acc) := by
  rw [show Int.toNat (min (k : Int) (((len s) : Nat) : Int)) = k by simp only [len]; omega, show Int.toNat (((len s) : Nat) : Int) = s.length from rfl, slc_drop]
  refine clean_log_scan _ _ _ _ K (s.drop k) (by simp; omega) ?_ (M + 32) 0 (by simp; omega) (by omega) rfl
  rw [w64_id (n := (sec : Int) * 32) (by omega) (by omega), w64_id (by omega) (by omega), show (sec : Int) * 32 + (k : Int) = 32 * (sec : Int) + k by omega]
  exact hK
theorem loop_log_scan (s : List Int) (sec : Nat) (hsec : sec ≤ 1) (hl : s.length = 32) (hok : okWords s = true) (K : V → List Blk → Prop) : ∀ (m k : Nat) (acc : List (List Int)), k ≤ 32 → 32 ≤ m + k → acc.length ≤ k →
    K (.tup [.one (.dat (.list (.list .int)) (acc ++ (scanL m (s.drop k)).1)), .one (.dat .int (match (scanL m (s.drop k)).2 with | some n => 32 * (sec : Int) + k + n | none => -1))]) [] →
    goD Γ_log_scan tab fn_log_scan 0 K (m + 34) log_scan_L0 (log_scan_S0 (k : Int) s 0 (sec : Int) acc)
  | 0, k, acc, hk, hm, ha, hK => by
    have : k = 32 := by omega
    subst this
    rw [show 0 + 34 = 33 + 1 by omega, log_scan_w0, log_scan_vc0 _ _ _ _ _ _ _]
    simp only [scanL, List.append_nil] at hK
    refine lt_f (by simp only [len]; omega) ⟨⟨by simp only [len]; omega, by simp only [len]; omega, by omega⟩, exit_log_scan s sec hsec hl K 32 (by omega) acc 0 ?_⟩
    rw [List.drop_of_length_le (by omega)]
    simpa [allClean] using hK
  | m + 1, k, acc, hk, hm, ha, hK => by
    rw [show m + 1 + 34 = (m + 34) + 1 by omega, log_scan_w0, log_scan_vc0 _ _ _ _ _ _ _, toNat_nat]
    by_cases c : k = 32
    · subst c
      rw [List.drop_of_length_le (by omega)] at hK
      simp only [scanL, List.append_nil] at hK
      refine lt_f (by simp only [len]; omega) ⟨⟨by simp only [len]; omega, by simp only [len]; omega, by omega⟩, exit_log_scan s sec hsec hl K 32 (by omega) acc (m + 1) ?_⟩
      rw [List.drop_of_length_le (by omega)]
      simpa [allClean] using hK
    rw [drop_step (by omega) (Ty.dflt Ty.int)] at hK
    obtain ⟨x, hx⟩ : ∃ x, nth s k (Ty.dflt Ty.int) = x := ⟨_, rfl⟩
    have hxo : okWord x = true := hx ▸ okWords_at hok k (by omega)
    rw [hx] at hK ⊢
    simp only [scanL] at hK
    refine lt_t (by simp only [len]; omega) ⟨⟨by omega, by simp only [len]; omega⟩, ne_s (fun hne => ?_) (fun heq => ?_)⟩
    case refine_2 =>
      rw [if_pos heq] at hK
      refine ⟨⟨by simp only [len]; omega, by simp only [len]; omega, by omega⟩, exit_log_scan s sec hsec hl K k hk acc (m + 1) ?_⟩
      rw [drop_step (by omega) (Ty.dflt Ty.int), hx]
      have e : allClean (x :: s.drop (k + 1)) = allClean (s.drop (k + 1)) := by simp [allClean, heq]
      rw [e]
      cases hc : allClean (s.drop (k + 1))
      · simpa [hc] using hK
      · simpa [hc] using hK
    rw [if_neg hne] at hK
    obtain ⟨g1, g2, g3, g4⟩ := xori_head hxo
    have none' : headN x = 0 → K (.tup [.one (.dat (.list (.list .int)) acc), .one (.dat .int (-1))]) [] := fun h => by
      rw [if_pos h] at hK
      simpa using hK
    refine ⟨⟨by omega, by simp only [len]; omega⟩, lt_s (fun h1 => none' (g3 (.inl h1))) (fun h1 => lt_s (fun h2 => none' (g3 (.inr h2))) (fun h2 => ?_))⟩
    obtain ⟨e1, e2, e3⟩ := g4 h1 h2
    rw [if_neg e2] at hK
    rw [e1]
    obtain ⟨n, hn⟩ : ∃ n, headN x = n := ⟨_, rfl⟩
    rw [hn] at hK e2 e3 ⊢
    rw [w64_id (n := (k : Int) + (n : Int)) (by omega) (by omega), w64_id (n := (k : Int) + (n : Int) + 1) (by omega) (by omega), w64_id (n := (k : Int) + 1) (by omega) (by omega), w64_id (n := (k : Int) + 1 + (n : Int)) (by omega) (by omega), w64_id (n := (n : Int) + 1) (by omega) (by omega), w64_id (n := (k : Int) + ((n : Int) + 1)) (by omega) (by omega)]
    have ld : (s.drop (k + 1)).length = 31 - k := by simp; omega
    refine lt_s (fun h3 => ?_) (fun h3 => ?_)
    · rw [if_neg (by simp only [len] at h3; omega)] at hK
      simpa using hK
    · simp only [len] at h3
      rw [if_pos (by omega)] at hK
      rw [show Int.toNat ((k : Int) + 1) = k + 1 by omega, show Int.toNat ((k : Int) + 1 + (n : Int)) = k + 1 + n by omega, show (k : Int) + ((n : Int) + 1) = ((k + 1 + n : Nat) : Int) by omega]
      have es : slc s (k + 1) (k + 1 + n) = (s.drop (k + 1)).take n := by simp [slc, List.take_drop]
      rw [es]
      refine ⟨⟨by omega, by omega, by simp only [len]; omega⟩, by simp only [len, List.length_take]; omega, by simp only [len, List.length_cons, List.length_nil]; omega, ?_⟩
      refine loop_log_scan s sec hsec hl hok K m (k + 1 + n) _ (by omega) (by omega) (by simp only [cat, List.length_append, List.length_cons, List.length_nil]; omega) ?_
      rw [List.drop_drop] at hK
      have hK' := hK
      simp only [cat, List.append_assoc, List.cons_append, List.nil_append] at hK' ⊢
      cases hsc : (scanL m (s.drop (k + 1 + n))).2 with
      | none => simpa [hsc] using hK'
      | some p =>
        simp only [hsc, Option.map] at hK'
        rw [show 32 * (sec : Int) + (k : Int) + ((p + n + 1 : Nat) : Int) = 32 * (sec : Int) + ((k + 1 + n : Nat) : Int) + (p : Int) by omega] at hK'
        exact hK'
set_option maxHeartbeats 4000000 in
theorem run_log_scan (ws : List Int) (fu sector : Int) (hp : 0 ≤ sector ∧ sector ≤ 1 ∧ 64 ≤ len ws ∧ len ws ≤ 192 ∧ okWords ws = true) (K : V → List Blk → Prop) (hK : K (.tup [.one (.dat (.list (.list .int)) (scanS ws sector.toNat).1), .one (.dat .int (nextI sector.toNat (scanS ws sector.toNat).2))]) []) : ∃ m, goD Γ_log_scan tab fn_log_scan 0 K m [.code (bodyOf fn_log_scan)] (initSt [.agg [.dat (.list .int) ws, .dat .int fu], .one (.dat .int sector)] []) := by
  obtain ⟨h0, h1, h2, h3, hok⟩ := hp
  obtain ⟨sec, rfl⟩ := Int.eq_ofNat_of_zero_le h0
  refine ⟨32 + 34 + 1, ?_⟩
  rw [log_scan_w, log_scan_vc _ _ _ _ _]
  rw [w64_id (n := (sec : Int) * 32) (by omega) (by omega), w64_id (n := (sec : Int) + 1) (by omega) (by omega), w64_id (by omega) (by omega)]
  simp only [len] at h2 h3 ⊢
  refine ⟨⟨by omega, by omega, by omega⟩, ?_⟩
  rw [show Int.toNat ((sec : Int) * 32) = 32 * sec by omega, show Int.toNat (((sec : Int) + 1) * 32) = 32 * sec + 32 by omega]
  refine loop_log_scan (slc ws (32 * sec) (32 * sec + 32)) sec (by omega) (slc_len _ _ _ (by omega)) (slc_ok hok _ _) K 32 1 [] (by omega) (by omega) (by simp) ?_
  rw [toNat_nat] at hK
  unfold scanS sectorW at hK
  rw [List.nil_append]
  cases hsc : (scanL 32 ((slc ws (32 * sec) (32 * sec + 32)).drop 1)).2 with
  | none =>
    simp only [hsc, nextI] at hK
    exact hK
  | some p =>
    simp only [hsc, nextI] at hK
    exact hK
theorem sound_log_scan : SoundC Tryd.prog tab n_log_scan c_log_scan := soundC_of ok_log_scan hf_log_scan hB_log_scan (by
  intro vs bs p v bs' h hp
  unfold c_log_scan at h
  split at h
  · cases h
    exact ⟨by kernel_rfl, rfl, .inl (run_log_scan _ _ _ hp.1 _ ⟨rfl, rfl⟩)⟩
  · cases h)

def c_log_Records : Contract := fun vs bs => match vs, bs with
  | [.agg [.dat (.list .int) ws, .dat .int fu]], [] => some (none, .tup [.one (.dat (.list (.list .int)) (recordsF ⟨ws, fu⟩).1), .one (.dat .int (recordsF ⟨ws, fu⟩).2)], [])
  | _, _ => none
def Γ_log_Records : Ctx := [(n_log_Check, c_log_Check), (n_log_live, c_log_live), (n_log_scan, c_log_scan)]
theorem ok_log_Records : Ok Tryd.prog tab Γ_log_Records := (((ok_nil.consC hf_log_scan hB_log_scan sound_log_scan).consC hf_log_live hB_log_live sound_log_live).consC hf_log_Check hB_log_Check sound_log_Check)
theorem log_Records_vc (ws : List Int) (fu : Int) (rec : List It → St → Prop) (K : V → List Blk → Prop) v0 (hv0 : v0 = (checkLog (⟨ws, fu⟩ : Flash))) v1 (hv1 : v1 = (okWords ws)) v2 (hv2 : v2 = (liveS ws)) v3 (hv3 : v3 = (scanS ws (Int.toNat ((v2 : Nat) : Int)))) : segD Γ_log_Records tab fn_log_Records 0 K rec [.code (bodyOf fn_log_Records)] (initSt [.agg [.dat (Ty.list Ty.int) ws, .dat Ty.int fu]] []) = (
    br (!(eqi v0 (0 : Int)))
     (K (.tup [.one (.dat (Ty.list (Ty.list Ty.int)) []), .one (.dat Ty.int v0)]) [])
     (((64 ≤ (len ws)) ∧ (v1 = true)) ∧
      ((((0 : Int) ≤ ((v2 : Nat) : Int)) ∧ ((((v2 : Nat) : Int) ≤ (1 : Int)) ∧ ((64 ≤ (len ws)) ∧ (((len ws) ≤ 192) ∧ (v1 = true))))) ∧
      (K (.tup [.one (.dat (Ty.list (Ty.list Ty.int)) (v3).fst), .one (.dat Ty.int (0 : Int))]) [])))) := by subst hv3; subst hv2; subst hv1; subst hv0; kernel_rfl
theorem log_Records_w (ws : List Int) (fu : Int) (m : Nat) (K : V → List Blk → Prop) : goD Γ_log_Records tab fn_log_Records 0 K (m + 1) [.code (bodyOf fn_log_Records)] (initSt [.agg [.dat (Ty.list Ty.int) ws, .dat Ty.int fu]] []) = segD Γ_log_Records tab fn_log_Records 0 K (goD Γ_log_Records tab fn_log_Records 0 K m) [.code (bodyOf fn_log_Records)] (initSt [.agg [.dat (Ty.list Ty.int) ws, .dat Ty.int fu]] []) := rfl

set_option maxHeartbeats 4000000 in
theorem run_log_Records (ws : List Int) (fu : Int) (K : V → List Blk → Prop) (hK : K (.tup [.one (.dat (.list (.list .int)) (recordsF ⟨ws, fu⟩).1), .one (.dat .int (recordsF ⟨ws, fu⟩).2)]) []) : ∃ m, goD Γ_log_Records tab fn_log_Records 0 K m [.code (bodyOf fn_log_Records)] (initSt [.agg [.dat (.list .int) ws, .dat .int fu]] []) := by
  refine ⟨1, ?_⟩
  rw [log_Records_w, log_Records_vc _ _ _ _ _ rfl _ rfl _ rfl _ rfl]
  unfold recordsF at hK
  refine ne_s (fun h => ?_) (fun h => ?_)
  · rw [if_neg h] at hK; exact hK
  rw [if_pos h] at hK
  obtain ⟨k1, k2, k3, k4⟩ := checkLog_ok h
  obtain ⟨c1, c2, c3, c4⟩ := checkFlash_ok k1
  obtain ⟨c5, c6⟩ := okLen_le c1
  have := liveS_le ws
  exact ⟨⟨k2, c4⟩, ⟨by omega, by omega, k2, c6, c4⟩, hK⟩
theorem sound_log_Records : SoundC Tryd.prog tab n_log_Records c_log_Records := soundC_of ok_log_Records hf_log_Records hB_log_Records (by
  intro vs bs p v bs' h hp
  unfold c_log_Records at h
  split at h
  · cases h
    exact ⟨by kernel_rfl, rfl, .inl (run_log_Records _ _ _ ⟨rfl, rfl⟩)⟩
  · cases h)

def c_gate_state : Contract := fun vs bs => match vs, bs with
  | [.one (.dat (.list (.list .int)) l)], [] => some (some (len l ≤ 1000 ∧ nonE l = true), .agg [.dat .int (stateG l).n, .dat .int (stateG l).version, .dat .bool (stateG l).commit, .dat .bool (stateG l).abort, .dat .bool (stateG l).ended], [])
  | _, _ => none
def Γ_gate_state : Ctx := []
theorem ok_gate_state : Ok Tryd.prog tab Γ_gate_state := ok_nil
noncomputable def gate_state_L0 : List It := [.inLoop [8, 7, 6, 3, 2] (Code.sub (bodyOf fn_gate_state) [1, 1, 0, 1, 0, 0]), .inBlock 0, .code (Code.sub (bodyOf fn_gate_state) [1, 1, 1])]
def gate_state_S0 (x0 : Int) (x1 : Int) (x2 : (List (List Int))) (x3 : Int) (x4 : Int) (x5 : Bool) (x6 : Bool) (x7 : Bool) (x8 : Int) (x9 : Int) (x10 : Bool) (x11 : Bool) (x12 : Bool) : St := ⟨[(8, .one (.dat Ty.int x0)), (7, .one (.dat Ty.int x1)), (6, .one (.dat (Ty.list (Ty.list Ty.int)) x2)), (3, .one (.ptr 0 0)), (2, .one (.ptr 1 0))], [(0, .box [.dat Ty.int x3, .dat Ty.int x4, .dat Ty.bool x5, .dat Ty.bool x6, .dat Ty.bool x7]), (1, .box [.dat Ty.int x8, .dat Ty.int x9, .dat Ty.bool x10, .dat Ty.bool x11, .dat Ty.bool x12])], 2⟩
theorem gate_state_vc (l : List (List Int)) (rec : List It → St → Prop) (K : V → List Blk → Prop) : segD Γ_gate_state tab fn_gate_state 0 K rec [.code (bodyOf fn_gate_state)] (initSt [.one (.dat (Ty.list (Ty.list Ty.int)) l)] []) = (
    rec gate_state_L0 (gate_state_S0 (0 : Int) (((len l) : Nat) : Int) l (0 : Int) (0 : Int) false false false (0 : Int) (0 : Int) false false false)) := by kernel_rfl
theorem gate_state_w (l : List (List Int)) (m : Nat) (K : V → List Blk → Prop) : goD Γ_gate_state tab fn_gate_state 0 K (m + 1) [.code (bodyOf fn_gate_state)] (initSt [.one (.dat (Ty.list (Ty.list Ty.int)) l)] []) = segD Γ_gate_state tab fn_gate_state 0 K (goD Γ_gate_state tab fn_gate_state 0 K m) [.code (bodyOf fn_gate_state)] (initSt [.one (.dat (Ty.list (Ty.list Ty.int)) l)] []) := rfl
theorem gate_state_vc0 (x0 : Int) (x1 : Int) (x2 : (List (List Int))) (x3 : Int) (x4 : Int) (x5 : Bool) (x6 : Bool) (x7 : Bool) (x8 : Int) (x9 : Int) (x10 : Bool) (x11 : Bool) (x12 : Bool) (rec : List It → St → Prop) (K : V → List Blk → Prop) : segD Γ_gate_state tab fn_gate_state 0 K rec (.code (Code.sub (bodyOf fn_gate_state) [1, 1, 0, 1, 0, 0]) :: gate_state_L0) (gate_state_S0 x0 x1 x2 x3 x4 x5 x6 x7 x8 x9 x10 x11 x12) = (
    br (lti x0 x1)
     ((((0 : Int) ≤ x0) ∧ (x0 < (((len x2) : Nat) : Int))) ∧
      ((((0 : Int) ≤ (0 : Int)) ∧ ((0 : Int) < (((len (nth x2 (Int.toNat x0) (Ty.dflt (Ty.list Ty.int)))) : Nat) : Int))) ∧
      (br (eqi (nth (nth x2 (Int.toNat x0) (Ty.dflt (Ty.list Ty.int))) (Int.toNat (0 : Int)) (Ty.dflt Ty.int)) (1 : Int))
       (br (eqi (((len (nth x2 (Int.toNat x0) (Ty.dflt (Ty.list Ty.int)))) : Nat) : Int) (3 : Int))
         ((((0 : Int) ≤ (1 : Int)) ∧ ((1 : Int) < (((len (nth x2 (Int.toNat x0) (Ty.dflt (Ty.list Ty.int)))) : Nat) : Int))) ∧
          (br (lei (1 : Int) (nth (nth x2 (Int.toNat x0) (Ty.dflt (Ty.list Ty.int))) (Int.toNat (1 : Int)) (Ty.dflt Ty.int)))
           ((((0 : Int) ≤ (1 : Int)) ∧ ((1 : Int) < (((len (nth x2 (Int.toNat x0) (Ty.dflt (Ty.list Ty.int)))) : Nat) : Int))) ∧
            (br (lei (nth (nth x2 (Int.toNat x0) (Ty.dflt (Ty.list Ty.int))) (Int.toNat (1 : Int)) (Ty.dflt Ty.int)) (8 : Int))
             ((((0 : Int) ≤ (1 : Int)) ∧ ((1 : Int) < (((len (nth x2 (Int.toNat x0) (Ty.dflt (Ty.list Ty.int)))) : Nat) : Int))) ∧
              ((((0 : Int) ≤ (2 : Int)) ∧ ((2 : Int) < (((len (nth x2 (Int.toNat x0) (Ty.dflt (Ty.list Ty.int)))) : Nat) : Int))) ∧
              (rec gate_state_L0 (gate_state_S0 (w64 (x0 + (1 : Int))) x1 x2 (nth (nth x2 (Int.toNat x0) (Ty.dflt (Ty.list Ty.int))) (Int.toNat (1 : Int)) (Ty.dflt Ty.int)) (nth (nth x2 (Int.toNat x0) (Ty.dflt (Ty.list Ty.int))) (Int.toNat (2 : Int)) (Ty.dflt Ty.int)) false false false x8 x9 x10 x11 x12))))
             (br (!(eqi (((len (nth x2 (Int.toNat x0) (Ty.dflt (Ty.list Ty.int)))) : Nat) : Int) (2 : Int)))
               (rec gate_state_L0 (gate_state_S0 (w64 (x0 + (1 : Int))) x1 x2 x3 x4 x5 x6 x7 x8 x9 x10 x11 x12))
               ((((0 : Int) ≤ (1 : Int)) ∧ ((1 : Int) < (((len (nth x2 (Int.toNat x0) (Ty.dflt (Ty.list Ty.int)))) : Nat) : Int))) ∧
                (br (!(eqi (nth (nth x2 (Int.toNat x0) (Ty.dflt (Ty.list Ty.int))) (Int.toNat (1 : Int)) (Ty.dflt Ty.int)) x3))
                 (rec gate_state_L0 (gate_state_S0 (w64 (x0 + (1 : Int))) x1 x2 x3 x4 x5 x6 x7 x8 x9 x10 x11 x12))
                 (br (eqi x3 (0 : Int))
                   (rec gate_state_L0 (gate_state_S0 (w64 (x0 + (1 : Int))) x1 x2 x3 x4 x5 x6 x7 x8 x9 x10 x11 x12))
                   ((((0 : Int) ≤ (0 : Int)) ∧ ((0 : Int) < (((len (nth x2 (Int.toNat x0) (Ty.dflt (Ty.list Ty.int)))) : Nat) : Int))) ∧
                    (br (eqi (nth (nth x2 (Int.toNat x0) (Ty.dflt (Ty.list Ty.int))) (Int.toNat (0 : Int)) (Ty.dflt Ty.int)) (2 : Int))
                     (br (!x6)
                       (rec gate_state_L0 (gate_state_S0 (w64 (x0 + (1 : Int))) x1 x2 x3 x4 true x6 x7 x8 x9 x10 x11 x12))
                       ((((0 : Int) ≤ (0 : Int)) ∧ ((0 : Int) < (((len (nth x2 (Int.toNat x0) (Ty.dflt (Ty.list Ty.int)))) : Nat) : Int))) ∧
                        (br (eqi (nth (nth x2 (Int.toNat x0) (Ty.dflt (Ty.list Ty.int))) (Int.toNat (0 : Int)) (Ty.dflt Ty.int)) (3 : Int))
                         (br (!x5)
                           (rec gate_state_L0 (gate_state_S0 (w64 (x0 + (1 : Int))) x1 x2 x3 x4 x5 true x7 x8 x9 x10 x11 x12))
                           ((((0 : Int) ≤ (0 : Int)) ∧ ((0 : Int) < (((len (nth x2 (Int.toNat x0) (Ty.dflt (Ty.list Ty.int)))) : Nat) : Int))) ∧
                            (br (eqi (nth (nth x2 (Int.toNat x0) (Ty.dflt (Ty.list Ty.int))) (Int.toNat (0 : Int)) (Ty.dflt Ty.int)) (4 : Int))
                             (br x5
                               (rec gate_state_L0 (gate_state_S0 (w64 (x0 + (1 : Int))) x1 x2 x3 x4 x5 x6 true x8 x9 x10 x11 x12))
                               (br x6
                                 (rec gate_state_L0 (gate_state_S0 (w64 (x0 + (1 : Int))) x1 x2 x3 x4 x5 x6 true x8 x9 x10 x11 x12))
                                 (rec gate_state_L0 (gate_state_S0 (w64 (x0 + (1 : Int))) x1 x2 x3 x4 x5 x6 x7 x8 x9 x10 x11 x12))))
                             (rec gate_state_L0 (gate_state_S0 (w64 (x0 + (1 : Int))) x1 x2 x3 x4 x5 x6 x7 x8 x9 x10 x11 x12)))))
                         ((((0 : Int) ≤ (0 : Int)) ∧ ((0 : Int) < (((len (nth x2 (Int.toNat x0) (Ty.dflt (Ty.list Ty.int)))) : Nat) : Int))) ∧
                          (br (eqi (nth (nth x2 (Int.toNat x0) (Ty.dflt (Ty.list Ty.int))) (Int.toNat (0 : Int)) (Ty.dflt Ty.int)) (4 : Int))
                           (br x5
                             (rec gate_state_L0 (gate_state_S0 (w64 (x0 + (1 : Int))) x1 x2 x3 x4 x5 x6 true x8 x9 x10 x11 x12))
                             (br x6
                               (rec gate_state_L0 (gate_state_S0 (w64 (x0 + (1 : Int))) x1 x2 x3 x4 x5 x6 true x8 x9 x10 x11 x12))
                               (rec gate_state_L0 (gate_state_S0 (w64 (x0 + (1 : Int))) x1 x2 x3 x4 x5 x6 x7 x8 x9 x10 x11 x12))))
                           (rec gate_state_L0 (gate_state_S0 (w64 (x0 + (1 : Int))) x1 x2 x3 x4 x5 x6 x7 x8 x9 x10 x11 x12)))))))
                     ((((0 : Int) ≤ (0 : Int)) ∧ ((0 : Int) < (((len (nth x2 (Int.toNat x0) (Ty.dflt (Ty.list Ty.int)))) : Nat) : Int))) ∧
                      (br (eqi (nth (nth x2 (Int.toNat x0) (Ty.dflt (Ty.list Ty.int))) (Int.toNat (0 : Int)) (Ty.dflt Ty.int)) (3 : Int))
                       (br (!x5)
                         (rec gate_state_L0 (gate_state_S0 (w64 (x0 + (1 : Int))) x1 x2 x3 x4 x5 true x7 x8 x9 x10 x11 x12))
                         ((((0 : Int) ≤ (0 : Int)) ∧ ((0 : Int) < (((len (nth x2 (Int.toNat x0) (Ty.dflt (Ty.list Ty.int)))) : Nat) : Int))) ∧
                          (br (eqi (nth (nth x2 (Int.toNat x0) (Ty.dflt (Ty.list Ty.int))) (Int.toNat (0 : Int)) (Ty.dflt Ty.int)) (4 : Int))
                           (br x5
                             (rec gate_state_L0 (gate_state_S0 (w64 (x0 + (1 : Int))) x1 x2 x3 x4 x5 x6 true x8 x9 x10 x11 x12))
                             (br x6
                               (rec gate_state_L0 (gate_state_S0 (w64 (x0 + (1 : Int))) x1 x2 x3 x4 x5 x6 true x8 x9 x10 x11 x12))
                               (rec gate_state_L0 (gate_state_S0 (w64 (x0 + (1 : Int))) x1 x2 x3 x4 x5 x6 x7 x8 x9 x10 x11 x12))))
                           (rec gate_state_L0 (gate_state_S0 (w64 (x0 + (1 : Int))) x1 x2 x3 x4 x5 x6 x7 x8 x9 x10 x11 x12)))))
                       ((((0 : Int) ≤ (0 : Int)) ∧ ((0 : Int) < (((len (nth x2 (Int.toNat x0) (Ty.dflt (Ty.list Ty.int)))) : Nat) : Int))) ∧
                        (br (eqi (nth (nth x2 (Int.toNat x0) (Ty.dflt (Ty.list Ty.int))) (Int.toNat (0 : Int)) (Ty.dflt Ty.int)) (4 : Int))
                         (br x5
                           (rec gate_state_L0 (gate_state_S0 (w64 (x0 + (1 : Int))) x1 x2 x3 x4 x5 x6 true x8 x9 x10 x11 x12))
                           (br x6
                             (rec gate_state_L0 (gate_state_S0 (w64 (x0 + (1 : Int))) x1 x2 x3 x4 x5 x6 true x8 x9 x10 x11 x12))
                             (rec gate_state_L0 (gate_state_S0 (w64 (x0 + (1 : Int))) x1 x2 x3 x4 x5 x6 x7 x8 x9 x10 x11 x12))))
                         (rec gate_state_L0 (gate_state_S0 (w64 (x0 + (1 : Int))) x1 x2 x3 x4 x5 x6 x7 x8 x9 x10 x11 x12))))))))))))))
           (br (!(eqi (((len (nth x2 (Int.toNat x0) (Ty.dflt (Ty.list Ty.int)))) : Nat) : Int) (2 : Int)))
             (rec gate_state_L0 (gate_state_S0 (w64 (x0 + (1 : Int))) x1 x2 x3 x4 x5 x6 x7 x8 x9 x10 x11 x12))
             ((((0 : Int) ≤ (1 : Int)) ∧ ((1 : Int) < (((len (nth x2 (Int.toNat x0) (Ty.dflt (Ty.list Ty.int)))) : Nat) : Int))) ∧
              (br (!(eqi (nth (nth x2 (Int.toNat x0) (Ty.dflt (Ty.list Ty.int))) (Int.toNat (1 : Int)) (Ty.dflt Ty.int)) x3))
               (rec gate_state_L0 (gate_state_S0 (w64 (x0 + (1 : Int))) x1 x2 x3 x4 x5 x6 x7 x8 x9 x10 x11 x12))
               (br (eqi x3 (0 : Int))
                 (rec gate_state_L0 (gate_state_S0 (w64 (x0 + (1 : Int))) x1 x2 x3 x4 x5 x6 x7 x8 x9 x10 x11 x12))
                 ((((0 : Int) ≤ (0 : Int)) ∧ ((0 : Int) < (((len (nth x2 (Int.toNat x0) (Ty.dflt (Ty.list Ty.int)))) : Nat) : Int))) ∧
                  (br (eqi (nth (nth x2 (Int.toNat x0) (Ty.dflt (Ty.list Ty.int))) (Int.toNat (0 : Int)) (Ty.dflt Ty.int)) (2 : Int))
                   (br (!x6)
                     (rec gate_state_L0 (gate_state_S0 (w64 (x0 + (1 : Int))) x1 x2 x3 x4 true x6 x7 x8 x9 x10 x11 x12))
                     ((((0 : Int) ≤ (0 : Int)) ∧ ((0 : Int) < (((len (nth x2 (Int.toNat x0) (Ty.dflt (Ty.list Ty.int)))) : Nat) : Int))) ∧
                      (br (eqi (nth (nth x2 (Int.toNat x0) (Ty.dflt (Ty.list Ty.int))) (Int.toNat (0 : Int)) (Ty.dflt Ty.int)) (3 : Int))
                       (br (!x5)
                         (rec gate_state_L0 (gate_state_S0 (w64 (x0 + (1 : Int))) x1 x2 x3 x4 x5 true x7 x8 x9 x10 x11 x12))
                         ((((0 : Int) ≤ (0 : Int)) ∧ ((0 : Int) < (((len (nth x2 (Int.toNat x0) (Ty.dflt (Ty.list Ty.int)))) : Nat) : Int))) ∧
                          (br (eqi (nth (nth x2 (Int.toNat x0) (Ty.dflt (Ty.list Ty.int))) (Int.toNat (0 : Int)) (Ty.dflt Ty.int)) (4 : Int))
                           (br x5
                             (rec gate_state_L0 (gate_state_S0 (w64 (x0 + (1 : Int))) x1 x2 x3 x4 x5 x6 true x8 x9 x10 x11 x12))
                             (br x6
                               (rec gate_state_L0 (gate_state_S0 (w64 (x0 + (1 : Int))) x1 x2 x3 x4 x5 x6 true x8 x9 x10 x11 x12))
                               (rec gate_state_L0 (gate_state_S0 (w64 (x0 + (1 : Int))) x1 x2 x3 x4 x5 x6 x7 x8 x9 x10 x11 x12))))
                           (rec gate_state_L0 (gate_state_S0 (w64 (x0 + (1 : Int))) x1 x2 x3 x4 x5 x6 x7 x8 x9 x10 x11 x12)))))
                       ((((0 : Int) ≤ (0 : Int)) ∧ ((0 : Int) < (((len (nth x2 (Int.toNat x0) (Ty.dflt (Ty.list Ty.int)))) : Nat) : Int))) ∧
                        (br (eqi (nth (nth x2 (Int.toNat x0) (Ty.dflt (Ty.list Ty.int))) (Int.toNat (0 : Int)) (Ty.dflt Ty.int)) (4 : Int))
                         (br x5
                           (rec gate_state_L0 (gate_state_S0 (w64 (x0 + (1 : Int))) x1 x2 x3 x4 x5 x6 true x8 x9 x10 x11 x12))
                           (br x6
                             (rec gate_state_L0 (gate_state_S0 (w64 (x0 + (1 : Int))) x1 x2 x3 x4 x5 x6 true x8 x9 x10 x11 x12))
                             (rec gate_state_L0 (gate_state_S0 (w64 (x0 + (1 : Int))) x1 x2 x3 x4 x5 x6 x7 x8 x9 x10 x11 x12))))
                         (rec gate_state_L0 (gate_state_S0 (w64 (x0 + (1 : Int))) x1 x2 x3 x4 x5 x6 x7 x8 x9 x10 x11 x12)))))))
                   ((((0 : Int) ≤ (0 : Int)) ∧ ((0 : Int) < (((len (nth x2 (Int.toNat x0) (Ty.dflt (Ty.list Ty.int)))) : Nat) : Int))) ∧
                    (br (eqi (nth (nth x2 (Int.toNat x0) (Ty.dflt (Ty.list Ty.int))) (Int.toNat (0 : Int)) (Ty.dflt Ty.int)) (3 : Int))
                     (br (!x5)
                       (rec gate_state_L0 (gate_state_S0 (w64 (x0 + (1 : Int))) x1 x2 x3 x4 x5 true x7 x8 x9 x10 x11 x12))
                       ((((0 : Int) ≤ (0 : Int)) ∧ ((0 : Int) < (((len (nth x2 (Int.toNat x0) (Ty.dflt (Ty.list Ty.int)))) : Nat) : Int))) ∧
                        (br (eqi (nth (nth x2 (Int.toNat x0) (Ty.dflt (Ty.list Ty.int))) (Int.toNat (0 : Int)) (Ty.dflt Ty.int)) (4 : Int))
                         (br x5
                           (rec gate_state_L0 (gate_state_S0 (w64 (x0 + (1 : Int))) x1 x2 x3 x4 x5 x6 true x8 x9 x10 x11 x12))
                           (br x6
                             (rec gate_state_L0 (gate_state_S0 (w64 (x0 + (1 : Int))) x1 x2 x3 x4 x5 x6 true x8 x9 x10 x11 x12))
                             (rec gate_state_L0 (gate_state_S0 (w64 (x0 + (1 : Int))) x1 x2 x3 x4 x5 x6 x7 x8 x9 x10 x11 x12))))
                         (rec gate_state_L0 (gate_state_S0 (w64 (x0 + (1 : Int))) x1 x2 x3 x4 x5 x6 x7 x8 x9 x10 x11 x12)))))
                     ((((0 : Int) ≤ (0 : Int)) ∧ ((0 : Int) < (((len (nth x2 (Int.toNat x0) (Ty.dflt (Ty.list Ty.int)))) : Nat) : Int))) ∧
                      (br (eqi (nth (nth x2 (Int.toNat x0) (Ty.dflt (Ty.list Ty.int))) (Int.toNat (0 : Int)) (Ty.dflt Ty.int)) (4 : Int))
                       (br x5
                         (rec gate_state_L0 (gate_state_S0 (w64 (x0 + (1 : Int))) x1 x2 x3 x4 x5 x6 true x8 x9 x10 x11 x12))
                         (br x6
                           (rec gate_state_L0 (gate_state_S0 (w64 (x0 + (1 : Int))) x1 x2 x3 x4 x5 x6 true x8 x9 x10 x11 x12))
                           (rec gate_state_L0 (gate_state_S0 (w64 (x0 + (1 : Int))) x1 x2 x3 x4 x5 x6 x7 x8 x9 x10 x11 x12))))
                       (rec gate_state_L0 (gate_state_S0 (w64 (x0 + (1 : Int))) x1 x2 x3 x4 x5 x6 x7 x8 x9 x10 x11 x12))))))))))))))
         (br (!(eqi (((len (nth x2 (Int.toNat x0) (Ty.dflt (Ty.list Ty.int)))) : Nat) : Int) (2 : Int)))
           (rec gate_state_L0 (gate_state_S0 (w64 (x0 + (1 : Int))) x1 x2 x3 x4 x5 x6 x7 x8 x9 x10 x11 x12))
           ((((0 : Int) ≤ (1 : Int)) ∧ ((1 : Int) < (((len (nth x2 (Int.toNat x0) (Ty.dflt (Ty.list Ty.int)))) : Nat) : Int))) ∧
            (br (!(eqi (nth (nth x2 (Int.toNat x0) (Ty.dflt (Ty.list Ty.int))) (Int.toNat (1 : Int)) (Ty.dflt Ty.int)) x3))
             (rec gate_state_L0 (gate_state_S0 (w64 (x0 + (1 : Int))) x1 x2 x3 x4 x5 x6 x7 x8 x9 x10 x11 x12))
             (br (eqi x3 (0 : Int))
               (rec gate_state_L0 (gate_state_S0 (w64 (x0 + (1 : Int))) x1 x2 x3 x4 x5 x6 x7 x8 x9 x10 x11 x12))
               ((((0 : Int) ≤ (0 : Int)) ∧ ((0 : Int) < (((len (nth x2 (Int.toNat x0) (Ty.dflt (Ty.list Ty.int)))) : Nat) : Int))) ∧
                (br (eqi (nth (nth x2 (Int.toNat x0) (Ty.dflt (Ty.list Ty.int))) (Int.toNat (0 : Int)) (Ty.dflt Ty.int)) (2 : Int))
                 (br (!x6)
                   (rec gate_state_L0 (gate_state_S0 (w64 (x0 + (1 : Int))) x1 x2 x3 x4 true x6 x7 x8 x9 x10 x11 x12))
                   ((((0 : Int) ≤ (0 : Int)) ∧ ((0 : Int) < (((len (nth x2 (Int.toNat x0) (Ty.dflt (Ty.list Ty.int)))) : Nat) : Int))) ∧
                    (br (eqi (nth (nth x2 (Int.toNat x0) (Ty.dflt (Ty.list Ty.int))) (Int.toNat (0 : Int)) (Ty.dflt Ty.int)) (3 : Int))
                     (br (!x5)
                       (rec gate_state_L0 (gate_state_S0 (w64 (x0 + (1 : Int))) x1 x2 x3 x4 x5 true x7 x8 x9 x10 x11 x12))
                       ((((0 : Int) ≤ (0 : Int)) ∧ ((0 : Int) < (((len (nth x2 (Int.toNat x0) (Ty.dflt (Ty.list Ty.int)))) : Nat) : Int))) ∧
                        (br (eqi (nth (nth x2 (Int.toNat x0) (Ty.dflt (Ty.list Ty.int))) (Int.toNat (0 : Int)) (Ty.dflt Ty.int)) (4 : Int))
                         (br x5
                           (rec gate_state_L0 (gate_state_S0 (w64 (x0 + (1 : Int))) x1 x2 x3 x4 x5 x6 true x8 x9 x10 x11 x12))
                           (br x6
                             (rec gate_state_L0 (gate_state_S0 (w64 (x0 + (1 : Int))) x1 x2 x3 x4 x5 x6 true x8 x9 x10 x11 x12))
                             (rec gate_state_L0 (gate_state_S0 (w64 (x0 + (1 : Int))) x1 x2 x3 x4 x5 x6 x7 x8 x9 x10 x11 x12))))
                         (rec gate_state_L0 (gate_state_S0 (w64 (x0 + (1 : Int))) x1 x2 x3 x4 x5 x6 x7 x8 x9 x10 x11 x12)))))
                     ((((0 : Int) ≤ (0 : Int)) ∧ ((0 : Int) < (((len (nth x2 (Int.toNat x0) (Ty.dflt (Ty.list Ty.int)))) : Nat) : Int))) ∧
                      (br (eqi (nth (nth x2 (Int.toNat x0) (Ty.dflt (Ty.list Ty.int))) (Int.toNat (0 : Int)) (Ty.dflt Ty.int)) (4 : Int))
                       (br x5
                         (rec gate_state_L0 (gate_state_S0 (w64 (x0 + (1 : Int))) x1 x2 x3 x4 x5 x6 true x8 x9 x10 x11 x12))
                         (br x6
                           (rec gate_state_L0 (gate_state_S0 (w64 (x0 + (1 : Int))) x1 x2 x3 x4 x5 x6 true x8 x9 x10 x11 x12))
                           (rec gate_state_L0 (gate_state_S0 (w64 (x0 + (1 : Int))) x1 x2 x3 x4 x5 x6 x7 x8 x9 x10 x11 x12))))
                       (rec gate_state_L0 (gate_state_S0 (w64 (x0 + (1 : Int))) x1 x2 x3 x4 x5 x6 x7 x8 x9 x10 x11 x12)))))))
                 ((((0 : Int) ≤ (0 : Int)) ∧ ((0 : Int) < (((len (nth x2 (Int.toNat x0) (Ty.dflt (Ty.list Ty.int)))) : Nat) : Int))) ∧
                  (br (eqi (nth (nth x2 (Int.toNat x0) (Ty.dflt (Ty.list Ty.int))) (Int.toNat (0 : Int)) (Ty.dflt Ty.int)) (3 : Int))
                   (br (!x5)
                     (rec gate_state_L0 (gate_state_S0 (w64 (x0 + (1 : Int))) x1 x2 x3 x4 x5 true x7 x8 x9 x10 x11 x12))
                     ((((0 : Int) ≤ (0 : Int)) ∧ ((0 : Int) < (((len (nth x2 (Int.toNat x0) (Ty.dflt (Ty.list Ty.int)))) : Nat) : Int))) ∧
                      (br (eqi (nth (nth x2 (Int.toNat x0) (Ty.dflt (Ty.list Ty.int))) (Int.toNat (0 : Int)) (Ty.dflt Ty.int)) (4 : Int))
                       (br x5
                         (rec gate_state_L0 (gate_state_S0 (w64 (x0 + (1 : Int))) x1 x2 x3 x4 x5 x6 true x8 x9 x10 x11 x12))
                         (br x6
                           (rec gate_state_L0 (gate_state_S0 (w64 (x0 + (1 : Int))) x1 x2 x3 x4 x5 x6 true x8 x9 x10 x11 x12))
                           (rec gate_state_L0 (gate_state_S0 (w64 (x0 + (1 : Int))) x1 x2 x3 x4 x5 x6 x7 x8 x9 x10 x11 x12))))
                       (rec gate_state_L0 (gate_state_S0 (w64 (x0 + (1 : Int))) x1 x2 x3 x4 x5 x6 x7 x8 x9 x10 x11 x12)))))
                   ((((0 : Int) ≤ (0 : Int)) ∧ ((0 : Int) < (((len (nth x2 (Int.toNat x0) (Ty.dflt (Ty.list Ty.int)))) : Nat) : Int))) ∧
                    (br (eqi (nth (nth x2 (Int.toNat x0) (Ty.dflt (Ty.list Ty.int))) (Int.toNat (0 : Int)) (Ty.dflt Ty.int)) (4 : Int))
                     (br x5
                       (rec gate_state_L0 (gate_state_S0 (w64 (x0 + (1 : Int))) x1 x2 x3 x4 x5 x6 true x8 x9 x10 x11 x12))
                       (br x6
                         (rec gate_state_L0 (gate_state_S0 (w64 (x0 + (1 : Int))) x1 x2 x3 x4 x5 x6 true x8 x9 x10 x11 x12))
                         (rec gate_state_L0 (gate_state_S0 (w64 (x0 + (1 : Int))) x1 x2 x3 x4 x5 x6 x7 x8 x9 x10 x11 x12))))
                     (rec gate_state_L0 (gate_state_S0 (w64 (x0 + (1 : Int))) x1 x2 x3 x4 x5 x6 x7 x8 x9 x10 x11 x12)))))))))))))
       (br (!(eqi (((len (nth x2 (Int.toNat x0) (Ty.dflt (Ty.list Ty.int)))) : Nat) : Int) (2 : Int)))
         (rec gate_state_L0 (gate_state_S0 (w64 (x0 + (1 : Int))) x1 x2 x3 x4 x5 x6 x7 x8 x9 x10 x11 x12))
         ((((0 : Int) ≤ (1 : Int)) ∧ ((1 : Int) < (((len (nth x2 (Int.toNat x0) (Ty.dflt (Ty.list Ty.int)))) : Nat) : Int))) ∧
          (br (!(eqi (nth (nth x2 (Int.toNat x0) (Ty.dflt (Ty.list Ty.int))) (Int.toNat (1 : Int)) (Ty.dflt Ty.int)) x3))
           (rec gate_state_L0 (gate_state_S0 (w64 (x0 + (1 : Int))) x1 x2 x3 x4 x5 x6 x7 x8 x9 x10 x11 x12))
           (br (eqi x3 (0 : Int))
             (rec gate_state_L0 (gate_state_S0 (w64 (x0 + (1 : Int))) x1 x2 x3 x4 x5 x6 x7 x8 x9 x10 x11 x12))
             ((((0 : Int) ≤ (0 : Int)) ∧ ((0 : Int) < (((len (nth x2 (Int.toNat x0) (Ty.dflt (Ty.list Ty.int)))) : Nat) : Int))) ∧
              (br (eqi (nth (nth x2 (Int.toNat x0) (Ty.dflt (Ty.list Ty.int))) (Int.toNat (0 : Int)) (Ty.dflt Ty.int)) (2 : Int))
               (br (!x6)
                 (rec gate_state_L0 (gate_state_S0 (w64 (x0 + (1 : Int))) x1 x2 x3 x4 true x6 x7 x8 x9 x10 x11 x12))
                 ((((0 : Int) ≤ (0 : Int)) ∧ ((0 : Int) < (((len (nth x2 (Int.toNat x0) (Ty.dflt (Ty.list Ty.int)))) : Nat) : Int))) ∧
                  (br (eqi (nth (nth x2 (Int.toNat x0) (Ty.dflt (Ty.list Ty.int))) (Int.toNat (0 : Int)) (Ty.dflt Ty.int)) (3 : Int))
                   (br (!x5)
                     (rec gate_state_L0 (gate_state_S0 (w64 (x0 + (1 : Int))) x1 x2 x3 x4 x5 true x7 x8 x9 x10 x11 x12))
                     ((((0 : Int) ≤ (0 : Int)) ∧ ((0 : Int) < (((len (nth x2 (Int.toNat x0) (Ty.dflt (Ty.list Ty.int)))) : Nat) : Int))) ∧
                      (br (eqi (nth (nth x2 (Int.toNat x0) (Ty.dflt (Ty.list Ty.int))) (Int.toNat (0 : Int)) (Ty.dflt Ty.int)) (4 : Int))
                       (br x5
                         (rec gate_state_L0 (gate_state_S0 (w64 (x0 + (1 : Int))) x1 x2 x3 x4 x5 x6 true x8 x9 x10 x11 x12))
                         (br x6
                           (rec gate_state_L0 (gate_state_S0 (w64 (x0 + (1 : Int))) x1 x2 x3 x4 x5 x6 true x8 x9 x10 x11 x12))
                           (rec gate_state_L0 (gate_state_S0 (w64 (x0 + (1 : Int))) x1 x2 x3 x4 x5 x6 x7 x8 x9 x10 x11 x12))))
                       (rec gate_state_L0 (gate_state_S0 (w64 (x0 + (1 : Int))) x1 x2 x3 x4 x5 x6 x7 x8 x9 x10 x11 x12)))))
                   ((((0 : Int) ≤ (0 : Int)) ∧ ((0 : Int) < (((len (nth x2 (Int.toNat x0) (Ty.dflt (Ty.list Ty.int)))) : Nat) : Int))) ∧
                    (br (eqi (nth (nth x2 (Int.toNat x0) (Ty.dflt (Ty.list Ty.int))) (Int.toNat (0 : Int)) (Ty.dflt Ty.int)) (4 : Int))
                     (br x5
                       (rec gate_state_L0 (gate_state_S0 (w64 (x0 + (1 : Int))) x1 x2 x3 x4 x5 x6 true x8 x9 x10 x11 x12))
                       (br x6
                         (rec gate_state_L0 (gate_state_S0 (w64 (x0 + (1 : Int))) x1 x2 x3 x4 x5 x6 true x8 x9 x10 x11 x12))
                         (rec gate_state_L0 (gate_state_S0 (w64 (x0 + (1 : Int))) x1 x2 x3 x4 x5 x6 x7 x8 x9 x10 x11 x12))))
                     (rec gate_state_L0 (gate_state_S0 (w64 (x0 + (1 : Int))) x1 x2 x3 x4 x5 x6 x7 x8 x9 x10 x11 x12)))))))
               ((((0 : Int) ≤ (0 : Int)) ∧ ((0 : Int) < (((len (nth x2 (Int.toNat x0) (Ty.dflt (Ty.list Ty.int)))) : Nat) : Int))) ∧
                (br (eqi (nth (nth x2 (Int.toNat x0) (Ty.dflt (Ty.list Ty.int))) (Int.toNat (0 : Int)) (Ty.dflt Ty.int)) (3 : Int))
                 (br (!x5)
                   (rec gate_state_L0 (gate_state_S0 (w64 (x0 + (1 : Int))) x1 x2 x3 x4 x5 true x7 x8 x9 x10 x11 x12))
                   ((((0 : Int) ≤ (0 : Int)) ∧ ((0 : Int) < (((len (nth x2 (Int.toNat x0) (Ty.dflt (Ty.list Ty.int)))) : Nat) : Int))) ∧
                    (br (eqi (nth (nth x2 (Int.toNat x0) (Ty.dflt (Ty.list Ty.int))) (Int.toNat (0 : Int)) (Ty.dflt Ty.int)) (4 : Int))
                     (br x5
                       (rec gate_state_L0 (gate_state_S0 (w64 (x0 + (1 : Int))) x1 x2 x3 x4 x5 x6 true x8 x9 x10 x11 x12))
                       (br x6
                         (rec gate_state_L0 (gate_state_S0 (w64 (x0 + (1 : Int))) x1 x2 x3 x4 x5 x6 true x8 x9 x10 x11 x12))
                         (rec gate_state_L0 (gate_state_S0 (w64 (x0 + (1 : Int))) x1 x2 x3 x4 x5 x6 x7 x8 x9 x10 x11 x12))))
                     (rec gate_state_L0 (gate_state_S0 (w64 (x0 + (1 : Int))) x1 x2 x3 x4 x5 x6 x7 x8 x9 x10 x11 x12)))))
                 ((((0 : Int) ≤ (0 : Int)) ∧ ((0 : Int) < (((len (nth x2 (Int.toNat x0) (Ty.dflt (Ty.list Ty.int)))) : Nat) : Int))) ∧
                  (br (eqi (nth (nth x2 (Int.toNat x0) (Ty.dflt (Ty.list Ty.int))) (Int.toNat (0 : Int)) (Ty.dflt Ty.int)) (4 : Int))
                   (br x5
                     (rec gate_state_L0 (gate_state_S0 (w64 (x0 + (1 : Int))) x1 x2 x3 x4 x5 x6 true x8 x9 x10 x11 x12))
                     (br x6
                       (rec gate_state_L0 (gate_state_S0 (w64 (x0 + (1 : Int))) x1 x2 x3 x4 x5 x6 true x8 x9 x10 x11 x12))
                       (rec gate_state_L0 (gate_state_S0 (w64 (x0 + (1 : Int))) x1 x2 x3 x4 x5 x6 x7 x8 x9 x10 x11 x12))))
                   (rec gate_state_L0 (gate_state_S0 (w64 (x0 + (1 : Int))) x1 x2 x3 x4 x5 x6 x7 x8 x9 x10 x11 x12)))))))))))))))
     (K (.agg [.dat Ty.int x3, .dat Ty.int x4, .dat Ty.bool x5, .dat Ty.bool x6, .dat Ty.bool x7]) [])) := by kernel_rfl
theorem gate_state_w0 (x0 : Int) (x1 : Int) (x2 : (List (List Int))) (x3 : Int) (x4 : Int) (x5 : Bool) (x6 : Bool) (x7 : Bool) (x8 : Int) (x9 : Int) (x10 : Bool) (x11 : Bool) (x12 : Bool) (m : Nat) (K : V → List Blk → Prop) : goD Γ_gate_state tab fn_gate_state 0 K (m + 1) gate_state_L0 (gate_state_S0 x0 x1 x2 x3 x4 x5 x6 x7 x8 x9 x10 x11 x12) = segD Γ_gate_state tab fn_gate_state 0 K (goD Γ_gate_state tab fn_gate_state 0 K m) (.code (Code.sub (bodyOf fn_gate_state) [1, 1, 0, 1, 0, 0]) :: gate_state_L0) (gate_state_S0 x0 x1 x2 x3 x4 x5 x6 x7 x8 x9 x10 x11 x12) := rfl

set_option maxHeartbeats 4000000 in
theorem step_gate_state (l : List (List Int)) (K : V → List Blk → Prop) (x8 x9 : Int) (x10 x11 x12 : Bool) (M k : Nat) (n v : Int) (c a e : Bool) (r : List Int) (hk : k < l.length) (hl : l.length ≤ 1000) (h0 : 0 < r.length) (hr : nth l k (Ty.dflt (Ty.list Ty.int)) = r)
    (nx : ∀ (n' v' : Int) (c' a' e' : Bool), stepGt ⟨n, v, c, a, e⟩ r = ⟨n', v', c', a', e'⟩ → goD Γ_gate_state tab fn_gate_state 0 K M gate_state_L0 (gate_state_S0 ((k + 1 : Nat) : Int) (((len l) : Nat) : Int) l n' v' c' a' e' x8 x9 x10 x11 x12)) :
    goD Γ_gate_state tab fn_gate_state 0 K (M + 1) gate_state_L0 (gate_state_S0 (k : Int) (((len l) : Nat) : Int) l n v c a e x8 x9 x10 x11 x12) := by
  rw [gate_state_w0, gate_state_vc0 _ _ _ _ _ _ _ _ _ _ _ _ _ _ _, toNat_nat, hr]
  have ek : w64 ((k : Int) + 1) = ((k + 1 : Nat) : Int) := w64_succ (by omega)
  rw [ek]
  obtain ⟨u0, e0⟩ : ∃ u0, r.getD 0 0 = u0 := ⟨_, rfl⟩
  obtain ⟨u1, e1⟩ : ∃ u1, r.getD 1 0 = u1 := ⟨_, rfl⟩
  obtain ⟨u2, e2⟩ : ∃ u2, r.getD 2 0 = u2 := ⟨_, rfl⟩
  have es : stepGt ⟨n, v, c, a, e⟩ r = if u0 = 1 ∧ r.length = 3 ∧ 1 ≤ u1 ∧ u1 ≤ 8 then ⟨u1, u2, false, false, false⟩ else if r.length ≠ 2 ∨ u1 ≠ n ∨ n = 0 then ⟨n, v, c, a, e⟩
      else if u0 = 2 ∧ a = false then ⟨n, v, true, a, e⟩ else if u0 = 3 ∧ c = false then ⟨n, v, c, true, e⟩ else if u0 = 4 ∧ (c = true ∨ a = true) then ⟨n, v, c, a, true⟩ else ⟨n, v, c, a, e⟩ := by
    unfold stepGt; rw [e0, e1, e2]
  rw [show nth r (Int.toNat 0) (Ty.dflt Ty.int) = u0 from e0, show nth r (Int.toNat 1) (Ty.dflt Ty.int) = u1 from e1, show nth r (Int.toNat 2) (Ty.dflt Ty.int) = u2 from e2]
  have hlen : len r = r.length := rfl
  rw [hlen]
  rw [es] at nx
  clear es
  refine lt_t (by simp only [len]; omega) ⟨⟨by omega, by simp only [len]; omega⟩, ?_⟩
  repeat' first
    | refine ⟨⟨by omega, by omega⟩, ?_⟩
    | refine eq_s (fun _ => ?_) (fun _ => ?_)
    | refine ne_s (fun _ => ?_) (fun _ => ?_)
    | refine nt_s (fun _ => ?_) (fun _ => ?_)
    | refine br_split (fun h => ?_) (fun h => ?_) <;> first | rw [lei_true] at h | rw [lei_false] at h
    | refine br_split (fun _ => ?_) (fun _ => ?_)
  all_goals first
    | (exfalso; omega)
    | exact nx _ _ _ _ _ (if_pos (by omega))
    | exact nx _ _ _ _ _ (by rw [if_neg (by omega), if_pos (by omega)])
    | exact nx _ _ _ _ _ (by rw [if_neg (by omega), if_neg (by omega), if_pos ⟨by omega, by assumption⟩])
    | exact nx _ _ _ _ _ (by rw [if_neg (by omega), if_neg (by omega), if_neg (by first | exact fun h => absurd h.1 (by omega) | exact fun h => absurd h.2 (by simp_all)), if_pos ⟨by omega, by assumption⟩])
    | exact nx _ _ _ _ _ (by rw [if_neg (by omega), if_neg (by omega), if_neg (by first | exact fun h => absurd h.1 (by omega) | exact fun h => absurd h.2 (by simp_all)), if_neg (by first | exact fun h => absurd h.1 (by omega) | exact fun h => absurd h.2 (by simp_all)), if_pos ⟨by omega, .inl (by assumption)⟩])
    | exact nx _ _ _ _ _ (by rw [if_neg (by omega), if_neg (by omega), if_neg (by first | exact fun h => absurd h.1 (by omega) | exact fun h => absurd h.2 (by simp_all)), if_neg (by first | exact fun h => absurd h.1 (by omega) | exact fun h => absurd h.2 (by simp_all)), if_pos ⟨by omega, .inr (by assumption)⟩])
    | exact nx _ _ _ _ _ (by rw [if_neg (by omega), if_neg (by omega), if_neg (by first | exact fun h => absurd h.1 (by omega) | exact fun h => absurd h.2 (by simp_all)), if_neg (by first | exact fun h => absurd h.1 (by omega) | exact fun h => absurd h.2 (by simp_all)), if_neg (by first | exact fun h => absurd h.1 (by omega) | exact fun h => absurd h.2 (by simp_all))])
theorem loop_gate_state (l : List (List Int)) (hl : l.length ≤ 1000) (hn : nonE l = true) (K : V → List Blk → Prop) (x8 x9 : Int) (x10 x11 x12 : Bool) : ∀ (d k : Nat) (n v : Int) (c a e : Bool), k + d = l.length →
    K (.agg [.dat .int ((l.drop k).foldl stepGt ⟨n, v, c, a, e⟩).n, .dat .int ((l.drop k).foldl stepGt ⟨n, v, c, a, e⟩).version, .dat .bool ((l.drop k).foldl stepGt ⟨n, v, c, a, e⟩).commit, .dat .bool ((l.drop k).foldl stepGt ⟨n, v, c, a, e⟩).abort, .dat .bool ((l.drop k).foldl stepGt ⟨n, v, c, a, e⟩).ended]) [] →
    goD Γ_gate_state tab fn_gate_state 0 K (d + 1) gate_state_L0 (gate_state_S0 (k : Int) (((len l) : Nat) : Int) l n v c a e x8 x9 x10 x11 x12)
  | 0, k, n, v, c, a, e, hk, hK => by
    rw [gate_state_w0, gate_state_vc0 _ _ _ _ _ _ _ _ _ _ _ _ _ _ _]
    rw [List.drop_of_length_le (by omega)] at hK
    exact lt_f (by simp only [len]; omega) hK
  | d + 1, k, n, v, c, a, e, hk, hK => by
    have hm : nth l k (Ty.dflt (Ty.list Ty.int)) ∈ l := by
      have : k < l.length := by omega
      simp [nth, List.getD_eq_getElem?_getD, this]
    have h0 : 0 < (nth l k (Ty.dflt (Ty.list Ty.int))).length := by simpa using List.all_eq_true.1 hn _ hm
    rw [drop_step (by omega) (Ty.dflt (Ty.list Ty.int))] at hK
    obtain ⟨r, hr⟩ : ∃ r, nth l k (Ty.dflt (Ty.list Ty.int)) = r := ⟨_, rfl⟩
    rw [hr] at hK h0
    rw [List.foldl_cons] at hK
    refine step_gate_state l K x8 x9 x10 x11 x12 (d + 1) k n v c a e r (by omega) hl h0 hr ?_
    have nx : ∀ (n' v' : Int) (c' a' e' : Bool), stepGt ⟨n, v, c, a, e⟩ r = ⟨n', v', c', a', e'⟩ → goD Γ_gate_state tab fn_gate_state 0 K (d + 1) gate_state_L0 (gate_state_S0 ((k + 1 : Nat) : Int) (((len l) : Nat) : Int) l n' v' c' a' e' x8 x9 x10 x11 x12) := fun n' v' c' a' e' h => by
      rw [h] at hK
      exact loop_gate_state l hl hn K x8 x9 x10 x11 x12 d (k + 1) n' v' c' a' e' (by omega) hK
    exact nx
set_option maxHeartbeats 4000000 in
theorem run_gate_state (l : List (List Int)) (hp : len l ≤ 1000 ∧ nonE l = true) (K : V → List Blk → Prop) (hK : K (.agg [.dat .int (stateG l).n, .dat .int (stateG l).version, .dat .bool (stateG l).commit, .dat .bool (stateG l).abort, .dat .bool (stateG l).ended]) []) : ∃ m, goD Γ_gate_state tab fn_gate_state 0 K m [.code (bodyOf fn_gate_state)] (initSt [.one (.dat (.list (.list .int)) l)] []) := by
  refine ⟨l.length + 2, ?_⟩
  rw [gate_state_w, gate_state_vc _ _ _]
  exact loop_gate_state l hp.1 hp.2 K 0 0 false false false l.length 0 0 0 false false false (by omega) hK
theorem sound_gate_state : SoundC Tryd.prog tab n_gate_state c_gate_state := soundC_of ok_gate_state hf_gate_state hB_gate_state (by
  intro vs bs p v bs' h hp
  unfold c_gate_state at h
  split at h
  · cases h
    exact ⟨by kernel_rfl, rfl, .inl (run_gate_state _ hp.1 _ ⟨rfl, rfl⟩)⟩
  · cases h)

abbrev n_gate_of_o : Nat := n_gate_of
noncomputable abbrev fn_gate_of_o : Func := fn_gate_of
theorem hf_gate_of_o : Tryd.prog.funcs[n_gate_of_o]? = some fn_gate_of_o := hf_gate_of
theorem hB_gate_of_o : fnB fn_gate_of_o = true := hB_gate_of
def c_gate_of_o : Contract := fun vs bs => match vs, bs with
  | [.agg [.dat (.list .int) ws, .dat .int fu, .dat .bool _, .dat .int _, .dat (.list .int) _, .dat .int _, .dat .int _, .own 0, .own 1]], [.arr .bool vo, .arr .bool di] => some (none, .agg [.dat .int (ofG ⟨ws, fu⟩).n, .dat .int (ofG ⟨ws, fu⟩).version, .dat .bool (ofG ⟨ws, fu⟩).commit, .dat .bool (ofG ⟨ws, fu⟩).abort, .dat .bool (ofG ⟨ws, fu⟩).ended], [.arr .bool vo, .arr .bool di])
  | _, _ => none
def Γ_gate_of_o : Ctx := [(n_log_Records, c_log_Records), (n_gate_state, c_gate_state)]
theorem ok_gate_of_o : Ok Tryd.prog tab Γ_gate_of_o := ((ok_nil.consC hf_gate_state hB_gate_state sound_gate_state).consC hf_log_Records hB_log_Records sound_log_Records)
theorem gate_of_o_vc (ws : List Int) (fu : Int) (up : Bool) (tv : Int) (tk : List Int) (tt : Int) (tn : Int) (vo : List Bool) (di : List Bool) (rec : List It → St → Prop) (K : V → List Blk → Prop) v0 (hv0 : v0 = (recordsF (⟨ws, fu⟩ : Vm.Flash))) v1 (hv1 : v1 = (nonE (v0).fst)) v2 (hv2 : v2 = (stateG (v0).fst)) : segD Γ_gate_of_o tab fn_gate_of_o 2 K rec [.code (bodyOf fn_gate_of_o)] (initSt [.agg [.dat (Ty.list Ty.int) ws, .dat Ty.int fu, .dat Ty.bool up, .dat Ty.int tv, .dat (Ty.list Ty.int) tk, .dat Ty.int tt, .dat Ty.int tn, .own 0, .own 1]] [.arr Ty.bool vo, .arr Ty.bool di]) = (
    (((len (v0).fst) ≤ 1000) ∧ (v1 = true)) ∧
    (K (.agg [.dat Ty.int (v2).n, .dat Ty.int (v2).version, .dat Ty.bool (v2).commit, .dat Ty.bool (v2).abort, .dat Ty.bool (v2).ended]) [.arr Ty.bool vo, .arr Ty.bool di])) := by subst hv2; subst hv1; subst hv0; kernel_rfl
theorem gate_of_o_w (ws : List Int) (fu : Int) (up : Bool) (tv : Int) (tk : List Int) (tt : Int) (tn : Int) (vo : List Bool) (di : List Bool) (m : Nat) (K : V → List Blk → Prop) : goD Γ_gate_of_o tab fn_gate_of_o 2 K (m + 1) [.code (bodyOf fn_gate_of_o)] (initSt [.agg [.dat (Ty.list Ty.int) ws, .dat Ty.int fu, .dat Ty.bool up, .dat Ty.int tv, .dat (Ty.list Ty.int) tk, .dat Ty.int tt, .dat Ty.int tn, .own 0, .own 1]] [.arr Ty.bool vo, .arr Ty.bool di]) = segD Γ_gate_of_o tab fn_gate_of_o 2 K (goD Γ_gate_of_o tab fn_gate_of_o 2 K m) [.code (bodyOf fn_gate_of_o)] (initSt [.agg [.dat (Ty.list Ty.int) ws, .dat Ty.int fu, .dat Ty.bool up, .dat Ty.int tv, .dat (Ty.list Ty.int) tk, .dat Ty.int tt, .dat Ty.int tn, .own 0, .own 1]] [.arr Ty.bool vo, .arr Ty.bool di]) := rfl

set_option maxHeartbeats 4000000 in
theorem run_gate_of_o (ws : List Int) (fu : Int) (up : Bool) (tv : Int) (tk : List Int) (tt tn : Int) (vo di : List Bool) (K : V → List Blk → Prop) (hK : K (.agg [.dat .int (ofG ⟨ws, fu⟩).n, .dat .int (ofG ⟨ws, fu⟩).version, .dat .bool (ofG ⟨ws, fu⟩).commit, .dat .bool (ofG ⟨ws, fu⟩).abort, .dat .bool (ofG ⟨ws, fu⟩).ended]) [.arr .bool vo, .arr .bool di]) : ∃ m, goD Γ_gate_of_o tab fn_gate_of_o 2 K m [.code (bodyOf fn_gate_of_o)] (initSt [.agg [.dat (.list .int) ws, .dat .int fu, .dat .bool up, .dat .int tv, .dat (.list .int) tk, .dat .int tt, .dat .int tn, .own 0, .own 1]] [.arr .bool vo, .arr .bool di]) := by
  refine ⟨1, ?_⟩
  rw [gate_of_o_w, gate_of_o_vc _ _ _ _ _ _ _ _ _ _ _ _ rfl _ rfl _ rfl]
  have h := recordsF_ok2 ⟨ws, fu⟩
  exact ⟨⟨by simp only [len]; omega, nonE_of h.2⟩, hK⟩
theorem sound_gate_of_o : SoundC Tryd.prog tab n_gate_of_o c_gate_of_o := soundC_of ok_gate_of_o hf_gate_of_o hB_gate_of_o (by
  intro vs bs p v bs' h hp
  unfold c_gate_of_o at h
  split at h
  · cases h
    exact ⟨by kernel_rfl, rfl, .inl (run_gate_of_o _ _ _ _ _ _ _ _ _ _ ⟨rfl, rfl⟩)⟩
  · cases h)

abbrev n_slices_Index_Lbool_o : Nat := n_slices_Index_Lbool
noncomputable abbrev fn_slices_Index_Lbool_o : Func := fn_slices_Index_Lbool
theorem hf_slices_Index_Lbool_o : Tryd.prog.funcs[n_slices_Index_Lbool_o]? = some fn_slices_Index_Lbool_o := hf_slices_Index_Lbool
theorem hB_slices_Index_Lbool_o : fnB fn_slices_Index_Lbool_o = true := hB_slices_Index_Lbool
def c_slices_Index_Lbool_o : Contract := fun vs bs => match vs, bs with
  | [.one (.own 0), .one (.dat .bool x)], [.arr .bool l] => some (some (len l ≤ 1000), .one (.dat .int (indexB x 0 l)), [.arr .bool l])
  | _, _ => none
def Γ_slices_Index_Lbool_o : Ctx := []
theorem ok_slices_Index_Lbool_o : Ok Tryd.prog tab Γ_slices_Index_Lbool_o := ok_nil
noncomputable def slices_Index_Lbool_o_L0 : List It := [.inLoop [8, 7, 4, 0, 1] (Code.sub (bodyOf fn_slices_Index_Lbool_o) [1, 0, 1, 0, 0]), .inBlock 0, .code (Code.sub (bodyOf fn_slices_Index_Lbool_o) [1, 1])]
def slices_Index_Lbool_o_S0 (x0 : Int) (x1 : Int) (x2 : Int) (x3 : Bool) (x4 : (List Bool)) : St := ⟨[(8, .one (.dat Ty.int x0)), (7, .one (.dat Ty.int x1)), (4, .one (.dat Ty.int x2)), (0, .one (.own 0)), (1, .one (.dat Ty.bool x3))], [(0, .arr Ty.bool x4)], 1⟩
theorem slices_Index_Lbool_o_vc (l : List Bool) (x : Bool) (rec : List It → St → Prop) (K : V → List Blk → Prop) : segD Γ_slices_Index_Lbool_o tab fn_slices_Index_Lbool_o 1 K rec [.code (bodyOf fn_slices_Index_Lbool_o)] (initSt [.one (.own 0), .one (.dat Ty.bool x)] [.arr Ty.bool l]) = (
    rec slices_Index_Lbool_o_L0 (slices_Index_Lbool_o_S0 (0 : Int) (((len l) : Nat) : Int) (0 : Int) x l)) := by kernel_rfl
theorem slices_Index_Lbool_o_w (l : List Bool) (x : Bool) (m : Nat) (K : V → List Blk → Prop) : goD Γ_slices_Index_Lbool_o tab fn_slices_Index_Lbool_o 1 K (m + 1) [.code (bodyOf fn_slices_Index_Lbool_o)] (initSt [.one (.own 0), .one (.dat Ty.bool x)] [.arr Ty.bool l]) = segD Γ_slices_Index_Lbool_o tab fn_slices_Index_Lbool_o 1 K (goD Γ_slices_Index_Lbool_o tab fn_slices_Index_Lbool_o 1 K m) [.code (bodyOf fn_slices_Index_Lbool_o)] (initSt [.one (.own 0), .one (.dat Ty.bool x)] [.arr Ty.bool l]) := rfl
theorem slices_Index_Lbool_o_vc0 (x0 : Int) (x1 : Int) (x2 : Int) (x3 : Bool) (x4 : (List Bool)) (rec : List It → St → Prop) (K : V → List Blk → Prop) : segD Γ_slices_Index_Lbool_o tab fn_slices_Index_Lbool_o 1 K rec (.code (Code.sub (bodyOf fn_slices_Index_Lbool_o) [1, 0, 1, 0, 0]) :: slices_Index_Lbool_o_L0) (slices_Index_Lbool_o_S0 x0 x1 x2 x3 x4) = (
    br (lti x0 x1)
     ((((0 : Int) ≤ x0) ∧ (x0 < (((len x4) : Nat) : Int))) ∧
      (((Int.toNat x0) < (len x4)) ∧
      (br (eqb x3 (nth x4 (Int.toNat x0) (Ty.dflt Ty.bool)))
       (K (.one (.dat Ty.int x0)) [.arr Ty.bool x4])
       (rec slices_Index_Lbool_o_L0 (slices_Index_Lbool_o_S0 (w64 (x0 + (1 : Int))) x1 x2 x3 x4)))))
     (K (.one (.dat Ty.int (-(1 : Int)))) [.arr Ty.bool x4])) := by kernel_rfl
theorem slices_Index_Lbool_o_w0 (x0 : Int) (x1 : Int) (x2 : Int) (x3 : Bool) (x4 : (List Bool)) (m : Nat) (K : V → List Blk → Prop) : goD Γ_slices_Index_Lbool_o tab fn_slices_Index_Lbool_o 1 K (m + 1) slices_Index_Lbool_o_L0 (slices_Index_Lbool_o_S0 x0 x1 x2 x3 x4) = segD Γ_slices_Index_Lbool_o tab fn_slices_Index_Lbool_o 1 K (goD Γ_slices_Index_Lbool_o tab fn_slices_Index_Lbool_o 1 K m) (.code (Code.sub (bodyOf fn_slices_Index_Lbool_o) [1, 0, 1, 0, 0]) :: slices_Index_Lbool_o_L0) (slices_Index_Lbool_o_S0 x0 x1 x2 x3 x4) := rfl

theorem loop_slices_Index_Lbool_o (l : List Bool) (s : Bool) (hl : l.length ≤ 1000) (K : V → List Blk → Prop) : ∀ (d k : Nat), k + d = l.length → K (.one (.dat .int (indexB s k (l.drop k)))) [.arr .bool l] →
    goD Γ_slices_Index_Lbool_o tab fn_slices_Index_Lbool_o 1 K (d + 1) slices_Index_Lbool_o_L0 (slices_Index_Lbool_o_S0 (k : Int) (((len l) : Nat) : Int) 0 s l)
  | 0, k, hk, hK => by
    rw [slices_Index_Lbool_o_w0, slices_Index_Lbool_o_vc0 _ _ _ _ _ _ _]
    rw [List.drop_of_length_le (by omega)] at hK
    exact lt_f (by simp only [len]; omega) hK
  | d + 1, k, hk, hK => by
    rw [slices_Index_Lbool_o_w0, slices_Index_Lbool_o_vc0 _ _ _ _ _ _ _, toNat_nat]
    rw [drop_step (by omega) (Ty.dflt Ty.bool)] at hK
    simp only [indexB] at hK
    refine lt_t (by simp only [len]; omega) ⟨⟨by omega, by simp only [len]; omega⟩, by simp only [len]; omega, br_split (fun h => ?_) (fun h => ?_)⟩
    · rw [if_pos (of_decide_eq_true h).symm] at hK; exact hK
    · rw [if_neg (fun e => of_decide_eq_false h e.symm)] at hK
      rw [w64_succ (by omega)]
      exact loop_slices_Index_Lbool_o l s hl K d (k + 1) (by omega) hK
set_option maxHeartbeats 4000000 in
theorem run_slices_Index_Lbool_o (l : List Bool) (x : Bool) (hp : len l ≤ 1000) (K : V → List Blk → Prop) (hK : K (.one (.dat .int (indexB x 0 l))) [.arr .bool l]) : ∃ m, goD Γ_slices_Index_Lbool_o tab fn_slices_Index_Lbool_o 1 K m [.code (bodyOf fn_slices_Index_Lbool_o)] (initSt [.one (.own 0), .one (.dat .bool x)] [.arr .bool l]) := by
  refine ⟨l.length + 2, ?_⟩
  rw [slices_Index_Lbool_o_w, slices_Index_Lbool_o_vc _ _ _ _]
  exact loop_slices_Index_Lbool_o l x hp K l.length 0 (by omega) hK
theorem sound_slices_Index_Lbool_o : SoundC Tryd.prog tab n_slices_Index_Lbool_o c_slices_Index_Lbool_o := soundC_of ok_slices_Index_Lbool_o hf_slices_Index_Lbool_o hB_slices_Index_Lbool_o (by
  intro vs bs p v bs' h hp
  unfold c_slices_Index_Lbool_o at h
  split at h
  · cases h
    exact ⟨by kernel_rfl, rfl, .inl (run_slices_Index_Lbool_o _ _ hp.1 _ ⟨rfl, rfl⟩)⟩
  · cases h)

abbrev n_slices_Contains_Lbool_o : Nat := n_slices_Contains_Lbool
noncomputable abbrev fn_slices_Contains_Lbool_o : Func := fn_slices_Contains_Lbool
theorem hf_slices_Contains_Lbool_o : Tryd.prog.funcs[n_slices_Contains_Lbool_o]? = some fn_slices_Contains_Lbool_o := hf_slices_Contains_Lbool
theorem hB_slices_Contains_Lbool_o : fnB fn_slices_Contains_Lbool_o = true := hB_slices_Contains_Lbool
def c_slices_Contains_Lbool_o : Contract := fun vs bs => match vs, bs with
  | [.one (.own 0), .one (.dat .bool x)], [.arr .bool l] => some (some (len l ≤ 1000), .one (.dat .bool (hasB x l)), [.arr .bool l])
  | _, _ => none
def Γ_slices_Contains_Lbool_o : Ctx := [(n_slices_Index_Lbool_o, c_slices_Index_Lbool_o)]
theorem ok_slices_Contains_Lbool_o : Ok Tryd.prog tab Γ_slices_Contains_Lbool_o := (ok_nil.consC hf_slices_Index_Lbool_o hB_slices_Index_Lbool_o sound_slices_Index_Lbool_o)
theorem slices_Contains_Lbool_o_vc (l : List Bool) (x : Bool) (rec : List It → St → Prop) (K : V → List Blk → Prop) v0 (hv0 : v0 = (indexB x 0 l)) : segD Γ_slices_Contains_Lbool_o tab fn_slices_Contains_Lbool_o 1 K rec [.code (bodyOf fn_slices_Contains_Lbool_o)] (initSt [.one (.own 0), .one (.dat Ty.bool x)] [.arr Ty.bool l]) = (
    ((len l) ≤ 1000) ∧
    (K (.one (.dat Ty.bool (lei (0 : Int) v0))) [.arr Ty.bool l])) := by subst hv0; kernel_rfl
theorem slices_Contains_Lbool_o_w (l : List Bool) (x : Bool) (m : Nat) (K : V → List Blk → Prop) : goD Γ_slices_Contains_Lbool_o tab fn_slices_Contains_Lbool_o 1 K (m + 1) [.code (bodyOf fn_slices_Contains_Lbool_o)] (initSt [.one (.own 0), .one (.dat Ty.bool x)] [.arr Ty.bool l]) = segD Γ_slices_Contains_Lbool_o tab fn_slices_Contains_Lbool_o 1 K (goD Γ_slices_Contains_Lbool_o tab fn_slices_Contains_Lbool_o 1 K m) [.code (bodyOf fn_slices_Contains_Lbool_o)] (initSt [.one (.own 0), .one (.dat Ty.bool x)] [.arr Ty.bool l]) := rfl

set_option maxHeartbeats 4000000 in
theorem run_slices_Contains_Lbool_o (l : List Bool) (x : Bool) (hp : len l ≤ 1000) (K : V → List Blk → Prop) (hK : K (.one (.dat .bool (hasB x l))) [.arr .bool l]) : ∃ m, goD Γ_slices_Contains_Lbool_o tab fn_slices_Contains_Lbool_o 1 K m [.code (bodyOf fn_slices_Contains_Lbool_o)] (initSt [.one (.own 0), .one (.dat .bool x)] [.arr .bool l]) := by
  refine ⟨1, ?_⟩
  rw [slices_Contains_Lbool_o_w, slices_Contains_Lbool_o_vc _ _ _ _ _ rfl]
  exact ⟨hp, hK⟩
theorem sound_slices_Contains_Lbool_o : SoundC Tryd.prog tab n_slices_Contains_Lbool_o c_slices_Contains_Lbool_o := soundC_of ok_slices_Contains_Lbool_o hf_slices_Contains_Lbool_o hB_slices_Contains_Lbool_o (by
  intro vs bs p v bs' h hp
  unfold c_slices_Contains_Lbool_o at h
  split at h
  · cases h
    exact ⟨by kernel_rfl, rfl, .inl (run_slices_Contains_Lbool_o _ _ hp.1 _ ⟨rfl, rfl⟩)⟩
  · cases h)

def c_gate_keep : Contract := fun vs bs => match vs, bs with
  | [.agg [.dat .int gn, .dat .int gv, .dat .bool gc, .dat .bool ga, .dat .bool ge]], [] => some (none, .one (.dat (.list (.list .int)) (keepG ⟨gn, gv, gc, ga, ge⟩)), [])
  | _, _ => none
def Γ_gate_keep : Ctx := []
theorem ok_gate_keep : Ok Tryd.prog tab Γ_gate_keep := ok_nil
theorem gate_keep_vc (gn : Int) (gv : Int) (gc : Bool) (ga : Bool) (ge : Bool) (rec : List It → St → Prop) (K : V → List Blk → Prop) : segD Γ_gate_keep tab fn_gate_keep 0 K rec [.code (bodyOf fn_gate_keep)] (initSt [.agg [.dat Ty.int gn, .dat Ty.int gv, .dat Ty.bool gc, .dat Ty.bool ga, .dat Ty.bool ge]] []) = (
    br (eqi gn (0 : Int))
     (K (.one (.dat (Ty.list (Ty.list Ty.int)) [])) [])
     (br gc
       (((((len (((1 : Int) :: (gn :: (gv :: []))) :: [])) + (len (((2 : Int) :: (gn :: [])) :: []))) * 24) ≤ 140737488355328) ∧
        (br ga
         (((((len (cat (((1 : Int) :: (gn :: (gv :: []))) :: []) (((2 : Int) :: (gn :: [])) :: []))) + (len (((3 : Int) :: (gn :: [])) :: []))) * 24) ≤ 140737488355328) ∧
          (br ge
           (((((len (cat (cat (((1 : Int) :: (gn :: (gv :: []))) :: []) (((2 : Int) :: (gn :: [])) :: [])) (((3 : Int) :: (gn :: [])) :: []))) + (len (((4 : Int) :: (gn :: [])) :: []))) * 24) ≤ 140737488355328) ∧
            (K (.one (.dat (Ty.list (Ty.list Ty.int)) (cat (cat (cat (((1 : Int) :: (gn :: (gv :: []))) :: []) (((2 : Int) :: (gn :: [])) :: [])) (((3 : Int) :: (gn :: [])) :: [])) (((4 : Int) :: (gn :: [])) :: [])))) []))
           (K (.one (.dat (Ty.list (Ty.list Ty.int)) (cat (cat (((1 : Int) :: (gn :: (gv :: []))) :: []) (((2 : Int) :: (gn :: [])) :: [])) (((3 : Int) :: (gn :: [])) :: [])))) [])))
         (br ge
           (((((len (cat (((1 : Int) :: (gn :: (gv :: []))) :: []) (((2 : Int) :: (gn :: [])) :: []))) + (len (((4 : Int) :: (gn :: [])) :: []))) * 24) ≤ 140737488355328) ∧
            (K (.one (.dat (Ty.list (Ty.list Ty.int)) (cat (cat (((1 : Int) :: (gn :: (gv :: []))) :: []) (((2 : Int) :: (gn :: [])) :: [])) (((4 : Int) :: (gn :: [])) :: [])))) []))
           (K (.one (.dat (Ty.list (Ty.list Ty.int)) (cat (((1 : Int) :: (gn :: (gv :: []))) :: []) (((2 : Int) :: (gn :: [])) :: [])))) []))))
       (br ga
         (((((len (((1 : Int) :: (gn :: (gv :: []))) :: [])) + (len (((3 : Int) :: (gn :: [])) :: []))) * 24) ≤ 140737488355328) ∧
          (br ge
           (((((len (cat (((1 : Int) :: (gn :: (gv :: []))) :: []) (((3 : Int) :: (gn :: [])) :: []))) + (len (((4 : Int) :: (gn :: [])) :: []))) * 24) ≤ 140737488355328) ∧
            (K (.one (.dat (Ty.list (Ty.list Ty.int)) (cat (cat (((1 : Int) :: (gn :: (gv :: []))) :: []) (((3 : Int) :: (gn :: [])) :: [])) (((4 : Int) :: (gn :: [])) :: [])))) []))
           (K (.one (.dat (Ty.list (Ty.list Ty.int)) (cat (((1 : Int) :: (gn :: (gv :: []))) :: []) (((3 : Int) :: (gn :: [])) :: [])))) [])))
         (br ge
           (((((len (((1 : Int) :: (gn :: (gv :: []))) :: [])) + (len (((4 : Int) :: (gn :: [])) :: []))) * 24) ≤ 140737488355328) ∧
            (K (.one (.dat (Ty.list (Ty.list Ty.int)) (cat (((1 : Int) :: (gn :: (gv :: []))) :: []) (((4 : Int) :: (gn :: [])) :: [])))) []))
           (K (.one (.dat (Ty.list (Ty.list Ty.int)) (((1 : Int) :: (gn :: (gv :: []))) :: []))) []))))) := by kernel_rfl
theorem gate_keep_w (gn : Int) (gv : Int) (gc : Bool) (ga : Bool) (ge : Bool) (m : Nat) (K : V → List Blk → Prop) : goD Γ_gate_keep tab fn_gate_keep 0 K (m + 1) [.code (bodyOf fn_gate_keep)] (initSt [.agg [.dat Ty.int gn, .dat Ty.int gv, .dat Ty.bool gc, .dat Ty.bool ga, .dat Ty.bool ge]] []) = segD Γ_gate_keep tab fn_gate_keep 0 K (goD Γ_gate_keep tab fn_gate_keep 0 K m) [.code (bodyOf fn_gate_keep)] (initSt [.agg [.dat Ty.int gn, .dat Ty.int gv, .dat Ty.bool gc, .dat Ty.bool ga, .dat Ty.bool ge]] []) := rfl

set_option maxHeartbeats 4000000 in
theorem run_gate_keep (gn gv : Int) (gc ga ge : Bool) (K : V → List Blk → Prop) (hK : K (.one (.dat (.list (.list .int)) (keepG ⟨gn, gv, gc, ga, ge⟩))) []) : ∃ m, goD Γ_gate_keep tab fn_gate_keep 0 K m [.code (bodyOf fn_gate_keep)] (initSt [.agg [.dat .int gn, .dat .int gv, .dat .bool gc, .dat .bool ga, .dat .bool ge]] []) := by
  refine ⟨1, ?_⟩
  rw [gate_keep_w, gate_keep_vc _ _ _ _ _ _ _]
  unfold keepG at hK
  refine eq_s (fun h => ?_) (fun h => ?_)
  · rw [if_pos (by exact h)] at hK; exact hK
  · rw [if_neg (by exact h)] at hK
    cases gc <;> cases ga <;> cases ge
    · exact br_f rfl (br_f rfl (br_f rfl hK))
    · exact br_f rfl (br_f rfl (br_t rfl ⟨by simp [len], hK⟩))
    · exact br_f rfl (br_t rfl ⟨by simp [len], br_f rfl hK⟩)
    · exact br_f rfl (br_t rfl ⟨by simp [len], br_t rfl ⟨by simp [len, cat], hK⟩⟩)
    · exact br_t rfl ⟨by simp [len], br_f rfl (br_f rfl hK)⟩
    · exact br_t rfl ⟨by simp [len], br_f rfl (br_t rfl ⟨by simp [len, cat], hK⟩)⟩
    · exact br_t rfl ⟨by simp [len], br_t rfl ⟨by simp [len, cat], br_f rfl hK⟩⟩
    · exact br_t rfl ⟨by simp [len], br_t rfl ⟨by simp [len, cat], br_t rfl ⟨by simp [len, cat], hK⟩⟩⟩
theorem sound_gate_keep : SoundC Tryd.prog tab n_gate_keep c_gate_keep := soundC_of ok_gate_keep hf_gate_keep hB_gate_keep (by
  intro vs bs p v bs' h hp
  unfold c_gate_keep at h
  split at h
  · cases h
    exact ⟨by kernel_rfl, rfl, .inl (run_gate_keep _ _ _ _ _ _ ⟨rfl, rfl⟩)⟩
  · cases h)

def c_log_check_1 : Contract := fun vs bs => match vs, bs with
  | [.one (.dat .int w)], [] => some (none, .one (.dat .bool (!okWord w)), [])
  | _, _ => none
def Γ_log_check_1 : Ctx := []
theorem ok_log_check_1 : Ok Tryd.prog tab Γ_log_check_1 := ok_nil
theorem log_check_1_vc (w : Int) (rec : List It → St → Prop) (K : V → List Blk → Prop) : segD Γ_log_check_1 tab fn_log_check_1 0 K rec [.code (bodyOf fn_log_check_1)] (initSt [.one (.dat Ty.int w)] []) = (
    br (lti w (0 : Int))
     (K (.one (.dat Ty.bool true)) [])
     (K (.one (.dat Ty.bool (lti (65535 : Int) w))) [])) := by kernel_rfl
theorem log_check_1_w (w : Int) (m : Nat) (K : V → List Blk → Prop) : goD Γ_log_check_1 tab fn_log_check_1 0 K (m + 1) [.code (bodyOf fn_log_check_1)] (initSt [.one (.dat Ty.int w)] []) = segD Γ_log_check_1 tab fn_log_check_1 0 K (goD Γ_log_check_1 tab fn_log_check_1 0 K m) [.code (bodyOf fn_log_check_1)] (initSt [.one (.dat Ty.int w)] []) := rfl

set_option maxHeartbeats 4000000 in
theorem run_log_check_1 (w : Int) (K : V → List Blk → Prop) (hK : K (.one (.dat .bool (!okWord w))) []) : ∃ m, goD Γ_log_check_1 tab fn_log_check_1 0 K m [.code (bodyOf fn_log_check_1)] (initSt [.one (.dat .int w)] []) := by
  refine ⟨1, ?_⟩
  rw [log_check_1_w, log_check_1_vc _ _ _]
  refine lt_s (fun h => ?_) (fun h => ?_)
  · rw [show (!okWord w) = true from by simp [okWord]; omega] at hK; exact hK
  · rw [show (!okWord w) = lti 65535 w from by simp [okWord, lti, h]; by_cases h2 : w ≤ 65535 <;> simp [h2] <;> omega] at hK; exact hK
theorem sound_log_check_1 : SoundC Tryd.prog tab n_log_check_1 c_log_check_1 := soundC_of ok_log_check_1 hf_log_check_1 hB_log_check_1 (by
  intro vs bs p v bs' h hp
  unfold c_log_check_1 at h
  split at h
  · cases h
    exact ⟨by kernel_rfl, rfl, .inl (run_log_check_1 _ _ ⟨rfl, rfl⟩)⟩
  · cases h)

def c_slices_IndexFunc_Record : Contract := fun vs bs => match vs, bs with
  | [.one (.dat (.list .int) l), .one (.fn f [])], [] => (match Nat.beq f n_log_check_1 with | true => some (some (Sm l), .one (.dat .int (firstBad l)), []) | false => none)
  | _, _ => none
def Γ_slices_IndexFunc_Record : Ctx := [(n_log_check_1, c_log_check_1)]
theorem ok_slices_IndexFunc_Record : Ok Tryd.prog tab Γ_slices_IndexFunc_Record := (ok_nil.consC hf_log_check_1 hB_log_check_1 sound_log_check_1)
noncomputable def slices_IndexFunc_Record_0_L0 : List It := [.inLoop [8, 7, 4, 0, 1] (Code.sub (bodyOf fn_slices_IndexFunc_Record) [1, 0, 1, 0, 0]), .inBlock 0, .code (Code.sub (bodyOf fn_slices_IndexFunc_Record) [1, 1])]
def slices_IndexFunc_Record_0_S0 (x0 : Int) (x1 : Int) (x2 : Int) (x3 : (List Int)) : St := ⟨[(8, .one (.dat Ty.int x0)), (7, .one (.dat Ty.int x1)), (4, .one (.dat Ty.int x2)), (0, .one (.dat (Ty.list Ty.int) x3)), (1, .one (.fn n_log_check_1 []))], [], 0⟩
theorem slices_IndexFunc_Record_0_vc (l : List Int) (rec : List It → St → Prop) (K : V → List Blk → Prop) : segD Γ_slices_IndexFunc_Record tab fn_slices_IndexFunc_Record 0 K rec [.code (bodyOf fn_slices_IndexFunc_Record)] (initSt [.one (.dat (Ty.list Ty.int) l), .one (.fn n_log_check_1 [])] []) = (
    rec slices_IndexFunc_Record_0_L0 (slices_IndexFunc_Record_0_S0 (0 : Int) (((len l) : Nat) : Int) (0 : Int) l)) := by kernel_rfl
theorem slices_IndexFunc_Record_0_w (l : List Int) (m : Nat) (K : V → List Blk → Prop) : goD Γ_slices_IndexFunc_Record tab fn_slices_IndexFunc_Record 0 K (m + 1) [.code (bodyOf fn_slices_IndexFunc_Record)] (initSt [.one (.dat (Ty.list Ty.int) l), .one (.fn n_log_check_1 [])] []) = segD Γ_slices_IndexFunc_Record tab fn_slices_IndexFunc_Record 0 K (goD Γ_slices_IndexFunc_Record tab fn_slices_IndexFunc_Record 0 K m) [.code (bodyOf fn_slices_IndexFunc_Record)] (initSt [.one (.dat (Ty.list Ty.int) l), .one (.fn n_log_check_1 [])] []) := rfl
theorem slices_IndexFunc_Record_0_vc0 (x0 : Int) (x1 : Int) (x2 : Int) (x3 : (List Int)) (rec : List It → St → Prop) (K : V → List Blk → Prop) v0 (hv0 : v0 = (okWord (nth x3 (Int.toNat x0) (Ty.dflt Ty.int)))) : segD Γ_slices_IndexFunc_Record tab fn_slices_IndexFunc_Record 0 K rec (.code (Code.sub (bodyOf fn_slices_IndexFunc_Record) [1, 0, 1, 0, 0]) :: slices_IndexFunc_Record_0_L0) (slices_IndexFunc_Record_0_S0 x0 x1 x2 x3) = (
    br (lti x0 x1)
     ((((0 : Int) ≤ x0) ∧ (x0 < (((len x3) : Nat) : Int))) ∧
      (br (!v0)
       (K (.one (.dat Ty.int x0)) [])
       (rec slices_IndexFunc_Record_0_L0 (slices_IndexFunc_Record_0_S0 (w64 (x0 + (1 : Int))) x1 x2 x3))))
     (K (.one (.dat Ty.int (-(1 : Int)))) [])) := by subst hv0; kernel_rfl
theorem slices_IndexFunc_Record_0_w0 (x0 : Int) (x1 : Int) (x2 : Int) (x3 : (List Int)) (m : Nat) (K : V → List Blk → Prop) : goD Γ_slices_IndexFunc_Record tab fn_slices_IndexFunc_Record 0 K (m + 1) slices_IndexFunc_Record_0_L0 (slices_IndexFunc_Record_0_S0 x0 x1 x2 x3) = segD Γ_slices_IndexFunc_Record tab fn_slices_IndexFunc_Record 0 K (goD Γ_slices_IndexFunc_Record tab fn_slices_IndexFunc_Record 0 K m) (.code (Code.sub (bodyOf fn_slices_IndexFunc_Record) [1, 0, 1, 0, 0]) :: slices_IndexFunc_Record_0_L0) (slices_IndexFunc_Record_0_S0 x0 x1 x2 x3) := rfl

theorem loop_slices_IndexFunc_Record_0 (l : List Int) (hs : Sm l) (K : V → List Blk → Prop) : ∀ (d k : Nat), k + d = l.length → K (.one (.dat .int (firstBadFrom k (l.drop k)))) [] →
    goD Γ_slices_IndexFunc_Record tab fn_slices_IndexFunc_Record 0 K (d + 1) slices_IndexFunc_Record_0_L0 (slices_IndexFunc_Record_0_S0 (k : Int) (((len l) : Nat) : Int) 0 l)
  | 0, k, hk, hK => by
    rw [slices_IndexFunc_Record_0_w0, slices_IndexFunc_Record_0_vc0 _ _ _ _ _ _ _ rfl]
    refine lt_f (by simp only [len]; omega) ?_
    rw [List.drop_of_length_le (by omega)] at hK
    exact hK
  | d + 1, k, hk, hK => by
    have hs' := hs
    unfold Sm at hs'
    rw [slices_IndexFunc_Record_0_w0, slices_IndexFunc_Record_0_vc0 _ _ _ _ _ _ _ rfl]
    rw [drop_step (by omega) (Ty.dflt Ty.int)] at hK
    simp only [firstBadFrom] at hK
    refine lt_t (by simp only [len]; omega) ⟨⟨by omega, by simp only [len]; omega⟩, nt_s (fun h => ?_) (fun h => ?_)⟩
    · rw [toNat_nat] at h
      rw [if_neg (by rw [h]; simp)] at hK
      exact hK
    · rw [toNat_nat] at h
      rw [if_pos h] at hK
      rw [w64_succ (by omega)]
      exact loop_slices_IndexFunc_Record_0 l hs K d (k + 1) (by omega) hK
set_option maxHeartbeats 4000000 in
theorem run_slices_IndexFunc_Record_0 (l : List Int) (hp : Sm l) (K : V → List Blk → Prop) (hK : K (.one (.dat .int (firstBad l))) []) : ∃ m, goD Γ_slices_IndexFunc_Record tab fn_slices_IndexFunc_Record 0 K m [.code (bodyOf fn_slices_IndexFunc_Record)] (initSt [.one (.dat (.list .int) l), .one (.fn n_log_check_1 [])] []) := by
  refine ⟨l.length + 2, ?_⟩
  rw [slices_IndexFunc_Record_0_w, slices_IndexFunc_Record_0_vc _ _ _]
  exact loop_slices_IndexFunc_Record_0 l hp K l.length 0 (by omega) hK
theorem sound_slices_IndexFunc_Record : SoundC Tryd.prog tab n_slices_IndexFunc_Record c_slices_IndexFunc_Record := soundC_of ok_slices_IndexFunc_Record hf_slices_IndexFunc_Record hB_slices_IndexFunc_Record (by
  intro vs bs p v bs' h hp
  unfold c_slices_IndexFunc_Record at h
  split at h
  · split at h
    · rename_i hfn
      have hfn := Nat.eq_of_beq_eq_true hfn
      subst hfn
      cases h
      exact ⟨by kernel_rfl, rfl, .inl (run_slices_IndexFunc_Record_0 _ hp.1 _ ⟨rfl, rfl⟩)⟩
    · cases h
  · cases h)

def c_slices_ContainsFunc_Record : Contract := fun vs bs => match vs, bs with
  | [.one (.dat (.list .int) l), .one (.fn f [])], [] => (match Nat.beq f n_log_check_1 with | true => some (some (Sm l), .one (.dat .bool (!okWords l)), []) | false => none)
  | _, _ => none
def Γ_slices_ContainsFunc_Record : Ctx := [(n_slices_IndexFunc_Record, c_slices_IndexFunc_Record), (n_log_check_1, c_log_check_1)]
theorem ok_slices_ContainsFunc_Record : Ok Tryd.prog tab Γ_slices_ContainsFunc_Record := ((ok_nil.consC hf_log_check_1 hB_log_check_1 sound_log_check_1).consC hf_slices_IndexFunc_Record hB_slices_IndexFunc_Record sound_slices_IndexFunc_Record)
theorem slices_ContainsFunc_Record_0_vc (l : List Int) (rec : List It → St → Prop) (K : V → List Blk → Prop) v0 (hv0 : v0 = (firstBad l)) : segD Γ_slices_ContainsFunc_Record tab fn_slices_ContainsFunc_Record 0 K rec [.code (bodyOf fn_slices_ContainsFunc_Record)] (initSt [.one (.dat (Ty.list Ty.int) l), .one (.fn n_log_check_1 [])] []) = (
    ((List.length l) ≤ 140737488355328) ∧
    (K (.one (.dat Ty.bool (lei (0 : Int) v0))) [])) := by subst hv0; kernel_rfl
theorem slices_ContainsFunc_Record_0_w (l : List Int) (m : Nat) (K : V → List Blk → Prop) : goD Γ_slices_ContainsFunc_Record tab fn_slices_ContainsFunc_Record 0 K (m + 1) [.code (bodyOf fn_slices_ContainsFunc_Record)] (initSt [.one (.dat (Ty.list Ty.int) l), .one (.fn n_log_check_1 [])] []) = segD Γ_slices_ContainsFunc_Record tab fn_slices_ContainsFunc_Record 0 K (goD Γ_slices_ContainsFunc_Record tab fn_slices_ContainsFunc_Record 0 K m) [.code (bodyOf fn_slices_ContainsFunc_Record)] (initSt [.one (.dat (Ty.list Ty.int) l), .one (.fn n_log_check_1 [])] []) := rfl

theorem firstBad_slices_ContainsFunc_Record : ∀ (l : List Int) (k : Int), 0 ≤ k → lei 0 (firstBadFrom k l) = !okWords l
  | [], k, hk => by simp [firstBadFrom, okWords, lei]
  | w :: l, k, hk => by
    simp only [firstBadFrom, okWords, List.all_cons]
    cases h : okWord w with
    | true => simpa [okWords] using firstBad_slices_ContainsFunc_Record l (k + 1) (by omega)
    | false => simp [lei, hk]
set_option maxHeartbeats 4000000 in
theorem run_slices_ContainsFunc_Record_0 (l : List Int) (hp : Sm l) (K : V → List Blk → Prop) (hK : K (.one (.dat .bool (!okWords l))) []) : ∃ m, goD Γ_slices_ContainsFunc_Record tab fn_slices_ContainsFunc_Record 0 K m [.code (bodyOf fn_slices_ContainsFunc_Record)] (initSt [.one (.dat (.list .int) l), .one (.fn n_log_check_1 [])] []) := by
  refine ⟨1, ?_⟩
  rw [slices_ContainsFunc_Record_0_w, slices_ContainsFunc_Record_0_vc _ _ _ _ rfl]
  refine ⟨hp, ?_⟩
  rw [show lei 0 (firstBad l) = !okWords l from firstBad_slices_ContainsFunc_Record l 0 (by omega)]
  exact hK
theorem sound_slices_ContainsFunc_Record : SoundC Tryd.prog tab n_slices_ContainsFunc_Record c_slices_ContainsFunc_Record := soundC_of ok_slices_ContainsFunc_Record hf_slices_ContainsFunc_Record hB_slices_ContainsFunc_Record (by
  intro vs bs p v bs' h hp
  unfold c_slices_ContainsFunc_Record at h
  split at h
  · split at h
    · rename_i hfn
      have hfn := Nat.eq_of_beq_eq_true hfn
      subst hfn
      cases h
      exact ⟨by kernel_rfl, rfl, .inl (run_slices_ContainsFunc_Record_0 _ hp.1 _ ⟨rfl, rfl⟩)⟩
    · cases h
  · cases h)

def c_log_check : Contract := fun vs bs => match vs, bs with
  | [.one (.dat (.list .int) l)], [] => some (some (Sm l), .one (.dat .int (checkRec l)), [])
  | _, _ => none
def Γ_log_check : Ctx := [(n_slices_ContainsFunc_Record, c_slices_ContainsFunc_Record), (n_log_check_1, c_log_check_1)]
theorem ok_log_check : Ok Tryd.prog tab Γ_log_check := ((ok_nil.consC hf_log_check_1 hB_log_check_1 sound_log_check_1).consC hf_slices_ContainsFunc_Record hB_slices_ContainsFunc_Record sound_slices_ContainsFunc_Record)
theorem log_check_vc (l : List Int) (rec : List It → St → Prop) (K : V → List Blk → Prop) v0 (hv0 : v0 = (okWords l)) : segD Γ_log_check tab fn_log_check 0 K rec [.code (bodyOf fn_log_check)] (initSt [.one (.dat (Ty.list Ty.int) l)] []) = (
    br (eqi (((len l) : Nat) : Int) (0 : Int))
     (K (.one (.dat Ty.int (2 : Int))) [])
     (br (lti (4 : Int) (((len l) : Nat) : Int))
       (K (.one (.dat Ty.int (2 : Int))) [])
       (((List.length l) ≤ 140737488355328) ∧
        (br (!v0)
         (K (.one (.dat Ty.int (3 : Int))) [])
         (K (.one (.dat Ty.int (0 : Int))) []))))) := by subst hv0; kernel_rfl
theorem log_check_w (l : List Int) (m : Nat) (K : V → List Blk → Prop) : goD Γ_log_check tab fn_log_check 0 K (m + 1) [.code (bodyOf fn_log_check)] (initSt [.one (.dat (Ty.list Ty.int) l)] []) = segD Γ_log_check tab fn_log_check 0 K (goD Γ_log_check tab fn_log_check 0 K m) [.code (bodyOf fn_log_check)] (initSt [.one (.dat (Ty.list Ty.int) l)] []) := rfl

set_option maxHeartbeats 4000000 in
theorem run_log_check (l : List Int) (hp : Sm l) (K : V → List Blk → Prop) (hK : K (.one (.dat .int (checkRec l))) []) : ∃ m, goD Γ_log_check tab fn_log_check 0 K m [.code (bodyOf fn_log_check)] (initSt [.one (.dat (.list .int) l)] []) := by
  refine ⟨1, ?_⟩
  rw [log_check_w, log_check_vc _ _ _ _ rfl]
  unfold checkRec at hK
  refine eq_s (fun h => ?_) (fun h => lt_s (fun h2 => ?_) (fun h2 => ⟨hp, nt_s (fun h3 => ?_) (fun h3 => ?_)⟩))
  · rw [if_neg (by simp only [len] at h; omega)] at hK; exact hK
  · rw [if_neg (by simp only [len] at h2; omega)] at hK; exact hK
  · rw [if_pos (by simp only [len] at h h2; omega), if_neg (by rw [h3]; simp)] at hK; exact hK
  · rw [if_pos (by simp only [len] at h h2; omega), if_pos h3] at hK; exact hK
theorem sound_log_check : SoundC Tryd.prog tab n_log_check c_log_check := soundC_of ok_log_check hf_log_check hB_log_check (by
  intro vs bs p v bs' h hp
  unfold c_log_check at h
  split at h
  · cases h
    exact ⟨by kernel_rfl, rfl, .inl (run_log_check _ hp.1 _ ⟨rfl, rfl⟩)⟩
  · cases h)

def c_slices_Clone_LRecord : Contract := fun vs bs => match vs, bs with
  | [.one (.dat (.list (.list .int)) l)], [] => some (some (len l * 24 ≤ 140737488355328), .one (.own 0), [.arr (.list .int) l])
  | _, _ => none
def Γ_slices_Clone_LRecord : Ctx := []
theorem ok_slices_Clone_LRecord : Ok Tryd.prog tab Γ_slices_Clone_LRecord := ok_nil
theorem slices_Clone_LRecord_vc (l : List (List Int)) (rec : List It → St → Prop) (K : V → List Blk → Prop) : segO Γ_slices_Clone_LRecord tab fn_slices_Clone_LRecord 0 K rec [.code (bodyOf fn_slices_Clone_LRecord)] (initSt [.one (.dat (Ty.list (Ty.list Ty.int)) l)] []) = (
    (∀ bn : Bool, (((bn = true) → ((len l) = 0)) → br bn
       (K (.one (.own 0)) [.arr (Ty.list Ty.int) []])
       ((((0 + (len l)) * 24) ≤ 140737488355328) ∧
        (K (.one (.own 0)) [.arr (Ty.list Ty.int) (cat [] l)]))))) := by kernel_rfl
theorem slices_Clone_LRecord_w (l : List (List Int)) (m : Nat) (K : V → List Blk → Prop) : goO Γ_slices_Clone_LRecord tab fn_slices_Clone_LRecord 0 K (m + 1) [.code (bodyOf fn_slices_Clone_LRecord)] (initSt [.one (.dat (Ty.list (Ty.list Ty.int)) l)] []) = segO Γ_slices_Clone_LRecord tab fn_slices_Clone_LRecord 0 K (goO Γ_slices_Clone_LRecord tab fn_slices_Clone_LRecord 0 K m) [.code (bodyOf fn_slices_Clone_LRecord)] (initSt [.one (.dat (Ty.list (Ty.list Ty.int)) l)] []) := rfl

set_option maxHeartbeats 4000000 in
theorem run_slices_Clone_LRecord (l : List (List Int)) (hp : len l * 24 ≤ 140737488355328) (K : V → List Blk → Prop) (hK : K (.one (.own 0)) [.arr (.list .int) l]) : ∃ m, goO Γ_slices_Clone_LRecord tab fn_slices_Clone_LRecord 0 K m [.code (bodyOf fn_slices_Clone_LRecord)] (initSt [.one (.dat (.list (.list .int)) l)] []) := by
  refine ⟨1, ?_⟩
  rw [slices_Clone_LRecord_w, slices_Clone_LRecord_vc _ _ _]
  intro bn hb
  refine br_split (fun h => ?_) (fun h => ⟨by simp only [len] at hp ⊢; omega, hK⟩)
  have : l = [] := List.length_eq_zero_iff.1 (hb h)
  subst this
  exact hK
theorem sound_slices_Clone_LRecord : SoundC Tryd.prog tab n_slices_Clone_LRecord c_slices_Clone_LRecord := soundC_of ok_slices_Clone_LRecord hf_slices_Clone_LRecord hB_slices_Clone_LRecord (by
  intro vs bs p v bs' h hp
  unfold c_slices_Clone_LRecord at h
  split at h
  · cases h
    exact ⟨by kernel_rfl, rfl, .inr (run_slices_Clone_LRecord _ hp.1 _ ⟨rfl, rfl⟩)⟩
  · cases h)

def c_log_head : Contract := fun vs bs => match vs, bs with
  | [.one (.dat .int n)], [] => some (some (0 ≤ n ∧ n ≤ 255), .one (.dat .int (42240 + n)), [])
  | _, _ => none
def Γ_log_head : Ctx := []
theorem ok_log_head : Ok Tryd.prog tab Γ_log_head := ok_nil
theorem log_head_vc (n : Int) (rec : List It → St → Prop) (K : V → List Blk → Prop) : segD Γ_log_head tab fn_log_head 0 K rec [.code (bodyOf fn_log_head)] (initSt [.one (.dat Ty.int n)] []) = (
    K (.one (.dat Ty.int (ori (42240 : Int) n))) []) := by kernel_rfl
theorem log_head_w (n : Int) (m : Nat) (K : V → List Blk → Prop) : goD Γ_log_head tab fn_log_head 0 K (m + 1) [.code (bodyOf fn_log_head)] (initSt [.one (.dat Ty.int n)] []) = segD Γ_log_head tab fn_log_head 0 K (goD Γ_log_head tab fn_log_head 0 K m) [.code (bodyOf fn_log_head)] (initSt [.one (.dat Ty.int n)] []) := rfl

set_option maxHeartbeats 4000000 in
theorem run_log_head (n : Int) (hp : 0 ≤ n ∧ n ≤ 255) (K : V → List Blk → Prop) (hK : K (.one (.dat .int (42240 + n))) []) : ∃ m, goD Γ_log_head tab fn_log_head 0 K m [.code (bodyOf fn_log_head)] (initSt [.one (.dat .int n)] []) := by
  refine ⟨1, ?_⟩
  rw [log_head_w, log_head_vc _ _ _, ori_head hp.1 hp.2]
  exact hK
theorem sound_log_head : SoundC Tryd.prog tab n_log_head c_log_head := soundC_of ok_log_head hf_log_head hB_log_head (by
  intro vs bs p v bs' h hp
  unfold c_log_head at h
  split at h
  · cases h
    exact ⟨by kernel_rfl, rfl, .inl (run_log_head _ hp.1 _ ⟨rfl, rfl⟩)⟩
  · cases h)

def c_log_words : Contract := fun vs bs => match vs, bs with
  | [.one (.dat (.list .int) l)], [] => some (some (len l ≤ 255), .one (.dat (.list .int) (recW l)), [])
  | _, _ => none
def Γ_log_words : Ctx := [(n_log_head, c_log_head)]
theorem ok_log_words : Ok Tryd.prog tab Γ_log_words := (ok_nil.consC hf_log_head hB_log_head sound_log_head)
theorem log_words_vc (l : List Int) (rec : List It → St → Prop) (K : V → List Blk → Prop) : segD Γ_log_words tab fn_log_words 0 K rec [.code (bodyOf fn_log_words)] (initSt [.one (.dat (Ty.list Ty.int) l)] []) = (
    (((0 : Int) ≤ (((len l) : Nat) : Int)) ∧ ((((len l) : Nat) : Int) ≤ (255 : Int))) ∧
    (((((len (((42240 : Int) + (((len l) : Nat) : Int)) :: [])) + (len l)) * 8) ≤ 140737488355328) ∧
    (K (.one (.dat (Ty.list Ty.int) (cat (((42240 : Int) + (((len l) : Nat) : Int)) :: []) l))) []))) := by kernel_rfl
theorem log_words_w (l : List Int) (m : Nat) (K : V → List Blk → Prop) : goD Γ_log_words tab fn_log_words 0 K (m + 1) [.code (bodyOf fn_log_words)] (initSt [.one (.dat (Ty.list Ty.int) l)] []) = segD Γ_log_words tab fn_log_words 0 K (goD Γ_log_words tab fn_log_words 0 K m) [.code (bodyOf fn_log_words)] (initSt [.one (.dat (Ty.list Ty.int) l)] []) := rfl

set_option maxHeartbeats 4000000 in
theorem run_log_words (l : List Int) (hp : len l ≤ 255) (K : V → List Blk → Prop) (hK : K (.one (.dat (.list .int) (recW l))) []) : ∃ m, goD Γ_log_words tab fn_log_words 0 K m [.code (bodyOf fn_log_words)] (initSt [.one (.dat (.list .int) l)] []) := by
  refine ⟨1, ?_⟩
  rw [log_words_w, log_words_vc _ _ _]
  exact ⟨⟨by omega, by omega⟩, by simp only [len, List.length_cons, List.length_nil] at hp ⊢; omega, hK⟩
theorem sound_log_words : SoundC Tryd.prog tab n_log_words c_log_words := soundC_of ok_log_words hf_log_words hB_log_words (by
  intro vs bs p v bs' h hp
  unfold c_log_words at h
  split at h
  · cases h
    exact ⟨by kernel_rfl, rfl, .inl (run_log_words _ hp.1 _ ⟨rfl, rfl⟩)⟩
  · cases h)

def c_flash_Copy : Contract := fun vs bs => match vs, bs with
  | [.agg [.dat (.list .int) ws, .dat .int fu]], [] => some (some (len ws * 8 ≤ 140737488355328), .agg [.own 0, .dat .int fu], [.arr .int ws])
  | _, _ => none
def Γ_flash_Copy : Ctx := [(n_slices_Clone_Lint, c_slices_Clone_Lint)]
theorem ok_flash_Copy : Ok Tryd.prog tab Γ_flash_Copy := (ok_nil.consC hf_slices_Clone_Lint hB_slices_Clone_Lint sound_slices_Clone_Lint)
theorem flash_Copy_vc (ws : List Int) (fu : Int) (rec : List It → St → Prop) (K : V → List Blk → Prop) : segO Γ_flash_Copy tab fn_flash_Copy 0 K rec [.code (bodyOf fn_flash_Copy)] (initSt [.agg [.dat (Ty.list Ty.int) ws, .dat Ty.int fu]] []) = (
    (((len ws) * 8) ≤ 140737488355328) ∧
    (K (.agg [.own 0, .dat Ty.int fu]) [.arr Ty.int ws])) := by kernel_rfl
theorem flash_Copy_w (ws : List Int) (fu : Int) (m : Nat) (K : V → List Blk → Prop) : goO Γ_flash_Copy tab fn_flash_Copy 0 K (m + 1) [.code (bodyOf fn_flash_Copy)] (initSt [.agg [.dat (Ty.list Ty.int) ws, .dat Ty.int fu]] []) = segO Γ_flash_Copy tab fn_flash_Copy 0 K (goO Γ_flash_Copy tab fn_flash_Copy 0 K m) [.code (bodyOf fn_flash_Copy)] (initSt [.agg [.dat (Ty.list Ty.int) ws, .dat Ty.int fu]] []) := rfl

set_option maxHeartbeats 4000000 in
theorem run_flash_Copy (ws : List Int) (fu : Int) (hp : len ws * 8 ≤ 140737488355328) (K : V → List Blk → Prop) (hK : K (.agg [.own 0, .dat .int fu]) [.arr .int ws]) : ∃ m, goO Γ_flash_Copy tab fn_flash_Copy 0 K m [.code (bodyOf fn_flash_Copy)] (initSt [.agg [.dat (.list .int) ws, .dat .int fu]] []) := by
  refine ⟨1, ?_⟩
  rw [flash_Copy_w, flash_Copy_vc _ _ _ _]
  exact ⟨hp, hK⟩
theorem sound_flash_Copy : SoundC Tryd.prog tab n_flash_Copy c_flash_Copy := soundC_of ok_flash_Copy hf_flash_Copy hB_flash_Copy (by
  intro vs bs p v bs' h hp
  unfold c_flash_Copy at h
  split at h
  · cases h
    exact ⟨by kernel_rfl, rfl, .inr (run_flash_Copy _ _ hp.1 _ ⟨rfl, rfl⟩)⟩
  · cases h)

def c_flash_burn : Contract := fun vs bs => match vs, bs with
  | [.one (.ptr 0 0)], [.box [.own 1, .dat .int fu], .arr .int ws] => some (some (fu ≤ 100000), .one (.dat .bool (!eqi fu 0)), [.box [.own 1, .dat .int (burnFuel fu)], .arr .int ws])
  | _, _ => none
def Γ_flash_burn : Ctx := []
theorem ok_flash_burn : Ok Tryd.prog tab Γ_flash_burn := ok_nil
theorem flash_burn_vc (ws : List Int) (fu : Int) (rec : List It → St → Prop) (K : V → List Blk → Prop) : segD Γ_flash_burn tab fn_flash_burn 2 K rec [.code (bodyOf fn_flash_burn)] (initSt [.one (.ptr 0 0)] [.box [.own 1, .dat Ty.int fu], .arr Ty.int ws]) = (
    br (eqi fu (0 : Int))
     (K (.one (.dat Ty.bool false)) [.box [.own 1, .dat Ty.int fu], .arr Ty.int ws])
     (br (lti (0 : Int) fu)
       (K (.one (.dat Ty.bool true)) [.box [.own 1, .dat Ty.int (w64 (fu - (1 : Int)))], .arr Ty.int ws])
       (K (.one (.dat Ty.bool true)) [.box [.own 1, .dat Ty.int fu], .arr Ty.int ws]))) := by kernel_rfl
theorem flash_burn_w (ws : List Int) (fu : Int) (m : Nat) (K : V → List Blk → Prop) : goD Γ_flash_burn tab fn_flash_burn 2 K (m + 1) [.code (bodyOf fn_flash_burn)] (initSt [.one (.ptr 0 0)] [.box [.own 1, .dat Ty.int fu], .arr Ty.int ws]) = segD Γ_flash_burn tab fn_flash_burn 2 K (goD Γ_flash_burn tab fn_flash_burn 2 K m) [.code (bodyOf fn_flash_burn)] (initSt [.one (.ptr 0 0)] [.box [.own 1, .dat Ty.int fu], .arr Ty.int ws]) := rfl

set_option maxHeartbeats 4000000 in
theorem run_flash_burn (ws : List Int) (fu : Int) (hp : fu ≤ 100000) (K : V → List Blk → Prop) (hK : K (.one (.dat .bool (!eqi fu 0))) [.box [.own 1, .dat .int (burnFuel fu)], .arr .int ws]) : ∃ m, goD Γ_flash_burn tab fn_flash_burn 2 K m [.code (bodyOf fn_flash_burn)] (initSt [.one (.ptr 0 0)] [.box [.own 1, .dat .int fu], .arr .int ws]) := by
  refine ⟨1, ?_⟩
  rw [flash_burn_w, flash_burn_vc _ _ _ _]
  refine eq_s (fun h => ?_) (fun h => lt_s (fun h2 => ?_) (fun h2 => ?_))
  · rw [show (!eqi fu 0) = false from by simp [eqi, h], show burnFuel fu = fu from by simp [burnFuel, h]] at hK; exact hK
  · rw [show (!eqi fu 0) = true from by simp [eqi, h], show burnFuel fu = fu - 1 from by simp [burnFuel, h2]] at hK
    rw [w64_id (by omega) (by omega)]; exact hK
  · rw [show (!eqi fu 0) = true from by simp [eqi, h], show burnFuel fu = fu from by simp only [burnFuel]; rw [if_neg (by omega)]] at hK; exact hK
theorem sound_flash_burn : SoundC Tryd.prog tab n_flash_burn c_flash_burn := soundC_of ok_flash_burn hf_flash_burn hB_flash_burn (by
  intro vs bs p v bs' h hp
  unfold c_flash_burn at h
  split at h
  · cases h
    exact ⟨by kernel_rfl, rfl, .inl (run_flash_burn _ _ hp.1 _ ⟨rfl, rfl⟩)⟩
  · cases h)

abbrev n_flash_Burn_b : Nat := n_flash_Burn
noncomputable abbrev fn_flash_Burn_b : Func := fn_flash_Burn
theorem hf_flash_Burn_b : Tryd.prog.funcs[n_flash_Burn_b]? = some fn_flash_Burn_b := hf_flash_Burn
theorem hB_flash_Burn_b : fnB fn_flash_Burn_b = true := hB_flash_Burn
def c_flash_Burn_b : Contract := fun vs bs => match vs, bs with
  | [.one (.ptr 0 0), .one (.dat .int at_), .one (.own 1)], [.box [.own 2, .dat .int fu], .arr .int l, .arr .int ws] => some (some (-1 ≤ fu ∧ fu ≤ 100000 ∧ 0 ≤ at_ ∧ at_ + (len l : Nat) ≤ (len ws : Nat) ∧ len ws ≤ 192), .one (.dat .bool (doCh ⟨ws, fu⟩ (burnCh at_ l)).2), [.box [.own 2, .dat .int (doCh ⟨ws, fu⟩ (burnCh at_ l)).1.fuel], .arr .int l, .arr .int (doCh ⟨ws, fu⟩ (burnCh at_ l)).1.words])
  | _, _ => none
def Γ_flash_Burn_b : Ctx := [(n_flash_burn, c_flash_burn)]
theorem ok_flash_Burn_b : Ok Tryd.prog tab Γ_flash_Burn_b := (ok_nil.consC hf_flash_burn hB_flash_burn sound_flash_burn)
noncomputable def flash_Burn_b_L0 : List It := [.inLoop [11, 10, 9, 6, 0, 1] (Code.sub (bodyOf fn_flash_Burn_b) [1, 0, 1, 0, 0]), .inBlock 0, .code (Code.sub (bodyOf fn_flash_Burn_b) [1, 1])]
def flash_Burn_b_S0 (x0 : Int) (x1 : Int) (x2 : Bool) (x3 : Int) (x4 : Int) (x5 : (List Int)) (x6 : (List Int)) : St := ⟨[(11, .one (.dat Ty.int x0)), (10, .one (.dat Ty.int x1)), (9, .one (.own 1)), (6, .one (.dat Ty.bool x2)), (0, .one (.ptr 0 0)), (1, .one (.dat Ty.int x3))], [(0, .box [.own 2, .dat Ty.int x4]), (1, .arr Ty.int x5), (2, .arr Ty.int x6)], 3⟩
theorem flash_Burn_b_vc (ws : List Int) (fu : Int) (at_ : Int) (l : List Int) (rec : List It → St → Prop) (K : V → List Blk → Prop) : segD Γ_flash_Burn_b tab fn_flash_Burn_b 3 K rec [.code (bodyOf fn_flash_Burn_b)] (initSt [.one (.ptr 0 0), .one (.dat Ty.int at_), .one (.own 1)] [.box [.own 2, .dat Ty.int fu], .arr Ty.int l, .arr Ty.int ws]) = (
    rec flash_Burn_b_L0 (flash_Burn_b_S0 (0 : Int) (((len l) : Nat) : Int) false at_ fu l ws)) := by kernel_rfl
theorem flash_Burn_b_w (ws : List Int) (fu : Int) (at_ : Int) (l : List Int) (m : Nat) (K : V → List Blk → Prop) : goD Γ_flash_Burn_b tab fn_flash_Burn_b 3 K (m + 1) [.code (bodyOf fn_flash_Burn_b)] (initSt [.one (.ptr 0 0), .one (.dat Ty.int at_), .one (.own 1)] [.box [.own 2, .dat Ty.int fu], .arr Ty.int l, .arr Ty.int ws]) = segD Γ_flash_Burn_b tab fn_flash_Burn_b 3 K (goD Γ_flash_Burn_b tab fn_flash_Burn_b 3 K m) [.code (bodyOf fn_flash_Burn_b)] (initSt [.one (.ptr 0 0), .one (.dat Ty.int at_), .one (.own 1)] [.box [.own 2, .dat Ty.int fu], .arr Ty.int l, .arr Ty.int ws]) := rfl
theorem flash_Burn_b_vc0 (x0 : Int) (x1 : Int) (x2 : Bool) (x3 : Int) (x4 : Int) (x5 : (List Int)) (x6 : (List Int)) (rec : List It → St → Prop) (K : V → List Blk → Prop) v0 (hv0 : v0 = (burnFuel x4)) : segD Γ_flash_Burn_b tab fn_flash_Burn_b 3 K rec (.code (Code.sub (bodyOf fn_flash_Burn_b) [1, 0, 1, 0, 0]) :: flash_Burn_b_L0) (flash_Burn_b_S0 x0 x1 x2 x3 x4 x5 x6) = (
    br (lti x0 x1)
     ((((0 : Int) ≤ x0) ∧ (x0 < (((len x5) : Nat) : Int))) ∧
      (((Int.toNat x0) < (len x5)) ∧
      ((x4 ≤ (100000 : Int)) ∧
      (br (!(!(eqi x4 (0 : Int))))
       (K (.one (.dat Ty.bool false)) [.box [.own 2, .dat Ty.int v0], .arr Ty.int x5, .arr Ty.int x6])
       ((((0 : Int) ≤ (w64 (x3 + x0))) ∧ ((w64 (x3 + x0)) < (((len x6) : Nat) : Int))) ∧
        (((Int.toNat (w64 (x3 + x0))) < (len x6)) ∧
        ((((0 : Int) ≤ (w64 (x3 + x0))) ∧ ((w64 (x3 + x0)) < (((len x6) : Nat) : Int))) ∧
        (((Int.toNat (w64 (x3 + x0))) < (len x6)) ∧
        (rec flash_Burn_b_L0 (flash_Burn_b_S0 (w64 (x0 + (1 : Int))) x1 x2 x3 v0 x5 (setAt x6 (Int.toNat (w64 (x3 + x0))) (andi (nth x6 (Int.toNat (w64 (x3 + x0))) (Ty.dflt Ty.int)) (nth x5 (Int.toNat x0) (Ty.dflt Ty.int))))))))))))))
     (K (.one (.dat Ty.bool true)) [.box [.own 2, .dat Ty.int x4], .arr Ty.int x5, .arr Ty.int x6])) := by subst hv0; kernel_rfl
theorem flash_Burn_b_w0 (x0 : Int) (x1 : Int) (x2 : Bool) (x3 : Int) (x4 : Int) (x5 : (List Int)) (x6 : (List Int)) (m : Nat) (K : V → List Blk → Prop) : goD Γ_flash_Burn_b tab fn_flash_Burn_b 3 K (m + 1) flash_Burn_b_L0 (flash_Burn_b_S0 x0 x1 x2 x3 x4 x5 x6) = segD Γ_flash_Burn_b tab fn_flash_Burn_b 3 K (goD Γ_flash_Burn_b tab fn_flash_Burn_b 3 K m) (.code (Code.sub (bodyOf fn_flash_Burn_b) [1, 0, 1, 0, 0]) :: flash_Burn_b_L0) (flash_Burn_b_S0 x0 x1 x2 x3 x4 x5 x6) := rfl

theorem loop_flash_Burn_b (at_ : Int) (hs : 0 ≤ at_) (l : List Int) (K : V → List Blk → Prop) : ∀ (n : Nat) (k : Nat) (ws : List Int) (fu : Int), k + n = l.length → -1 ≤ fu → fu ≤ 100000 → at_ + (l.length : Nat) ≤ (ws.length : Nat) → ws.length ≤ 192 →
    K (.one (.dat .bool (doCh ⟨ws, fu⟩ (burnCh (at_ + k) (l.drop k))).2)) [.box [.own 2, .dat .int (doCh ⟨ws, fu⟩ (burnCh (at_ + k) (l.drop k))).1.fuel], .arr .int l, .arr .int (doCh ⟨ws, fu⟩ (burnCh (at_ + k) (l.drop k))).1.words] →
    goD Γ_flash_Burn_b tab fn_flash_Burn_b 3 K (n + 1) flash_Burn_b_L0 (flash_Burn_b_S0 (k : Int) (((len l) : Nat) : Int) false at_ fu l ws)
  | 0, k, ws, fu, hk, h1, h2, h3, h4, hK => by
    rw [flash_Burn_b_w0, flash_Burn_b_vc0 _ _ _ _ _ _ _ _ _ _ rfl]
    refine lt_f (by simp only [len]; omega) ?_
    rw [List.drop_of_length_le (by omega)] at hK
    simp only [burnCh, doCh_nil] at hK
    exact hK
  | n + 1, k, ws, fu, hk, h1, h2, h3, h4, hK => by
    rw [flash_Burn_b_w0, flash_Burn_b_vc0 _ _ _ _ _ _ _ _ _ _ rfl]
    rw [w64_id (n := at_ + k) (by omega) (by omega)]
    rw [drop_step (by omega) (Ty.dflt Ty.int)] at hK
    simp only [burnCh, doCh_cons] at hK
    refine lt_t (by simp only [len]; omega) ⟨⟨by omega, by simp only [len]; omega⟩, by simp only [len]; omega, h2, ?_⟩
    by_cases h0 : fu = 0
    · subst h0
      refine br_t (by simp [eqi]) ?_
      simp only [if_true] at hK
      exact hK
    · rw [if_neg h0] at hK
      refine br_f (by simp [eqi, h0]) ⟨⟨by omega, by simp only [len]; omega⟩, by simp only [len]; omega, ⟨by omega, by simp only [len]; omega⟩, by simp only [len]; omega, ?_⟩
      rw [w64_succ (by omega)]
      refine loop_flash_Burn_b at_ hs l K n (k + 1) _ _ (by omega) ?_ ?_ (by simpa [setAt] using h3) (by simpa [setAt] using h4) ?_
      · unfold burnFuel; split <;> omega
      · unfold burnFuel; split <;> omega
      · rw [show at_ + ((k + 1 : Nat) : Int) = at_ + k + 1 by omega]
        exact hK
set_option maxHeartbeats 4000000 in
theorem run_flash_Burn_b (ws : List Int) (fu at_ : Int) (l : List Int) (hp : -1 ≤ fu ∧ fu ≤ 100000 ∧ 0 ≤ at_ ∧ at_ + (len l : Nat) ≤ (len ws : Nat) ∧ len ws ≤ 192) (K : V → List Blk → Prop) (hK : K (.one (.dat .bool (doCh ⟨ws, fu⟩ (burnCh at_ l)).2)) [.box [.own 2, .dat .int (doCh ⟨ws, fu⟩ (burnCh at_ l)).1.fuel], .arr .int l, .arr .int (doCh ⟨ws, fu⟩ (burnCh at_ l)).1.words]) : ∃ m, goD Γ_flash_Burn_b tab fn_flash_Burn_b 3 K m [.code (bodyOf fn_flash_Burn_b)] (initSt [.one (.ptr 0 0), .one (.dat .int at_), .one (.own 1)] [.box [.own 2, .dat .int fu], .arr .int l, .arr .int ws]) := by
  obtain ⟨h1, h2, h3, h4, h5⟩ := hp
  refine ⟨l.length + 2, ?_⟩
  rw [flash_Burn_b_w, flash_Burn_b_vc _ _ _ _ _ _]
  exact loop_flash_Burn_b at_ h3 l K l.length 0 ws fu (by omega) h1 h2 h4 h5 (by simpa using hK)
theorem sound_flash_Burn_b : SoundC Tryd.prog tab n_flash_Burn_b c_flash_Burn_b := soundC_of ok_flash_Burn_b hf_flash_Burn_b hB_flash_Burn_b (by
  intro vs bs p v bs' h hp
  unfold c_flash_Burn_b at h
  split at h
  · cases h
    exact ⟨by kernel_rfl, rfl, .inl (run_flash_Burn_b _ _ _ _ hp.1 _ ⟨rfl, rfl⟩)⟩
  · cases h)

def c_flash_Burn : Contract := fun vs bs => match vs, bs with
  | [.one (.ptr 0 0), .one (.dat .int at_), .one (.dat (.list .int) l)], [.box [.own 1, .dat .int fu], .arr .int ws] => some (some (-1 ≤ fu ∧ fu ≤ 100000 ∧ 0 ≤ at_ ∧ at_ + (len l : Nat) ≤ (len ws : Nat) ∧ len ws ≤ 192), .one (.dat .bool (doCh ⟨ws, fu⟩ (burnCh at_ l)).2), [.box [.own 1, .dat .int (doCh ⟨ws, fu⟩ (burnCh at_ l)).1.fuel], .arr .int (doCh ⟨ws, fu⟩ (burnCh at_ l)).1.words])
  | _, _ => none
def Γ_flash_Burn : Ctx := [(n_flash_burn, c_flash_burn)]
theorem ok_flash_Burn : Ok Tryd.prog tab Γ_flash_Burn := (ok_nil.consC hf_flash_burn hB_flash_burn sound_flash_burn)
noncomputable def flash_Burn_L0 : List It := [.inLoop [11, 10, 9, 6, 0, 1] (Code.sub (bodyOf fn_flash_Burn) [1, 0, 1, 0, 0]), .inBlock 0, .code (Code.sub (bodyOf fn_flash_Burn) [1, 1])]
def flash_Burn_S0 (x0 : Int) (x1 : Int) (x2 : (List Int)) (x3 : Bool) (x4 : Int) (x5 : Int) (x6 : (List Int)) : St := ⟨[(11, .one (.dat Ty.int x0)), (10, .one (.dat Ty.int x1)), (9, .one (.dat (Ty.list Ty.int) x2)), (6, .one (.dat Ty.bool x3)), (0, .one (.ptr 0 0)), (1, .one (.dat Ty.int x4))], [(0, .box [.own 1, .dat Ty.int x5]), (1, .arr Ty.int x6)], 2⟩
theorem flash_Burn_vc (ws : List Int) (fu : Int) (at_ : Int) (l : List Int) (rec : List It → St → Prop) (K : V → List Blk → Prop) : segD Γ_flash_Burn tab fn_flash_Burn 2 K rec [.code (bodyOf fn_flash_Burn)] (initSt [.one (.ptr 0 0), .one (.dat Ty.int at_), .one (.dat (Ty.list Ty.int) l)] [.box [.own 1, .dat Ty.int fu], .arr Ty.int ws]) = (
    rec flash_Burn_L0 (flash_Burn_S0 (0 : Int) (((len l) : Nat) : Int) l false at_ fu ws)) := by kernel_rfl
theorem flash_Burn_w (ws : List Int) (fu : Int) (at_ : Int) (l : List Int) (m : Nat) (K : V → List Blk → Prop) : goD Γ_flash_Burn tab fn_flash_Burn 2 K (m + 1) [.code (bodyOf fn_flash_Burn)] (initSt [.one (.ptr 0 0), .one (.dat Ty.int at_), .one (.dat (Ty.list Ty.int) l)] [.box [.own 1, .dat Ty.int fu], .arr Ty.int ws]) = segD Γ_flash_Burn tab fn_flash_Burn 2 K (goD Γ_flash_Burn tab fn_flash_Burn 2 K m) [.code (bodyOf fn_flash_Burn)] (initSt [.one (.ptr 0 0), .one (.dat Ty.int at_), .one (.dat (Ty.list Ty.int) l)] [.box [.own 1, .dat Ty.int fu], .arr Ty.int ws]) := rfl
theorem flash_Burn_vc0 (x0 : Int) (x1 : Int) (x2 : (List Int)) (x3 : Bool) (x4 : Int) (x5 : Int) (x6 : (List Int)) (rec : List It → St → Prop) (K : V → List Blk → Prop) v0 (hv0 : v0 = (burnFuel x5)) : segD Γ_flash_Burn tab fn_flash_Burn 2 K rec (.code (Code.sub (bodyOf fn_flash_Burn) [1, 0, 1, 0, 0]) :: flash_Burn_L0) (flash_Burn_S0 x0 x1 x2 x3 x4 x5 x6) = (
    br (lti x0 x1)
     ((((0 : Int) ≤ x0) ∧ (x0 < (((len x2) : Nat) : Int))) ∧
      ((x5 ≤ (100000 : Int)) ∧
      (br (!(!(eqi x5 (0 : Int))))
       (K (.one (.dat Ty.bool false)) [.box [.own 1, .dat Ty.int v0], .arr Ty.int x6])
       ((((0 : Int) ≤ (w64 (x4 + x0))) ∧ ((w64 (x4 + x0)) < (((len x6) : Nat) : Int))) ∧
        (((Int.toNat (w64 (x4 + x0))) < (len x6)) ∧
        ((((0 : Int) ≤ (w64 (x4 + x0))) ∧ ((w64 (x4 + x0)) < (((len x6) : Nat) : Int))) ∧
        (((Int.toNat (w64 (x4 + x0))) < (len x6)) ∧
        (rec flash_Burn_L0 (flash_Burn_S0 (w64 (x0 + (1 : Int))) x1 x2 x3 x4 v0 (setAt x6 (Int.toNat (w64 (x4 + x0))) (andi (nth x6 (Int.toNat (w64 (x4 + x0))) (Ty.dflt Ty.int)) (nth x2 (Int.toNat x0) (Ty.dflt Ty.int)))))))))))))
     (K (.one (.dat Ty.bool true)) [.box [.own 1, .dat Ty.int x5], .arr Ty.int x6])) := by subst hv0; kernel_rfl
theorem flash_Burn_w0 (x0 : Int) (x1 : Int) (x2 : (List Int)) (x3 : Bool) (x4 : Int) (x5 : Int) (x6 : (List Int)) (m : Nat) (K : V → List Blk → Prop) : goD Γ_flash_Burn tab fn_flash_Burn 2 K (m + 1) flash_Burn_L0 (flash_Burn_S0 x0 x1 x2 x3 x4 x5 x6) = segD Γ_flash_Burn tab fn_flash_Burn 2 K (goD Γ_flash_Burn tab fn_flash_Burn 2 K m) (.code (Code.sub (bodyOf fn_flash_Burn) [1, 0, 1, 0, 0]) :: flash_Burn_L0) (flash_Burn_S0 x0 x1 x2 x3 x4 x5 x6) := rfl

theorem loop_flash_Burn (at_ : Int) (hs : 0 ≤ at_) (l : List Int) (K : V → List Blk → Prop) : ∀ (n : Nat) (k : Nat) (ws : List Int) (fu : Int), k + n = l.length → -1 ≤ fu → fu ≤ 100000 → at_ + (l.length : Nat) ≤ (ws.length : Nat) → ws.length ≤ 192 →
    K (.one (.dat .bool (doCh ⟨ws, fu⟩ (burnCh (at_ + k) (l.drop k))).2)) [.box [.own 1, .dat .int (doCh ⟨ws, fu⟩ (burnCh (at_ + k) (l.drop k))).1.fuel], .arr .int (doCh ⟨ws, fu⟩ (burnCh (at_ + k) (l.drop k))).1.words] →
    goD Γ_flash_Burn tab fn_flash_Burn 2 K (n + 1) flash_Burn_L0 (flash_Burn_S0 (k : Int) (((len l) : Nat) : Int) l false at_ fu ws)
  | 0, k, ws, fu, hk, h1, h2, h3, h4, hK => by
    rw [flash_Burn_w0, flash_Burn_vc0 _ _ _ _ _ _ _ _ _ _ rfl]
    refine lt_f (by simp only [len]; omega) ?_
    rw [List.drop_of_length_le (by omega)] at hK
    simp only [burnCh, doCh_nil] at hK
    exact hK
  | n + 1, k, ws, fu, hk, h1, h2, h3, h4, hK => by
    rw [flash_Burn_w0, flash_Burn_vc0 _ _ _ _ _ _ _ _ _ _ rfl]
    rw [w64_id (n := at_ + k) (by omega) (by omega)]
    rw [drop_step (by omega) (Ty.dflt Ty.int)] at hK
    simp only [burnCh, doCh_cons] at hK
    refine lt_t (by simp only [len]; omega) ⟨⟨by omega, by simp only [len]; omega⟩, h2, ?_⟩
    by_cases h0 : fu = 0
    · subst h0
      refine br_t (by simp [eqi]) ?_
      simp only [if_true] at hK
      exact hK
    · rw [if_neg h0] at hK
      refine br_f (by simp [eqi, h0]) ⟨⟨by omega, by simp only [len]; omega⟩, by simp only [len]; omega, ⟨by omega, by simp only [len]; omega⟩, by simp only [len]; omega, ?_⟩
      rw [w64_succ (by omega)]
      refine loop_flash_Burn at_ hs l K n (k + 1) _ _ (by omega) ?_ ?_ (by simpa [setAt] using h3) (by simpa [setAt] using h4) ?_
      · unfold burnFuel; split <;> omega
      · unfold burnFuel; split <;> omega
      · rw [show at_ + ((k + 1 : Nat) : Int) = at_ + k + 1 by omega]
        exact hK
set_option maxHeartbeats 4000000 in
theorem run_flash_Burn (ws : List Int) (fu at_ : Int) (l : List Int) (hp : -1 ≤ fu ∧ fu ≤ 100000 ∧ 0 ≤ at_ ∧ at_ + (len l : Nat) ≤ (len ws : Nat) ∧ len ws ≤ 192) (K : V → List Blk → Prop) (hK : K (.one (.dat .bool (doCh ⟨ws, fu⟩ (burnCh at_ l)).2)) [.box [.own 1, .dat .int (doCh ⟨ws, fu⟩ (burnCh at_ l)).1.fuel], .arr .int (doCh ⟨ws, fu⟩ (burnCh at_ l)).1.words]) : ∃ m, goD Γ_flash_Burn tab fn_flash_Burn 2 K m [.code (bodyOf fn_flash_Burn)] (initSt [.one (.ptr 0 0), .one (.dat .int at_), .one (.dat (.list .int) l)] [.box [.own 1, .dat .int fu], .arr .int ws]) := by
  obtain ⟨h1, h2, h3, h4, h5⟩ := hp
  refine ⟨l.length + 2, ?_⟩
  rw [flash_Burn_w, flash_Burn_vc _ _ _ _ _ _]
  exact loop_flash_Burn at_ h3 l K l.length 0 ws fu (by omega) h1 h2 h4 h5 (by simpa using hK)
theorem sound_flash_Burn : SoundC Tryd.prog tab n_flash_Burn c_flash_Burn := soundC_of ok_flash_Burn hf_flash_Burn hB_flash_Burn (by
  intro vs bs p v bs' h hp
  unfold c_flash_Burn at h
  split at h
  · cases h
    exact ⟨by kernel_rfl, rfl, .inl (run_flash_Burn _ _ _ _ hp.1 _ ⟨rfl, rfl⟩)⟩
  · cases h)

def c_flash_Wipe : Contract := fun vs bs => match vs, bs with
  | [.one (.ptr 0 0), .one (.dat .int sector)], [.box [.own 1, .dat .int fu], .arr .int ws] => some (some (-1 ≤ fu ∧ fu ≤ 100000 ∧ 0 ≤ sector ∧ (sector + 1) * 32 ≤ (len ws : Nat) ∧ len ws ≤ 192), .one (.dat .bool (doCh ⟨ws, fu⟩ (wipeCh sector)).2), [.box [.own 1, .dat .int (doCh ⟨ws, fu⟩ (wipeCh sector)).1.fuel], .arr .int (doCh ⟨ws, fu⟩ (wipeCh sector)).1.words])
  | _, _ => none
def Γ_flash_Wipe : Ctx := [(n_flash_burn, c_flash_burn)]
theorem ok_flash_Wipe : Ok Tryd.prog tab Γ_flash_Wipe := (ok_nil.consC hf_flash_burn hB_flash_burn sound_flash_burn)
noncomputable def flash_Wipe_L0 : List It := [.inLoop [6, 4, 0, 1] (Code.sub (bodyOf fn_flash_Wipe) [1, 0, 1, 0, 0]), .inBlock 0, .code (Code.sub (bodyOf fn_flash_Wipe) [1, 1])]
def flash_Wipe_S0 (x0 : Int) (x1 : Bool) (x2 : Int) (x3 : Int) (x4 : (List Int)) : St := ⟨[(6, .one (.dat Ty.int x0)), (4, .one (.dat Ty.bool x1)), (0, .one (.ptr 0 0)), (1, .one (.dat Ty.int x2))], [(0, .box [.own 1, .dat Ty.int x3]), (1, .arr Ty.int x4)], 2⟩
theorem flash_Wipe_vc (ws : List Int) (fu : Int) (sector : Int) (rec : List It → St → Prop) (K : V → List Blk → Prop) : segD Γ_flash_Wipe tab fn_flash_Wipe 2 K rec [.code (bodyOf fn_flash_Wipe)] (initSt [.one (.ptr 0 0), .one (.dat Ty.int sector)] [.box [.own 1, .dat Ty.int fu], .arr Ty.int ws]) = (
    rec flash_Wipe_L0 (flash_Wipe_S0 (0 : Int) false sector fu ws)) := by kernel_rfl
theorem flash_Wipe_w (ws : List Int) (fu : Int) (sector : Int) (m : Nat) (K : V → List Blk → Prop) : goD Γ_flash_Wipe tab fn_flash_Wipe 2 K (m + 1) [.code (bodyOf fn_flash_Wipe)] (initSt [.one (.ptr 0 0), .one (.dat Ty.int sector)] [.box [.own 1, .dat Ty.int fu], .arr Ty.int ws]) = segD Γ_flash_Wipe tab fn_flash_Wipe 2 K (goD Γ_flash_Wipe tab fn_flash_Wipe 2 K m) [.code (bodyOf fn_flash_Wipe)] (initSt [.one (.ptr 0 0), .one (.dat Ty.int sector)] [.box [.own 1, .dat Ty.int fu], .arr Ty.int ws]) := rfl
theorem flash_Wipe_vc0 (x0 : Int) (x1 : Bool) (x2 : Int) (x3 : Int) (x4 : (List Int)) (rec : List It → St → Prop) (K : V → List Blk → Prop) v0 (hv0 : v0 = (burnFuel x3)) : segD Γ_flash_Wipe tab fn_flash_Wipe 2 K rec (.code (Code.sub (bodyOf fn_flash_Wipe) [1, 0, 1, 0, 0]) :: flash_Wipe_L0) (flash_Wipe_S0 x0 x1 x2 x3 x4) = (
    br (lti x0 (32 : Int))
     ((x3 ≤ (100000 : Int)) ∧
      (br (!(!(eqi x3 (0 : Int))))
       (K (.one (.dat Ty.bool false)) [.box [.own 1, .dat Ty.int v0], .arr Ty.int x4])
       ((((0 : Int) ≤ (w64 ((w64 (x2 * (32 : Int))) + x0))) ∧ ((w64 ((w64 (x2 * (32 : Int))) + x0)) < (((len x4) : Nat) : Int))) ∧
        (((Int.toNat (w64 ((w64 (x2 * (32 : Int))) + x0))) < (len x4)) ∧
        (rec flash_Wipe_L0 (flash_Wipe_S0 (w64 (x0 + (1 : Int))) x1 x2 v0 (setAt x4 (Int.toNat (w64 ((w64 (x2 * (32 : Int))) + x0))) (65535 : Int))))))))
     (K (.one (.dat Ty.bool true)) [.box [.own 1, .dat Ty.int x3], .arr Ty.int x4])) := by subst hv0; kernel_rfl
theorem flash_Wipe_w0 (x0 : Int) (x1 : Bool) (x2 : Int) (x3 : Int) (x4 : (List Int)) (m : Nat) (K : V → List Blk → Prop) : goD Γ_flash_Wipe tab fn_flash_Wipe 2 K (m + 1) flash_Wipe_L0 (flash_Wipe_S0 x0 x1 x2 x3 x4) = segD Γ_flash_Wipe tab fn_flash_Wipe 2 K (goD Γ_flash_Wipe tab fn_flash_Wipe 2 K m) (.code (Code.sub (bodyOf fn_flash_Wipe) [1, 0, 1, 0, 0]) :: flash_Wipe_L0) (flash_Wipe_S0 x0 x1 x2 x3 x4) := rfl

theorem loop_flash_Wipe (sector : Int) (hs : 0 ≤ sector) (K : V → List Blk → Prop) : ∀ (n : Nat) (ws : List Int) (fu : Int), n ≤ 32 → -1 ≤ fu → fu ≤ 100000 → (sector + 1) * 32 ≤ (ws.length : Nat) → ws.length ≤ 192 →
    K (.one (.dat .bool (doCh ⟨ws, fu⟩ (wipeFrom (32 * sector + (32 - n)) n)).2)) [.box [.own 1, .dat .int (doCh ⟨ws, fu⟩ (wipeFrom (32 * sector + (32 - n)) n)).1.fuel], .arr .int (doCh ⟨ws, fu⟩ (wipeFrom (32 * sector + (32 - n)) n)).1.words] →
    goD Γ_flash_Wipe tab fn_flash_Wipe 2 K (n + 1) flash_Wipe_L0 (flash_Wipe_S0 (32 - n) false sector fu ws)
  | 0, ws, fu, hn, h1, h2, h3, h4, hK => by
    rw [flash_Wipe_w0, flash_Wipe_vc0 _ _ _ _ _ _ _ _ rfl]
    refine lt_f (by omega) ?_
    simp only [wipeFrom, doCh_nil] at hK
    exact hK
  | n + 1, ws, fu, hn, h1, h2, h3, h4, hK => by
    rw [flash_Wipe_w0, flash_Wipe_vc0 _ _ _ _ _ _ _ _ rfl]
    have e1 : w64 ((w64 (sector * 32)) + (32 - ((n + 1 : Nat) : Int))) = 32 * sector + (32 - ((n + 1 : Nat) : Int)) := by
      rw [w64_id (n := sector * 32) (by omega) (by omega), w64_id (by omega) (by omega)]; omega
    rw [e1]
    simp only [wipeFrom, doCh_cons] at hK
    refine lt_t (by omega) ⟨h2, ?_⟩
    by_cases h0 : fu = 0
    · subst h0
      refine br_t (by simp [eqi]) ?_
      simp only [if_true] at hK
      exact hK
    · rw [if_neg h0] at hK
      refine br_f (by simp [eqi, h0]) ⟨⟨by omega, by simp only [len]; omega⟩, by simp only [len]; omega, ?_⟩
      rw [w64_id (by omega) (by omega), show (32 - ((n + 1 : Nat) : Int)) + 1 = 32 - (n : Int) by omega]
      refine loop_flash_Wipe sector hs K n _ _ (by omega) ?_ ?_ (by simp [setAt]; omega) (by simpa [setAt] using h4) ?_
      · unfold burnFuel; split <;> omega
      · unfold burnFuel; split <;> omega
      · rw [show (32 * sector + (32 - ((n + 1 : Nat) : Int))) + 1 = 32 * sector + (32 - (n : Int)) by omega] at hK
        exact hK
set_option maxHeartbeats 4000000 in
theorem run_flash_Wipe (ws : List Int) (fu sector : Int) (hp : -1 ≤ fu ∧ fu ≤ 100000 ∧ 0 ≤ sector ∧ (sector + 1) * 32 ≤ (len ws : Nat) ∧ len ws ≤ 192) (K : V → List Blk → Prop) (hK : K (.one (.dat .bool (doCh ⟨ws, fu⟩ (wipeCh sector)).2)) [.box [.own 1, .dat .int (doCh ⟨ws, fu⟩ (wipeCh sector)).1.fuel], .arr .int (doCh ⟨ws, fu⟩ (wipeCh sector)).1.words]) : ∃ m, goD Γ_flash_Wipe tab fn_flash_Wipe 2 K m [.code (bodyOf fn_flash_Wipe)] (initSt [.one (.ptr 0 0), .one (.dat .int sector)] [.box [.own 1, .dat .int fu], .arr .int ws]) := by
  obtain ⟨h1, h2, h3, h4, h5⟩ := hp
  refine ⟨34, ?_⟩
  rw [flash_Wipe_w, flash_Wipe_vc _ _ _ _ _]
  exact loop_flash_Wipe sector h3 K 32 ws fu (by omega) h1 h2 (by simpa [len] using h4) h5 (by simpa [wipeCh] using hK)
theorem sound_flash_Wipe : SoundC Tryd.prog tab n_flash_Wipe c_flash_Wipe := soundC_of ok_flash_Wipe hf_flash_Wipe hB_flash_Wipe (by
  intro vs bs p v bs' h hp
  unfold c_flash_Wipe at h
  split at h
  · cases h
    exact ⟨by kernel_rfl, rfl, .inl (run_flash_Wipe _ _ _ hp.1 _ ⟨rfl, rfl⟩)⟩
  · cases h)

def c_log_Append : Contract := fun vs bs => match vs, bs with
  | [.agg [.dat (.list .int) ws, .dat .int fu], .one (.dat (.list .int) r), .one (.dat (.list (.list .int)) keep)], [] => some (some (Sm r ∧ len keep * 24 ≤ 140737488351232 ∧ smR keep = true), .tup [.agg [.dat (.list .int) (appendF ⟨ws, fu⟩ r keep).1.words, .dat .int (appendF ⟨ws, fu⟩ r keep).1.fuel], .one (.dat .int (appendF ⟨ws, fu⟩ r keep).2)], [])
  | _, _ => none
def Γ_log_Append : Ctx := [(n_log_Check, c_log_Check), (n_log_check, c_log_check), (n_slices_Clone_LRecord, c_slices_Clone_LRecord), (n_log_words, c_log_words), (n_log_live, c_log_live), (n_flash_Copy, c_flash_Copy), (n_log_scan, (weakC c_log_scan)), (n_flash_Burn, (orC c_flash_Burn c_flash_Burn_b)), (n_flash_Wipe, c_flash_Wipe)]
theorem ok_log_Append : Ok Tryd.prog tab Γ_log_Append := (((((((((ok_nil.consC hf_flash_Wipe hB_flash_Wipe sound_flash_Wipe).consC hf_flash_Burn hB_flash_Burn (soundC_or sound_flash_Burn sound_flash_Burn_b)).consC hf_log_scan hB_log_scan (soundC_weak sound_log_scan)).consC hf_flash_Copy hB_flash_Copy sound_flash_Copy).consC hf_log_live hB_log_live sound_log_live).consC hf_log_words hB_log_words sound_log_words).consC hf_slices_Clone_LRecord hB_slices_Clone_LRecord sound_slices_Clone_LRecord).consC hf_log_check hB_log_check sound_log_check).consC hf_log_Check hB_log_Check sound_log_Check)
noncomputable def log_Append_L0 : List It := [.inLoop [40, 39, 38, 10, 7, 6, 3, 1] (Code.sub (bodyOf fn_log_Append) [1, 1, 1, 1, 0, 1, 0, 0]), .inBlock 0, .code (Code.sub (bodyOf fn_log_Append) [1, 1, 1, 1, 1])]
def log_Append_S0 (x0 : Int) (x1 : Int) (x2 : Int) (x3 : (List Int)) (x4 : (List (List Int))) (x5 : (List Int)) (x6 : Int) (x7 : (List Int)) (x8 : Int) (x9 : (List Int)) : St := ⟨[(40, .one (.dat Ty.int x0)), (39, .one (.dat Ty.int x1)), (38, .one (.own 0)), (10, .one (.own 1)), (7, .one (.dat Ty.int x2)), (6, .one (.ptr 2 0)), (3, .one (.ptr 3 0)), (1, .one (.dat (Ty.list Ty.int) x3))], [(0, .arr (Ty.list Ty.int) x4), (1, .arr Ty.int x5), (2, .box [.own 4, .dat Ty.int x6]), (3, .box [.dat (Ty.list Ty.int) x7, .dat Ty.int x8]), (4, .arr Ty.int x9)], 5⟩
theorem log_Append_vc (ws : List Int) (fu : Int) (r : List Int) (keep : List (List Int)) (rec : List It → St → Prop) (K : V → List Blk → Prop) v0 (hv0 : v0 = (checkLog (⟨ws, fu⟩ : Flash))) v1 (hv1 : v1 = (checkRec r)) : segD Γ_log_Append tab fn_log_Append 0 K rec [.code (bodyOf fn_log_Append)] (initSt [.agg [.dat (Ty.list Ty.int) ws, .dat Ty.int fu], .one (.dat (Ty.list Ty.int) r), .one (.dat (Ty.list (Ty.list Ty.int)) keep)] []) = (
    br (!(eqi v0 (0 : Int)))
     (K (.tup [.agg [.dat (Ty.list Ty.int) [], .dat Ty.int (0 : Int)], .one (.dat Ty.int v0)]) [])
     (((List.length r) ≤ 140737488355328) ∧
      (br (!(eqi v1 (0 : Int)))
       (K (.tup [.agg [.dat (Ty.list Ty.int) [], .dat Ty.int (0 : Int)], .one (.dat Ty.int v1)]) [])
       ((((len keep) * 24) ≤ 140737488355328) ∧
        (((((len keep) + (len (r :: []))) * 24) ≤ 140737488355328) ∧
        (rec log_Append_L0 (log_Append_S0 (0 : Int) (((len (cat keep (r :: []))) : Nat) : Int) (0 : Int) r (cat keep (r :: [])) [] (0 : Int) ws fu []))))))) := by subst hv1; subst hv0; kernel_rfl
theorem log_Append_w (ws : List Int) (fu : Int) (r : List Int) (keep : List (List Int)) (m : Nat) (K : V → List Blk → Prop) : goD Γ_log_Append tab fn_log_Append 0 K (m + 1) [.code (bodyOf fn_log_Append)] (initSt [.agg [.dat (Ty.list Ty.int) ws, .dat Ty.int fu], .one (.dat (Ty.list Ty.int) r), .one (.dat (Ty.list (Ty.list Ty.int)) keep)] []) = segD Γ_log_Append tab fn_log_Append 0 K (goD Γ_log_Append tab fn_log_Append 0 K m) [.code (bodyOf fn_log_Append)] (initSt [.agg [.dat (Ty.list Ty.int) ws, .dat Ty.int fu], .one (.dat (Ty.list Ty.int) r), .one (.dat (Ty.list (Ty.list Ty.int)) keep)] []) := rfl
theorem log_Append_vc0 (x0 : Int) (x1 : Int) (x2 : Int) (x3 : (List Int)) (x4 : (List (List Int))) (x5 : (List Int)) (x6 : Int) (x7 : (List Int)) (x8 : Int) (x9 : (List Int)) (rec : List It → St → Prop) (K : V → List Blk → Prop) v0 (hv0 : v0 = (checkRec (nth x4 (Int.toNat x0) (Ty.dflt (Ty.list Ty.int))))) v1 (hv1 : v1 = (recW (nth x4 (Int.toNat x0) (Ty.dflt (Ty.list Ty.int))))) v2 (hv2 : v2 = (okWords x7)) v3 (hv3 : v3 = (liveS x7)) v4 (hv4 : v4 = (scanS x7 (Int.toNat ((v3 : Nat) : Int)))) v5 (hv5 : v5 = (nextI (Int.toNat ((v3 : Nat) : Int)) (v4).snd)) v6 (hv6 : v6 = (recW x3)) v7 (hv7 : v7 = (burnCh (w64 (v5 + (1 : Int))) x3)) v8 (hv8 : v8 = (doCh (⟨x7, x8⟩ : Flash) v7)) v9 (hv9 : v9 = (burnCh v5 ((nth v6 (Int.toNat (0 : Int)) (Ty.dflt Ty.int)) :: []))) v10 (hv10 : v10 = (doCh (⟨((v8).fst).words, ((v8).fst).fuel⟩ : Flash) v9)) v11 (hv11 : v11 = (liveG x7)) v12 (hv12 : v12 = (wipeCh (w64 ((1 : Int) - ((v3 : Nat) : Int))))) v13 (hv13 : v13 = (doCh (⟨x7, x8⟩ : Flash) v12)) v14 (hv14 : v14 = (burnCh (w64 ((w64 ((w64 ((1 : Int) - ((v3 : Nat) : Int))) * (32 : Int))) + (1 : Int))) x5)) v15 (hv15 : v15 = (doCh (⟨((v13).fst).words, ((v13).fst).fuel⟩ : Flash) v14)) v16 (hv16 : v16 = (burnCh (w64 ((w64 ((1 : Int) - ((v3 : Nat) : Int))) * (32 : Int))) ((w64 (v11 + (1 : Int))) :: []))) v17 (hv17 : v17 = (doCh (⟨((v15).fst).words, ((v15).fst).fuel⟩ : Flash) v16)) : segD Γ_log_Append tab fn_log_Append 0 K rec (.code (Code.sub (bodyOf fn_log_Append) [1, 1, 1, 1, 0, 1, 0, 0]) :: log_Append_L0) (log_Append_S0 x0 x1 x2 x3 x4 x5 x6 x7 x8 x9) = (
    br (lti x0 x1)
     ((((0 : Int) ≤ x0) ∧ (x0 < (((len x4) : Nat) : Int))) ∧
      (((Int.toNat x0) < (len x4)) ∧
      (((List.length (nth x4 (Int.toNat x0) (Ty.dflt (Ty.list Ty.int)))) ≤ 140737488355328) ∧
      (br (!(eqi v0 (0 : Int)))
       (K (.tup [.agg [.dat (Ty.list Ty.int) [], .dat Ty.int (0 : Int)], .one (.dat Ty.int v0)]) [])
       (((len (nth x4 (Int.toNat x0) (Ty.dflt (Ty.list Ty.int)))) ≤ 255) ∧
        (((((len x5) + (len v1)) * 8) ≤ 140737488355328) ∧
        (br (lti (31 : Int) (((len (cat x5 v1)) : Nat) : Int))
         (K (.tup [.agg [.dat (Ty.list Ty.int) [], .dat Ty.int (0 : Int)], .one (.dat Ty.int (8 : Int))]) [])
         (rec log_Append_L0 (log_Append_S0 (w64 (x0 + (1 : Int))) x1 x2 x3 x4 (cat x5 v1) x6 x7 x8 x9)))))))))
     (((64 ≤ (len x7)) ∧ (v2 = true)) ∧
      ((((len x7) * 8) ≤ 140737488355328) ∧
      (((len x3) ≤ 255) ∧
      ((((0 : Int) ≤ ((v3 : Nat) : Int)) ∧ ((((v3 : Nat) : Int) ≤ (1 : Int)) ∧ ((64 ≤ (len x7)) ∧ (((len x7) ≤ 192) ∧ (v2 = true))))) ∧
      (br (lei (0 : Int) v5)
       (br (lei (w64 (v5 + (((len v6) : Nat) : Int))) (w64 ((w64 (((v3 : Nat) : Int) + (1 : Int))) * (32 : Int))))
         ((((-(1 : Int)) ≤ x8) ∧ ((x8 ≤ (100000 : Int)) ∧ (((0 : Int) ≤ (w64 (v5 + (1 : Int)))) ∧ ((((w64 (v5 + (1 : Int))) + (((len x3) : Nat) : Int)) ≤ (((len x7) : Nat) : Int)) ∧ ((len x7) ≤ 192))))) ∧
          (br (!(v8).snd)
           (K (.tup [.agg [.dat (Ty.list Ty.int) ((v8).fst).words, .dat Ty.int ((v8).fst).fuel], .one (.dat Ty.int (7 : Int))]) [])
           ((((0 : Int) ≤ (0 : Int)) ∧ ((0 : Int) < (((len v6) : Nat) : Int))) ∧
            ((((-(1 : Int)) ≤ ((v8).fst).fuel) ∧ ((((v8).fst).fuel ≤ (100000 : Int)) ∧ (((0 : Int) ≤ v5) ∧ (((v5 + (((len ((nth v6 (Int.toNat (0 : Int)) (Ty.dflt Ty.int)) :: [])) : Nat) : Int)) ≤ (((len ((v8).fst).words) : Nat) : Int)) ∧ ((len ((v8).fst).words) ≤ 192))))) ∧
            (br (!(v10).snd)
             (K (.tup [.agg [.dat (Ty.list Ty.int) ((v10).fst).words, .dat Ty.int ((v10).fst).fuel], .one (.dat Ty.int (7 : Int))]) [])
             (K (.tup [.agg [.dat (Ty.list Ty.int) ((v10).fst).words, .dat Ty.int ((v10).fst).fuel], .one (.dat Ty.int (0 : Int))]) []))))))
         (br (eqi v11 (60000 : Int))
           (K (.tup [.agg [.dat (Ty.list Ty.int) [], .dat Ty.int (0 : Int)], .one (.dat Ty.int (8 : Int))]) [])
           ((((-(1 : Int)) ≤ x8) ∧ ((x8 ≤ (100000 : Int)) ∧ (((0 : Int) ≤ (w64 ((1 : Int) - ((v3 : Nat) : Int)))) ∧ (((((w64 ((1 : Int) - ((v3 : Nat) : Int))) + (1 : Int)) * (32 : Int)) ≤ (((len x7) : Nat) : Int)) ∧ ((len x7) ≤ 192))))) ∧
            (br (!(v13).snd)
             (K (.tup [.agg [.dat (Ty.list Ty.int) ((v13).fst).words, .dat Ty.int ((v13).fst).fuel], .one (.dat Ty.int (7 : Int))]) [])
             ((((-(1 : Int)) ≤ ((v13).fst).fuel) ∧ ((((v13).fst).fuel ≤ (100000 : Int)) ∧ (((0 : Int) ≤ (w64 ((w64 ((w64 ((1 : Int) - ((v3 : Nat) : Int))) * (32 : Int))) + (1 : Int)))) ∧ ((((w64 ((w64 ((w64 ((1 : Int) - ((v3 : Nat) : Int))) * (32 : Int))) + (1 : Int))) + (((len x5) : Nat) : Int)) ≤ (((len ((v13).fst).words) : Nat) : Int)) ∧ ((len ((v13).fst).words) ≤ 192))))) ∧
              (br (!(v15).snd)
               (K (.tup [.agg [.dat (Ty.list Ty.int) ((v15).fst).words, .dat Ty.int ((v15).fst).fuel], .one (.dat Ty.int (7 : Int))]) [])
               ((((-(1 : Int)) ≤ ((v15).fst).fuel) ∧ ((((v15).fst).fuel ≤ (100000 : Int)) ∧ (((0 : Int) ≤ (w64 ((w64 ((1 : Int) - ((v3 : Nat) : Int))) * (32 : Int)))) ∧ ((((w64 ((w64 ((1 : Int) - ((v3 : Nat) : Int))) * (32 : Int))) + (((len ((w64 (v11 + (1 : Int))) :: [])) : Nat) : Int)) ≤ (((len ((v15).fst).words) : Nat) : Int)) ∧ ((len ((v15).fst).words) ≤ 192))))) ∧
                (br (!(v17).snd)
                 (K (.tup [.agg [.dat (Ty.list Ty.int) ((v17).fst).words, .dat Ty.int ((v17).fst).fuel], .one (.dat Ty.int (7 : Int))]) [])
                 (K (.tup [.agg [.dat (Ty.list Ty.int) ((v17).fst).words, .dat Ty.int ((v17).fst).fuel], .one (.dat Ty.int (0 : Int))]) [])))))))))
       (br (eqi v11 (60000 : Int))
         (K (.tup [.agg [.dat (Ty.list Ty.int) [], .dat Ty.int (0 : Int)], .one (.dat Ty.int (8 : Int))]) [])
         ((((-(1 : Int)) ≤ x8) ∧ ((x8 ≤ (100000 : Int)) ∧ (((0 : Int) ≤ (w64 ((1 : Int) - ((v3 : Nat) : Int)))) ∧ (((((w64 ((1 : Int) - ((v3 : Nat) : Int))) + (1 : Int)) * (32 : Int)) ≤ (((len x7) : Nat) : Int)) ∧ ((len x7) ≤ 192))))) ∧
          (br (!(v13).snd)
           (K (.tup [.agg [.dat (Ty.list Ty.int) ((v13).fst).words, .dat Ty.int ((v13).fst).fuel], .one (.dat Ty.int (7 : Int))]) [])
           ((((-(1 : Int)) ≤ ((v13).fst).fuel) ∧ ((((v13).fst).fuel ≤ (100000 : Int)) ∧ (((0 : Int) ≤ (w64 ((w64 ((w64 ((1 : Int) - ((v3 : Nat) : Int))) * (32 : Int))) + (1 : Int)))) ∧ ((((w64 ((w64 ((w64 ((1 : Int) - ((v3 : Nat) : Int))) * (32 : Int))) + (1 : Int))) + (((len x5) : Nat) : Int)) ≤ (((len ((v13).fst).words) : Nat) : Int)) ∧ ((len ((v13).fst).words) ≤ 192))))) ∧
            (br (!(v15).snd)
             (K (.tup [.agg [.dat (Ty.list Ty.int) ((v15).fst).words, .dat Ty.int ((v15).fst).fuel], .one (.dat Ty.int (7 : Int))]) [])
             ((((-(1 : Int)) ≤ ((v15).fst).fuel) ∧ ((((v15).fst).fuel ≤ (100000 : Int)) ∧ (((0 : Int) ≤ (w64 ((w64 ((1 : Int) - ((v3 : Nat) : Int))) * (32 : Int)))) ∧ ((((w64 ((w64 ((1 : Int) - ((v3 : Nat) : Int))) * (32 : Int))) + (((len ((w64 (v11 + (1 : Int))) :: [])) : Nat) : Int)) ≤ (((len ((v15).fst).words) : Nat) : Int)) ∧ ((len ((v15).fst).words) ≤ 192))))) ∧
              (br (!(v17).snd)
               (K (.tup [.agg [.dat (Ty.list Ty.int) ((v17).fst).words, .dat Ty.int ((v17).fst).fuel], .one (.dat Ty.int (7 : Int))]) [])
               (K (.tup [.agg [.dat (Ty.list Ty.int) ((v17).fst).words, .dat Ty.int ((v17).fst).fuel], .one (.dat Ty.int (0 : Int))]) [])))))))))))))) := by subst hv17; subst hv16; subst hv15; subst hv14; subst hv13; subst hv12; subst hv11; subst hv10; subst hv9; subst hv8; subst hv7; subst hv6; subst hv5; subst hv4; subst hv3; subst hv2; subst hv1; subst hv0; kernel_rfl
theorem log_Append_w0 (x0 : Int) (x1 : Int) (x2 : Int) (x3 : (List Int)) (x4 : (List (List Int))) (x5 : (List Int)) (x6 : Int) (x7 : (List Int)) (x8 : Int) (x9 : (List Int)) (m : Nat) (K : V → List Blk → Prop) : goD Γ_log_Append tab fn_log_Append 0 K (m + 1) log_Append_L0 (log_Append_S0 x0 x1 x2 x3 x4 x5 x6 x7 x8 x9) = segD Γ_log_Append tab fn_log_Append 0 K (goD Γ_log_Append tab fn_log_Append 0 K m) (.code (Code.sub (bodyOf fn_log_Append) [1, 1, 1, 1, 0, 1, 0, 0]) :: log_Append_L0) (log_Append_S0 x0 x1 x2 x3 x4 x5 x6 x7 x8 x9) := rfl

theorem loop_log_Append (ws r : List Int) (fu : Int) (rs : List (List Int)) (hl : rs.length ≤ 5864062014806) (hs : smR rs = true) (K : V → List Blk → Prop)
    (hbad : ∀ e, e ≠ 0 → gather 0 rs = e → K (.tup [.agg [.dat (.list .int) [], .dat .int 0], .one (.dat .int e)]) [])
    (hend : ∀ M, gather 0 rs = 0 → (allW rs).length ≤ 31 → goD Γ_log_Append tab fn_log_Append 0 K (M + 1) log_Append_L0 (log_Append_S0 (rs.length : Int) (((len rs) : Nat) : Int) 0 r rs (allW rs) 0 ws fu [])) :
    ∀ (d k : Nat), rs.length ≤ k + d → k ≤ rs.length → (allW (rs.take k)).length ≤ 31 → gather 0 rs = gather (allW (rs.take k)).length (rs.drop k) →
    goD Γ_log_Append tab fn_log_Append 0 K (d + 1) log_Append_L0 (log_Append_S0 (k : Int) (((len rs) : Nat) : Int) 0 r rs (allW (rs.take k)) 0 ws fu [])
  | 0, k, hk, hk2, ha, hg => by
    have : k = rs.length := by omega
    subst this
    rw [List.take_length] at ha hg ⊢
    rw [List.drop_length] at hg
    exact hend 0 hg ha
  | d + 1, k, hk, hk2, ha, hg => by
    by_cases c : k = rs.length
    · subst c
      rw [List.take_length] at ha hg ⊢
      rw [List.drop_length] at hg
      exact hend (d + 1) hg ha
    have ht := take_step (l := rs) (k := k) (by omega) (Ty.dflt (.list .int))
    rw [drop_step (by omega) (Ty.dflt (.list .int))] at hg
    have hm : nth rs k (Ty.dflt (.list .int)) ∈ rs := by
      have : k < rs.length := by omega
      simp [nth, List.getD_eq_getElem?_getD, this]
    have hsm := List.all_eq_true.1 hs _ hm
    simp only [decide_eq_true_eq] at hsm
    rw [log_Append_w0, log_Append_vc0 _ _ _ _ _ _ _ _ _ _ _ _ _ rfl _ rfl _ rfl _ rfl _ rfl _ rfl _ rfl _ rfl _ rfl _ rfl _ rfl _ rfl _ rfl _ rfl _ rfl _ rfl _ rfl _ rfl, toNat_nat]
    obtain ⟨x, hx⟩ : ∃ x, nth rs k (Ty.dflt (.list .int)) = x := ⟨_, rfl⟩
    rw [hx] at ht hg hsm ⊢
    simp only [gather] at hg
    refine lt_t (by simp only [len]; omega) ⟨⟨by omega, by simp only [len]; omega⟩, by simp only [len]; omega, hsm, ne_s (fun h1 => ?_) (fun h1 => ?_)⟩
    · rw [if_neg h1] at hg
      exact hbad _ h1 hg
    · rw [if_pos h1] at hg
      obtain ⟨r1, r2, r3⟩ := checkRec_ok h1
      refine ⟨by simp only [len]; omega, by simp only [len, recW_len]; omega, lt_s (fun h2 => ?_) (fun h2 => ?_)⟩
      · simp only [len, cat, List.length_append, recW_len] at h2
        rw [if_neg (by omega)] at hg
        exact hbad 8 (by decide) hg
      · simp only [len, cat, List.length_append, recW_len] at h2
        rw [if_pos (by omega)] at hg
        rw [w64_succ (by omega)]
        have e : cat (allW (rs.take k)) (recW x) = allW (rs.take (k + 1)) := by rw [ht, allW_snoc]; rfl
        have el : (allW (rs.take (k + 1))).length = (allW (rs.take k)).length + 1 + x.length := by rw [ht, allW_snoc, List.length_append, recW_len]; omega
        rw [e]
        exact loop_log_Append ws r fu rs hl hs K hbad hend d (k + 1) (by omega) (by omega) (by rw [el]; omega) (by rw [hg, el])
theorem there_log_Append (ws al : List Int) (fu g : Int) (s : Nat) (hs : s ≤ 1) (h64 : 64 ≤ ws.length) (h192 : ws.length ≤ 192) (f1 : -1 ≤ fu) (f2 : fu ≤ 100000) (hg0 : 0 ≤ g) (hg1 : g ≤ 65535) (hal : al.length ≤ 31) (P : Flash × Int → Prop)
    (hP : P (power (doCh ⟨ws, fu⟩ (wipeCh ((1 - s : Nat) : Int) ++ burnCh (32 * ((1 - s : Nat) : Int) + 1) al ++ burnCh (32 * ((1 - s : Nat) : Int)) [g + 1])))) :
    let o := w64 (1 - (s : Int))
    let a := doCh ⟨ws, fu⟩ (wipeCh o)
    let b := doCh ⟨a.1.words, a.1.fuel⟩ (burnCh (w64 (w64 (o * 32) + 1)) al)
    let c := doCh ⟨b.1.words, b.1.fuel⟩ (burnCh (w64 (o * 32)) [w64 (g + 1)])
    (0 ≤ o ∧ (o + 1) * 32 ≤ (ws.length : Int)) ∧
    (a.2 = false → P (a.1, 7)) ∧ ((-1 ≤ a.1.fuel ∧ a.1.fuel ≤ 100000 ∧ 0 ≤ w64 (w64 (o * 32) + 1) ∧ w64 (w64 (o * 32) + 1) + (al.length : Int) ≤ (a.1.words.length : Int) ∧ a.1.words.length ≤ 192) ∧
    (a.2 = true → b.2 = false → P (b.1, 7)) ∧ ((-1 ≤ b.1.fuel ∧ b.1.fuel ≤ 100000 ∧ 0 ≤ w64 (o * 32) ∧ w64 (o * 32) + 1 ≤ (b.1.words.length : Int) ∧ b.1.words.length ≤ 192) ∧
    (a.2 = true → b.2 = true → P (c.1, powerE c.2)))) := by
  intro o a b c
  have eo : o = ((1 - s : Nat) : Int) := by show w64 (1 - (s : Int)) = _; rw [w64_id (by omega) (by omega)]; omega
  have e1 : w64 (o * 32) = 32 * ((1 - s : Nat) : Int) := by rw [eo, w64_id (by omega) (by omega)]; omega
  have e2 : w64 (w64 (o * 32) + 1) = 32 * ((1 - s : Nat) : Int) + 1 := by rw [e1, w64_id (by omega) (by omega)]
  have e3 : w64 (g + 1) = g + 1 := w64_id (by omega) (by omega)
  have fa := doCh_fuel ⟨ws, fu⟩ (wipeCh o) f1 f2
  have la : a.1.words.length = ws.length := doCh_len ⟨ws, fu⟩ (wipeCh o)
  have fb := doCh_fuel a.1 (burnCh (w64 (w64 (o * 32) + 1)) al) fa.1 fa.2
  have lb : b.1.words.length = a.1.words.length := doCh_len a.1 (burnCh (w64 (w64 (o * 32) + 1)) al)
  rw [doCh_append, doCh_append] at hP
  have ea : doCh ⟨ws, fu⟩ (wipeCh ((1 - s : Nat) : Int)) = a := by rw [← eo]
  have eb : doCh a.1 (burnCh (32 * ((1 - s : Nat) : Int) + 1) al) = b := by rw [← e2]
  have ec : doCh b.1 (burnCh (32 * ((1 - s : Nat) : Int)) [g + 1]) = c := by rw [← e1, ← e3]
  rw [ea, eb] at hP
  refine ⟨by omega, fun h => ?_, ⟨fa.1, fa.2, by omega, by omega, by omega⟩, fun h h' => ?_, ⟨fb.1, fb.2, by omega, by omega, by omega⟩, fun h h' => ?_⟩
  · rw [if_neg (by simp [h]), if_neg (by simp [h])] at hP
    simpa [power, h, powerE] using hP
  · rw [if_pos h, if_neg (by simp [h'])] at hP
    simpa [power, h', powerE] using hP
  · rw [if_pos h, if_pos h', ec] at hP
    exact hP
set_option maxHeartbeats 4000000 in
theorem run_log_Append (ws : List Int) (fu : Int) (r : List Int) (keep : List (List Int)) (hp : Sm r ∧ len keep * 24 ≤ 140737488351232 ∧ smR keep = true) (K : V → List Blk → Prop) (hK : K (.tup [.agg [.dat (.list .int) (appendF ⟨ws, fu⟩ r keep).1.words, .dat .int (appendF ⟨ws, fu⟩ r keep).1.fuel], .one (.dat .int (appendF ⟨ws, fu⟩ r keep).2)]) []) : ∃ m, goD Γ_log_Append tab fn_log_Append 0 K m [.code (bodyOf fn_log_Append)] (initSt [.agg [.dat (.list .int) ws, .dat .int fu], .one (.dat (.list .int) r), .one (.dat (.list (.list .int)) keep)] []) := by
  obtain ⟨hr, hk, hsm⟩ := hp
  refine ⟨(keep ++ [r]).length + 1 + 1, ?_⟩
  rw [log_Append_w, log_Append_vc _ _ _ _ _ _ _ rfl _ rfl]
  unfold appendF appendE at hK
  simp only [len] at hk
  refine ne_s (fun h => ?_) (fun h => ?_)
  · rw [if_neg h, if_neg h] at hK; exact hK
  rw [if_pos h] at hK
  refine ⟨hr, ne_s (fun h2 => ?_) (fun h2 => ?_)⟩
  · rw [if_neg h2, if_neg h2] at hK; exact hK
  rw [if_pos h2] at hK
  obtain ⟨k1, k2, k3, k4⟩ := checkLog_ok h
  obtain ⟨c1, c2, c3, c4⟩ := checkFlash_ok k1
  obtain ⟨c5, c6⟩ := okLen_le c1
  simp only at k2 k3 k4 c2 c3 c4 c5 c6
  obtain ⟨r1, r2, r3⟩ := checkRec_ok h2
  have hlen : (keep ++ [r]).length = keep.length + 1 := by simp
  obtain ⟨rs, hrs⟩ : ∃ rs, keep ++ [r] = rs := ⟨_, rfl⟩
  have hsr : smR rs = true := by
    rw [← hrs]; unfold smR at hsm ⊢; rw [List.all_append, hsm]
    simp only [List.all_cons, List.all_nil, Bool.and_true, Bool.true_and, decide_eq_true_eq]; omega
  rw [hrs] at hlen ⊢
  refine ⟨by simp only [len]; omega, by simp only [len, List.length_cons, List.length_nil]; omega, ?_⟩
  rw [show cat keep [r] = rs from hrs]
  rw [hrs] at hK
  have e0 : allW (rs.take 0) = [] := by simp [allW]
  have l0 : (allW (rs.take 0)).length = 0 := by rw [e0]; rfl
  refine loop_log_Append ws r fu rs (by omega) hsr K (fun e he hg => ?_) (fun M hg hal => ?_) rs.length 0 (by omega) (by omega) (by omega) (by rw [l0, List.drop_zero])
  · rw [hg, if_neg he] at hK; exact hK
  rw [hg, if_pos rfl] at hK
  rw [log_Append_w0, log_Append_vc0 _ _ _ _ _ _ _ _ _ _ _ _ _ rfl _ rfl _ rfl _ rfl _ rfl _ rfl _ rfl _ rfl _ rfl _ rfl _ rfl _ rfl _ rfl _ rfl _ rfl _ rfl _ rfl _ rfl, toNat_nat]
  unfold appendCh at hK
  have hls := liveS_le ws
  have hgr := genOf_range c4 (liveS ws)
  have hg1 : liveG ws = genOf ws (liveS ws) := rfl
  have es : ∀ s : Nat, Int.toNat (s : Int) = s := fun _ => rfl
  simp only [hrs] at hK
  obtain ⟨s, hs⟩ : ∃ s, liveS ws = s := ⟨_, rfl⟩
  rw [hs] at hK hls ⊢
  obtain ⟨g, hgg⟩ : ∃ g, liveG ws = g := ⟨_, rfl⟩
  rw [hgg] at hK hg1 k3 k4 ⊢
  rw [w64_id (n := (s : Int) + 1) (by omega) (by omega), w64_id (n := ((s : Int) + 1) * 32) (by omega) (by omega)]
  have e6 : (((len (recW r)) : Nat) : Int) = (r.length : Int) + 1 := by simp only [len, recW_len]; omega
  have e7 : nth (recW r) (Int.toNat (0 : Int)) (Ty.dflt Ty.int) = 42240 + (r.length : Int) := rfl
  rw [e6, e7, es s]
  simp only [len]
  have hthere := fun (hP : K (.tup [.agg [.dat (.list .int) (power (doCh ⟨ws, fu⟩ (thereCh (1 - s) rs (g + 1)))).1.words, .dat .int (power (doCh ⟨ws, fu⟩ (thereCh (1 - s) rs (g + 1)))).1.fuel], .one (.dat .int (power (doCh ⟨ws, fu⟩ (thereCh (1 - s) rs (g + 1)))).2)]) []) =>
    there_log_Append ws (allW rs) fu g s hls k2 c6 c2 c3 (by omega) (by omega) hal (fun x => K (.tup [.agg [.dat (.list .int) x.1.words, .dat .int x.1.fuel], .one (.dat .int x.2)]) []) hP
  refine lt_f (by omega) ⟨⟨k2, c4⟩, by omega, by omega, ⟨by omega, by omega, k2, c6, c4⟩, ?_⟩
  cases hsc : (scanS ws s).2 with
  | none =>
    rw [hsc] at hK
    simp only [room, Bool.false_eq_true, if_false] at hK
    simp only [nextI]
    refine br_f (lei_false.2 (by omega)) (eq_s (fun h5 => ?_) (fun h5 => ?_))
    · rw [if_pos h5] at hK; exact hK
    · rw [if_neg h5] at hK
      obtain ⟨t1, t2, t3, t4, t5, t6⟩ := hthere hK
      refine ⟨⟨c2, c3, t1.1, t1.2, c6⟩, nt_s t2 (fun q1 => ⟨t3, nt_s (t4 q1) (fun q2 => ⟨t5, nt_s (fun q3 => ?_) (fun q3 => ?_)⟩)⟩)⟩
      · have := t6 q1 q2; rw [q3] at this; exact this
      · have := t6 q1 q2; rw [q3] at this; exact this
  | some a =>
    have ha := scanS_le (by omega) hsc
    rw [hsc] at hK
    simp only [nextI]
    rw [w64_id (n := 32 * (s : Int) + 1 + a + ((r.length : Int) + 1)) (by omega) (by omega), w64_id (n := 32 * (s : Int) + 1 + a + 1) (by omega) (by omega)]
    refine br_t (lei_true.2 (by omega)) (br_split (fun h5 => ?_) (fun h5 => ?_))
    · rw [lei_true] at h5
      rw [if_pos (show room r.length (some a) = true from by simp only [room, decide_eq_true_eq]; omega)] at hK
      simp only [Option.getD_some, hereCh] at hK
      rw [show ((32 * s + 1 + a : Nat) : Int) = 32 * (s : Int) + 1 + a by omega, doCh_append] at hK
      obtain ⟨f1, f2⟩ := doCh_fuel ⟨ws, fu⟩ (burnCh (32 * (s : Int) + 1 + a + 1) r) c2 c3
      have l1 := doCh_len ⟨ws, fu⟩ (burnCh (32 * (s : Int) + 1 + a + 1) r)
      simp only at l1
      refine ⟨⟨c2, c3, by omega, by omega, c6⟩, nt_s (fun q1 => ?_) (fun q1 => ⟨⟨by omega, by omega⟩, ⟨f1, f2, by omega, by simp only [List.length_cons, List.length_nil]; omega, by omega⟩, nt_s (fun q2 => ?_) (fun q2 => ?_)⟩)⟩
      · rw [if_neg (by simp [q1])] at hK
        simpa only [power, q1, powerE] using hK
      · rw [if_pos q1] at hK
        simp only [power] at hK
        rw [show (doCh (doCh ⟨ws, fu⟩ (burnCh (32 * (s : Int) + 1 + a + 1) r)).1 (burnCh (32 * (s : Int) + 1 + a) [42240 + (r.length : Int)])).2 = false from q2] at hK
        exact hK
      · rw [if_pos q1] at hK
        simp only [power] at hK
        rw [show (doCh (doCh ⟨ws, fu⟩ (burnCh (32 * (s : Int) + 1 + a + 1) r)).1 (burnCh (32 * (s : Int) + 1 + a) [42240 + (r.length : Int)])).2 = true from q2] at hK
        exact hK
    · rw [lei_false] at h5
      rw [if_neg (show ¬ room r.length (some a) = true from by simp only [room, decide_eq_true_eq]; omega)] at hK
      refine eq_s (fun h5 => ?_) (fun h5 => ?_)
      · rw [if_pos h5] at hK; exact hK
      · rw [if_neg h5] at hK
        obtain ⟨t1, t2, t3, t4, t5, t6⟩ := hthere hK
        refine ⟨⟨c2, c3, t1.1, t1.2, c6⟩, nt_s t2 (fun q1 => ⟨t3, nt_s (t4 q1) (fun q2 => ⟨t5, nt_s (fun q3 => ?_) (fun q3 => ?_)⟩)⟩)⟩
        · have := t6 q1 q2; rw [q3] at this; exact this
        · have := t6 q1 q2; rw [q3] at this; exact this
theorem sound_log_Append : SoundC Tryd.prog tab n_log_Append c_log_Append := soundC_of ok_log_Append hf_log_Append hB_log_Append (by
  intro vs bs p v bs' h hp
  unfold c_log_Append at h
  split at h
  · cases h
    exact ⟨by kernel_rfl, rfl, .inl (run_log_Append _ _ _ _ hp.1 _ ⟨rfl, rfl⟩)⟩
  · cases h)

def c_gate_forget : Contract := fun vs bs => match vs, bs with
  | [.one (.ptr 0 0)], [.box [.dat (.list .int) ws, .dat .int fu, .dat .bool up, .dat .int tv, .dat (.list .int) tk, .dat .int tt, .dat .int tn, .own 1, .own 2], .arr .bool vo, .arr .bool di] => some (none, .tup [], [.box [.dat (.list .int) (forgetG ⟨⟨ws, fu⟩, up, ⟨⟨tv, tk, tt⟩, tn⟩, vo, di⟩).f.words, .dat .int (forgetG ⟨⟨ws, fu⟩, up, ⟨⟨tv, tk, tt⟩, tn⟩, vo, di⟩).f.fuel, .dat .bool (forgetG ⟨⟨ws, fu⟩, up, ⟨⟨tv, tk, tt⟩, tn⟩, vo, di⟩).up, .dat .int (forgetG ⟨⟨ws, fu⟩, up, ⟨⟨tv, tk, tt⟩, tn⟩, vo, di⟩).t.r.version, .dat (.list .int) (forgetG ⟨⟨ws, fu⟩, up, ⟨⟨tv, tk, tt⟩, tn⟩, vo, di⟩).t.r.keys, .dat .int (forgetG ⟨⟨ws, fu⟩, up, ⟨⟨tv, tk, tt⟩, tn⟩, vo, di⟩).t.r.thr, .dat .int (forgetG ⟨⟨ws, fu⟩, up, ⟨⟨tv, tk, tt⟩, tn⟩, vo, di⟩).t.version, .own 1, .own 2], .arr .bool (forgetG ⟨⟨ws, fu⟩, up, ⟨⟨tv, tk, tt⟩, tn⟩, vo, di⟩).voted, .arr .bool (forgetG ⟨⟨ws, fu⟩, up, ⟨⟨tv, tk, tt⟩, tn⟩, vo, di⟩).did])
  | _, _ => none
def Γ_gate_forget : Ctx := []
theorem ok_gate_forget : Ok Tryd.prog tab Γ_gate_forget := ok_nil
theorem gate_forget_vc (ws : List Int) (fu : Int) (up : Bool) (tv : Int) (tk : List Int) (tt : Int) (tn : Int) (vo : List Bool) (di : List Bool) (rec : List It → St → Prop) (K : V → List Blk → Prop) : segD Γ_gate_forget tab fn_gate_forget 3 K rec [.code (bodyOf fn_gate_forget)] (initSt [.one (.ptr 0 0)] [.box [.dat (Ty.list Ty.int) ws, .dat Ty.int fu, .dat Ty.bool up, .dat Ty.int tv, .dat (Ty.list Ty.int) tk, .dat Ty.int tt, .dat Ty.int tn, .own 1, .own 2], .arr Ty.bool vo, .arr Ty.bool di]) = (
    K (.tup []) [.box [.dat (Ty.list Ty.int) ws, .dat Ty.int fu, .dat Ty.bool up, .dat Ty.int tv, .dat (Ty.list Ty.int) tk, .dat Ty.int tt, .dat Ty.int tn, .own 1, .own 2], .arr Ty.bool (zeros (len vo) (Ty.dflt Ty.bool)), .arr Ty.bool (zeros (len di) (Ty.dflt Ty.bool))]) := by kernel_rfl
theorem gate_forget_w (ws : List Int) (fu : Int) (up : Bool) (tv : Int) (tk : List Int) (tt : Int) (tn : Int) (vo : List Bool) (di : List Bool) (m : Nat) (K : V → List Blk → Prop) : goD Γ_gate_forget tab fn_gate_forget 3 K (m + 1) [.code (bodyOf fn_gate_forget)] (initSt [.one (.ptr 0 0)] [.box [.dat (Ty.list Ty.int) ws, .dat Ty.int fu, .dat Ty.bool up, .dat Ty.int tv, .dat (Ty.list Ty.int) tk, .dat Ty.int tt, .dat Ty.int tn, .own 1, .own 2], .arr Ty.bool vo, .arr Ty.bool di]) = segD Γ_gate_forget tab fn_gate_forget 3 K (goD Γ_gate_forget tab fn_gate_forget 3 K m) [.code (bodyOf fn_gate_forget)] (initSt [.one (.ptr 0 0)] [.box [.dat (Ty.list Ty.int) ws, .dat Ty.int fu, .dat Ty.bool up, .dat Ty.int tv, .dat (Ty.list Ty.int) tk, .dat Ty.int tt, .dat Ty.int tn, .own 1, .own 2], .arr Ty.bool vo, .arr Ty.bool di]) := rfl

set_option maxHeartbeats 4000000 in
theorem run_gate_forget (ws : List Int) (fu : Int) (up : Bool) (tv : Int) (tk : List Int) (tt tn : Int) (vo di : List Bool) (K : V → List Blk → Prop) (hK : K (.tup []) [.box [.dat (.list .int) (forgetG ⟨⟨ws, fu⟩, up, ⟨⟨tv, tk, tt⟩, tn⟩, vo, di⟩).f.words, .dat .int (forgetG ⟨⟨ws, fu⟩, up, ⟨⟨tv, tk, tt⟩, tn⟩, vo, di⟩).f.fuel, .dat .bool (forgetG ⟨⟨ws, fu⟩, up, ⟨⟨tv, tk, tt⟩, tn⟩, vo, di⟩).up, .dat .int (forgetG ⟨⟨ws, fu⟩, up, ⟨⟨tv, tk, tt⟩, tn⟩, vo, di⟩).t.r.version, .dat (.list .int) (forgetG ⟨⟨ws, fu⟩, up, ⟨⟨tv, tk, tt⟩, tn⟩, vo, di⟩).t.r.keys, .dat .int (forgetG ⟨⟨ws, fu⟩, up, ⟨⟨tv, tk, tt⟩, tn⟩, vo, di⟩).t.r.thr, .dat .int (forgetG ⟨⟨ws, fu⟩, up, ⟨⟨tv, tk, tt⟩, tn⟩, vo, di⟩).t.version, .own 1, .own 2], .arr .bool (forgetG ⟨⟨ws, fu⟩, up, ⟨⟨tv, tk, tt⟩, tn⟩, vo, di⟩).voted, .arr .bool (forgetG ⟨⟨ws, fu⟩, up, ⟨⟨tv, tk, tt⟩, tn⟩, vo, di⟩).did]) : ∃ m, goD Γ_gate_forget tab fn_gate_forget 3 K m [.code (bodyOf fn_gate_forget)] (initSt [.one (.ptr 0 0)] [.box [.dat (.list .int) ws, .dat .int fu, .dat .bool up, .dat .int tv, .dat (.list .int) tk, .dat .int tt, .dat .int tn, .own 1, .own 2], .arr .bool vo, .arr .bool di]) := by
  refine ⟨1, ?_⟩
  rw [gate_forget_w, gate_forget_vc _ _ _ _ _ _ _ _ _ _ _]
  exact hK
theorem sound_gate_forget : SoundC Tryd.prog tab n_gate_forget c_gate_forget := soundC_of ok_gate_forget hf_gate_forget hB_gate_forget (by
  intro vs bs p v bs' h hp
  unfold c_gate_forget at h
  split at h
  · cases h
    exact ⟨by kernel_rfl, rfl, .inl (run_gate_forget _ _ _ _ _ _ _ _ _ _ ⟨rfl, rfl⟩)⟩
  · cases h)

def c_gate_note : Contract := fun vs bs => match vs, bs with
  | [.one (.ptr 0 0), .one (.dat (.list .int) r)], [.box [.dat (.list .int) ws, .dat .int fu, .dat .bool up, .dat .int tv, .dat (.list .int) tk, .dat .int tt, .dat .int tn, .own 1, .own 2], .arr .bool vo, .arr .bool di] => some (some (Sm r), .one (.dat .bool (noteG ⟨⟨ws, fu⟩, up, ⟨⟨tv, tk, tt⟩, tn⟩, vo, di⟩ r).2), [.box [.dat (.list .int) (noteG ⟨⟨ws, fu⟩, up, ⟨⟨tv, tk, tt⟩, tn⟩, vo, di⟩ r).1.f.words, .dat .int (noteG ⟨⟨ws, fu⟩, up, ⟨⟨tv, tk, tt⟩, tn⟩, vo, di⟩ r).1.f.fuel, .dat .bool (noteG ⟨⟨ws, fu⟩, up, ⟨⟨tv, tk, tt⟩, tn⟩, vo, di⟩ r).1.up, .dat .int (noteG ⟨⟨ws, fu⟩, up, ⟨⟨tv, tk, tt⟩, tn⟩, vo, di⟩ r).1.t.r.version, .dat (.list .int) (noteG ⟨⟨ws, fu⟩, up, ⟨⟨tv, tk, tt⟩, tn⟩, vo, di⟩ r).1.t.r.keys, .dat .int (noteG ⟨⟨ws, fu⟩, up, ⟨⟨tv, tk, tt⟩, tn⟩, vo, di⟩ r).1.t.r.thr, .dat .int (noteG ⟨⟨ws, fu⟩, up, ⟨⟨tv, tk, tt⟩, tn⟩, vo, di⟩ r).1.t.version, .own 1, .own 2], .arr .bool (noteG ⟨⟨ws, fu⟩, up, ⟨⟨tv, tk, tt⟩, tn⟩, vo, di⟩ r).1.voted, .arr .bool (noteG ⟨⟨ws, fu⟩, up, ⟨⟨tv, tk, tt⟩, tn⟩, vo, di⟩ r).1.did])
  | _, _ => none
def Γ_gate_note : Ctx := [(n_gate_of_o, c_gate_of_o), (n_gate_keep, c_gate_keep), (n_log_Append, c_log_Append), (n_gate_forget, c_gate_forget)]
theorem ok_gate_note : Ok Tryd.prog tab Γ_gate_note := ((((ok_nil.consC hf_gate_forget hB_gate_forget sound_gate_forget).consC hf_log_Append hB_log_Append sound_log_Append).consC hf_gate_keep hB_gate_keep sound_gate_keep).consC hf_gate_of_o hB_gate_of_o sound_gate_of_o)
theorem gate_note_vc (ws : List Int) (fu : Int) (up : Bool) (tv : Int) (tk : List Int) (tt : Int) (tn : Int) (vo : List Bool) (di : List Bool) (r : List Int) (rec : List It → St → Prop) (K : V → List Blk → Prop) v0 (hv0 : v0 = (ofG (⟨ws, fu⟩ : Vm.Flash))) v1 (hv1 : v1 = (keepG (⟨(v0).n, (v0).version, (v0).commit, (v0).abort, (v0).ended⟩ : Vm.GState))) v2 (hv2 : v2 = (smR v1)) v3 (hv3 : v3 = (appendF (⟨ws, fu⟩ : Vm.Flash) r v1)) : segD Γ_gate_note tab fn_gate_note 3 K rec [.code (bodyOf fn_gate_note)] (initSt [.one (.ptr 0 0), .one (.dat (Ty.list Ty.int) r)] [.box [.dat (Ty.list Ty.int) ws, .dat Ty.int fu, .dat Ty.bool up, .dat Ty.int tv, .dat (Ty.list Ty.int) tk, .dat Ty.int tt, .dat Ty.int tn, .own 1, .own 2], .arr Ty.bool vo, .arr Ty.bool di]) = (
    (((List.length r) ≤ 140737488355328) ∧ ((((len v1) * 24) ≤ 140737488351232) ∧ (v2 = true))) ∧
    (br (!(eqi (v3).snd (0 : Int)))
     (br (!(eqi (v3).snd (7 : Int)))
       (K (.one (.dat Ty.bool false)) [.box [.dat (Ty.list Ty.int) ws, .dat Ty.int fu, .dat Ty.bool up, .dat Ty.int tv, .dat (Ty.list Ty.int) tk, .dat Ty.int tt, .dat Ty.int tn, .own 1, .own 2], .arr Ty.bool vo, .arr Ty.bool di])
       (br (eqi (v3).snd (7 : Int))
         (K (.one (.dat Ty.bool (eqi (v3).snd (0 : Int)))) [.box [.dat (Ty.list Ty.int) ((v3).fst).words, .dat Ty.int ((v3).fst).fuel, .dat Ty.bool false, .dat Ty.int tv, .dat (Ty.list Ty.int) tk, .dat Ty.int tt, .dat Ty.int tn, .own 1, .own 2], .arr Ty.bool (zeros (List.length vo) false), .arr Ty.bool (zeros (List.length di) false)])
         (K (.one (.dat Ty.bool (eqi (v3).snd (0 : Int)))) [.box [.dat (Ty.list Ty.int) ((v3).fst).words, .dat Ty.int ((v3).fst).fuel, .dat Ty.bool up, .dat Ty.int tv, .dat (Ty.list Ty.int) tk, .dat Ty.int tt, .dat Ty.int tn, .own 1, .own 2], .arr Ty.bool vo, .arr Ty.bool di])))
     (br (eqi (v3).snd (7 : Int))
       (K (.one (.dat Ty.bool (eqi (v3).snd (0 : Int)))) [.box [.dat (Ty.list Ty.int) ((v3).fst).words, .dat Ty.int ((v3).fst).fuel, .dat Ty.bool false, .dat Ty.int tv, .dat (Ty.list Ty.int) tk, .dat Ty.int tt, .dat Ty.int tn, .own 1, .own 2], .arr Ty.bool (zeros (List.length vo) false), .arr Ty.bool (zeros (List.length di) false)])
       (K (.one (.dat Ty.bool (eqi (v3).snd (0 : Int)))) [.box [.dat (Ty.list Ty.int) ((v3).fst).words, .dat Ty.int ((v3).fst).fuel, .dat Ty.bool up, .dat Ty.int tv, .dat (Ty.list Ty.int) tk, .dat Ty.int tt, .dat Ty.int tn, .own 1, .own 2], .arr Ty.bool vo, .arr Ty.bool di])))) := by subst hv3; subst hv2; subst hv1; subst hv0; kernel_rfl
theorem gate_note_w (ws : List Int) (fu : Int) (up : Bool) (tv : Int) (tk : List Int) (tt : Int) (tn : Int) (vo : List Bool) (di : List Bool) (r : List Int) (m : Nat) (K : V → List Blk → Prop) : goD Γ_gate_note tab fn_gate_note 3 K (m + 1) [.code (bodyOf fn_gate_note)] (initSt [.one (.ptr 0 0), .one (.dat (Ty.list Ty.int) r)] [.box [.dat (Ty.list Ty.int) ws, .dat Ty.int fu, .dat Ty.bool up, .dat Ty.int tv, .dat (Ty.list Ty.int) tk, .dat Ty.int tt, .dat Ty.int tn, .own 1, .own 2], .arr Ty.bool vo, .arr Ty.bool di]) = segD Γ_gate_note tab fn_gate_note 3 K (goD Γ_gate_note tab fn_gate_note 3 K m) [.code (bodyOf fn_gate_note)] (initSt [.one (.ptr 0 0), .one (.dat (Ty.list Ty.int) r)] [.box [.dat (Ty.list Ty.int) ws, .dat Ty.int fu, .dat Ty.bool up, .dat Ty.int tv, .dat (Ty.list Ty.int) tk, .dat Ty.int tt, .dat Ty.int tn, .own 1, .own 2], .arr Ty.bool vo, .arr Ty.bool di]) := rfl

set_option maxHeartbeats 4000000 in
theorem run_gate_note (ws : List Int) (fu : Int) (up : Bool) (tv : Int) (tk : List Int) (tt tn : Int) (vo di : List Bool) (r : List Int) (hp : Sm r) (K : V → List Blk → Prop) (hK : K (.one (.dat .bool (noteG ⟨⟨ws, fu⟩, up, ⟨⟨tv, tk, tt⟩, tn⟩, vo, di⟩ r).2)) [.box [.dat (.list .int) (noteG ⟨⟨ws, fu⟩, up, ⟨⟨tv, tk, tt⟩, tn⟩, vo, di⟩ r).1.f.words, .dat .int (noteG ⟨⟨ws, fu⟩, up, ⟨⟨tv, tk, tt⟩, tn⟩, vo, di⟩ r).1.f.fuel, .dat .bool (noteG ⟨⟨ws, fu⟩, up, ⟨⟨tv, tk, tt⟩, tn⟩, vo, di⟩ r).1.up, .dat .int (noteG ⟨⟨ws, fu⟩, up, ⟨⟨tv, tk, tt⟩, tn⟩, vo, di⟩ r).1.t.r.version, .dat (.list .int) (noteG ⟨⟨ws, fu⟩, up, ⟨⟨tv, tk, tt⟩, tn⟩, vo, di⟩ r).1.t.r.keys, .dat .int (noteG ⟨⟨ws, fu⟩, up, ⟨⟨tv, tk, tt⟩, tn⟩, vo, di⟩ r).1.t.r.thr, .dat .int (noteG ⟨⟨ws, fu⟩, up, ⟨⟨tv, tk, tt⟩, tn⟩, vo, di⟩ r).1.t.version, .own 1, .own 2], .arr .bool (noteG ⟨⟨ws, fu⟩, up, ⟨⟨tv, tk, tt⟩, tn⟩, vo, di⟩ r).1.voted, .arr .bool (noteG ⟨⟨ws, fu⟩, up, ⟨⟨tv, tk, tt⟩, tn⟩, vo, di⟩ r).1.did]) : ∃ m, goD Γ_gate_note tab fn_gate_note 3 K m [.code (bodyOf fn_gate_note)] (initSt [.one (.ptr 0 0), .one (.dat (.list .int) r)] [.box [.dat (.list .int) ws, .dat .int fu, .dat .bool up, .dat .int tv, .dat (.list .int) tk, .dat .int tt, .dat .int tn, .own 1, .own 2], .arr .bool vo, .arr .bool di]) := by
  refine ⟨1, ?_⟩
  rw [gate_note_w, gate_note_vc _ _ _ _ _ _ _ _ _ _ _ _ _ rfl _ rfl _ rfl _ rfl]
  unfold noteG changeG at hK
  simp only at hK
  have e0 : (⟨(ofG ⟨ws, fu⟩).n, (ofG ⟨ws, fu⟩).version, (ofG ⟨ws, fu⟩).commit, (ofG ⟨ws, fu⟩).abort, (ofG ⟨ws, fu⟩).ended⟩ : Vm.GState) = ofG ⟨ws, fu⟩ := rfl
  rw [e0]
  obtain ⟨k1, k2⟩ := keepG_sm (ofG ⟨ws, fu⟩)
  refine ⟨⟨hp, by simp only [len]; omega, k1⟩, ?_⟩
  obtain ⟨r', hr⟩ : ∃ r', appendF ⟨ws, fu⟩ r (keepG (ofG ⟨ws, fu⟩)) = r' := ⟨_, rfl⟩
  rw [hr] at hK ⊢
  refine ne_s (fun h => ?_) (fun h => ?_)
  · rw [if_neg h] at hK
    refine ne_s (fun h2 => ?_) (fun h2 => ?_)
    · rw [if_neg h2] at hK; exact hK
    · rw [if_pos h2] at hK
      refine eq_t h2 ?_
      rw [show eqi r'.2 0 = false from eqi_false.2 h]
      exact hK
  · rw [if_pos h] at hK
    refine eq_f (by omega) ?_
    rw [show eqi r'.2 0 = true from eqi_true.2 h]
    exact hK
theorem sound_gate_note : SoundC Tryd.prog tab n_gate_note c_gate_note := soundC_of ok_gate_note hf_gate_note hB_gate_note (by
  intro vs bs p v bs' h hp
  unfold c_gate_note at h
  split at h
  · cases h
    exact ⟨by kernel_rfl, rfl, .inl (run_gate_note _ _ _ _ _ _ _ _ _ _ hp.1 _ ⟨rfl, rfl⟩)⟩
  · cases h)

def c_gate_decision : Contract := fun vs bs => match vs, bs with
  | [.agg [.dat .int gn, .dat .int gv, .dat .bool gc, .dat .bool ga, .dat .bool ge], .one (.dat .int u), .one (.dat .int n)], [] => some (none, .agg [.dat .int (kindG ⟨gn, gv, gc, ga, ge⟩ n), .dat .int u, .dat .int n, .dat .int 0, .dat .int 0, .dat (.list .int) [], .dat .bool false], [])
  | _, _ => none
def Γ_gate_decision : Ctx := []
theorem ok_gate_decision : Ok Tryd.prog tab Γ_gate_decision := ok_nil
theorem gate_decision_vc (gn : Int) (gv : Int) (gc : Bool) (ga : Bool) (ge : Bool) (u : Int) (n : Int) (rec : List It → St → Prop) (K : V → List Blk → Prop) : segD Γ_gate_decision tab fn_gate_decision 0 K rec [.code (bodyOf fn_gate_decision)] (initSt [.agg [.dat Ty.int gn, .dat Ty.int gv, .dat Ty.bool gc, .dat Ty.bool ga, .dat Ty.bool ge], .one (.dat Ty.int u), .one (.dat Ty.int n)] []) = (
    br gc
     (br (eqi gn n)
       (K (.agg [.dat Ty.int (4 : Int), .dat Ty.int u, .dat Ty.int n, .dat Ty.int (0 : Int), .dat Ty.int (0 : Int), .dat (Ty.list Ty.int) [], .dat Ty.bool false]) [])
       (K (.agg [.dat Ty.int (5 : Int), .dat Ty.int u, .dat Ty.int n, .dat Ty.int (0 : Int), .dat Ty.int (0 : Int), .dat (Ty.list Ty.int) [], .dat Ty.bool false]) []))
     (K (.agg [.dat Ty.int (5 : Int), .dat Ty.int u, .dat Ty.int n, .dat Ty.int (0 : Int), .dat Ty.int (0 : Int), .dat (Ty.list Ty.int) [], .dat Ty.bool false]) [])) := by kernel_rfl
theorem gate_decision_w (gn : Int) (gv : Int) (gc : Bool) (ga : Bool) (ge : Bool) (u : Int) (n : Int) (m : Nat) (K : V → List Blk → Prop) : goD Γ_gate_decision tab fn_gate_decision 0 K (m + 1) [.code (bodyOf fn_gate_decision)] (initSt [.agg [.dat Ty.int gn, .dat Ty.int gv, .dat Ty.bool gc, .dat Ty.bool ga, .dat Ty.bool ge], .one (.dat Ty.int u), .one (.dat Ty.int n)] []) = segD Γ_gate_decision tab fn_gate_decision 0 K (goD Γ_gate_decision tab fn_gate_decision 0 K m) [.code (bodyOf fn_gate_decision)] (initSt [.agg [.dat Ty.int gn, .dat Ty.int gv, .dat Ty.bool gc, .dat Ty.bool ga, .dat Ty.bool ge], .one (.dat Ty.int u), .one (.dat Ty.int n)] []) := rfl

set_option maxHeartbeats 4000000 in
theorem run_gate_decision (gn gv : Int) (gc ga ge : Bool) (u n : Int) (K : V → List Blk → Prop) (hK : K (.agg [.dat .int (kindG ⟨gn, gv, gc, ga, ge⟩ n), .dat .int u, .dat .int n, .dat .int 0, .dat .int 0, .dat (.list .int) [], .dat .bool false]) []) : ∃ m, goD Γ_gate_decision tab fn_gate_decision 0 K m [.code (bodyOf fn_gate_decision)] (initSt [.agg [.dat .int gn, .dat .int gv, .dat .bool gc, .dat .bool ga, .dat .bool ge], .one (.dat .int u), .one (.dat .int n)] []) := by
  refine ⟨1, ?_⟩
  rw [gate_decision_w, gate_decision_vc _ _ _ _ _ _ _ _ _]
  unfold kindG at hK
  cases gc
  · rw [if_neg (by simp)] at hK
    exact br_f rfl hK
  · refine br_t rfl (eq_s (fun h => ?_) (fun h => ?_))
    · rw [if_pos ⟨rfl, h⟩] at hK; exact hK
    · rw [if_neg (fun q => h q.2)] at hK; exact hK
theorem sound_gate_decision : SoundC Tryd.prog tab n_gate_decision c_gate_decision := soundC_of ok_gate_decision hf_gate_decision hB_gate_decision (by
  intro vs bs p v bs' h hp
  unfold c_gate_decision at h
  split at h
  · cases h
    exact ⟨by kernel_rfl, rfl, .inl (run_gate_decision _ _ _ _ _ _ _ _ ⟨rfl, rfl⟩)⟩
  · cases h)

def c_gate_Hear : Contract := fun vs bs => match vs, bs with
  | [.agg [.dat (.list .int) ws, .dat .int fu, .dat .bool up, .dat .int tv, .dat (.list .int) tk, .dat .int tt, .dat .int tn, .dat (.list .bool) vo, .dat (.list .bool) di], .agg [.dat .int mk, .dat .int mu, .dat .int mn, .dat .int ma, .dat .int mi, .dat (.list .int) mw, .dat .bool my]], [] => some (none, .tup [.agg [.dat (.list .int) (hearG ⟨⟨ws, fu⟩, up, ⟨⟨tv, tk, tt⟩, tn⟩, vo, di⟩ ⟨mk, mu, mn, ma, mi, mw, my⟩).1.1.f.words, .dat .int (hearG ⟨⟨ws, fu⟩, up, ⟨⟨tv, tk, tt⟩, tn⟩, vo, di⟩ ⟨mk, mu, mn, ma, mi, mw, my⟩).1.1.f.fuel, .dat .bool (hearG ⟨⟨ws, fu⟩, up, ⟨⟨tv, tk, tt⟩, tn⟩, vo, di⟩ ⟨mk, mu, mn, ma, mi, mw, my⟩).1.1.up, .dat .int (hearG ⟨⟨ws, fu⟩, up, ⟨⟨tv, tk, tt⟩, tn⟩, vo, di⟩ ⟨mk, mu, mn, ma, mi, mw, my⟩).1.1.t.r.version, .dat (.list .int) (hearG ⟨⟨ws, fu⟩, up, ⟨⟨tv, tk, tt⟩, tn⟩, vo, di⟩ ⟨mk, mu, mn, ma, mi, mw, my⟩).1.1.t.r.keys, .dat .int (hearG ⟨⟨ws, fu⟩, up, ⟨⟨tv, tk, tt⟩, tn⟩, vo, di⟩ ⟨mk, mu, mn, ma, mi, mw, my⟩).1.1.t.r.thr, .dat .int (hearG ⟨⟨ws, fu⟩, up, ⟨⟨tv, tk, tt⟩, tn⟩, vo, di⟩ ⟨mk, mu, mn, ma, mi, mw, my⟩).1.1.t.version, .dat (.list .bool) (hearG ⟨⟨ws, fu⟩, up, ⟨⟨tv, tk, tt⟩, tn⟩, vo, di⟩ ⟨mk, mu, mn, ma, mi, mw, my⟩).1.1.voted, .dat (.list .bool) (hearG ⟨⟨ws, fu⟩, up, ⟨⟨tv, tk, tt⟩, tn⟩, vo, di⟩ ⟨mk, mu, mn, ma, mi, mw, my⟩).1.1.did], .one (.dat (.list .message) (hearG ⟨⟨ws, fu⟩, up, ⟨⟨tv, tk, tt⟩, tn⟩, vo, di⟩ ⟨mk, mu, mn, ma, mi, mw, my⟩).1.2), .one (.dat .int (hearG ⟨⟨ws, fu⟩, up, ⟨⟨tv, tk, tt⟩, tn⟩, vo, di⟩ ⟨mk, mu, mn, ma, mi, mw, my⟩).2)], [])
  | _, _ => none
def Γ_gate_Hear : Ctx := [(n_gate_Check, c_gate_Check), (n_gate_Copy, c_gate_Copy), (n_gate_of_o, c_gate_of_o), (n_slices_Contains_Lbool_o, c_slices_Contains_Lbool_o), (n_gate_note, c_gate_note), (n_gate_decision, c_gate_decision)]
theorem ok_gate_Hear : Ok Tryd.prog tab Γ_gate_Hear := ((((((ok_nil.consC hf_gate_decision hB_gate_decision sound_gate_decision).consC hf_gate_note hB_gate_note sound_gate_note).consC hf_slices_Contains_Lbool_o hB_slices_Contains_Lbool_o sound_slices_Contains_Lbool_o).consC hf_gate_of_o hB_gate_of_o sound_gate_of_o).consC hf_gate_Copy hB_gate_Copy sound_gate_Copy).consC hf_gate_Check hB_gate_Check sound_gate_Check)
theorem gate_Hear_vc (ws : List Int) (fu : Int) (up : Bool) (tv : Int) (tk : List Int) (tt : Int) (tn : Int) (vo : List Bool) (di : List Bool) (mk : Int) (mu : Int) (mn : Int) (ma : Int) (mi : Int) (mw : List Int) (my : Bool) (rec : List It → St → Prop) (K : V → List Blk → Prop) v0 (hv0 : v0 = (checkG (⟨(⟨ws, fu⟩ : Vm.Flash), up, (⟨(⟨tv, tk, tt⟩ : Vm.Root), tn⟩ : Vm.Trust), vo, di⟩ : Vm.Gate))) v1 (hv1 : v1 = (ofG (⟨ws, fu⟩ : Vm.Flash))) v2 (hv2 : v2 = (hasB false (setAt di (Int.toNat mu) true))) v3 (hv3 : v3 = (noteG (⟨(⟨ws, fu⟩ : Vm.Flash), up, (⟨(⟨tv, tk, tt⟩ : Vm.Root), tn⟩ : Vm.Trust), vo, (setAt di (Int.toNat mu) true)⟩ : Vm.Gate) ((4 : Int) :: ((v1).n :: [])))) v4 (hv4 : v4 = (kindG (⟨(v1).n, (v1).version, (v1).commit, (v1).abort, (v1).ended⟩ : Vm.GState) mn)) v5 (hv5 : v5 = (hasB false (setAt vo (Int.toNat mu) true))) v6 (hv6 : v6 = (noteG (⟨(⟨ws, fu⟩ : Vm.Flash), up, (⟨(⟨tv, tk, tt⟩ : Vm.Root), tn⟩ : Vm.Trust), (setAt vo (Int.toNat mu) true), di⟩ : Vm.Gate) ((2 : Int) :: ((v1).n :: [])))) : segD Γ_gate_Hear tab fn_gate_Hear 0 K rec [.code (bodyOf fn_gate_Hear)] (initSt [.agg [.dat (Ty.list Ty.int) ws, .dat Ty.int fu, .dat Ty.bool up, .dat Ty.int tv, .dat (Ty.list Ty.int) tk, .dat Ty.int tt, .dat Ty.int tn, .dat (Ty.list Ty.bool) vo, .dat (Ty.list Ty.bool) di], .agg [.dat Ty.int mk, .dat Ty.int mu, .dat Ty.int mn, .dat Ty.int ma, .dat Ty.int mi, .dat (Ty.list Ty.int) mw, .dat Ty.bool my]] []) = (
    br (!(eqi v0 (0 : Int)))
     (K (.tup [.agg [.dat (Ty.list Ty.int) [], .dat Ty.int (0 : Int), .dat Ty.bool false, .dat Ty.int (0 : Int), .dat (Ty.list Ty.int) [], .dat Ty.int (0 : Int), .dat Ty.int (0 : Int), .dat (Ty.list Ty.bool) [], .dat (Ty.list Ty.bool) []], .one (.dat (Ty.list Ty.message) []), .one (.dat Ty.int v0)]) [])
     (br (lti mu (0 : Int))
       (K (.tup [.agg [.dat (Ty.list Ty.int) [], .dat Ty.int (0 : Int), .dat Ty.bool false, .dat Ty.int (0 : Int), .dat (Ty.list Ty.int) [], .dat Ty.int (0 : Int), .dat Ty.int (0 : Int), .dat (Ty.list Ty.bool) [], .dat (Ty.list Ty.bool) []], .one (.dat (Ty.list Ty.message) []), .one (.dat Ty.int (3 : Int))]) [])
       (br (lei (((len vo) : Nat) : Int) mu)
         (K (.tup [.agg [.dat (Ty.list Ty.int) [], .dat Ty.int (0 : Int), .dat Ty.bool false, .dat Ty.int (0 : Int), .dat (Ty.list Ty.int) [], .dat Ty.int (0 : Int), .dat Ty.int (0 : Int), .dat (Ty.list Ty.bool) [], .dat (Ty.list Ty.bool) []], .one (.dat (Ty.list Ty.message) []), .one (.dat Ty.int (3 : Int))]) [])
         (br (lti mn (1 : Int))
           (K (.tup [.agg [.dat (Ty.list Ty.int) [], .dat Ty.int (0 : Int), .dat Ty.bool false, .dat Ty.int (0 : Int), .dat (Ty.list Ty.int) [], .dat Ty.int (0 : Int), .dat Ty.int (0 : Int), .dat (Ty.list Ty.bool) [], .dat (Ty.list Ty.bool) []], .one (.dat (Ty.list Ty.message) []), .one (.dat Ty.int (3 : Int))]) [])
           (br (lti (8 : Int) mn)
             (K (.tup [.agg [.dat (Ty.list Ty.int) [], .dat Ty.int (0 : Int), .dat Ty.bool false, .dat Ty.int (0 : Int), .dat (Ty.list Ty.int) [], .dat Ty.int (0 : Int), .dat Ty.int (0 : Int), .dat (Ty.list Ty.bool) [], .dat (Ty.list Ty.bool) []], .one (.dat (Ty.list Ty.message) []), .one (.dat Ty.int (3 : Int))]) [])
             (((((len ws) * 8) ≤ 140737488355328) ∧ ((((len tk) * 8) ≤ 140737488355328) ∧ (((len vo) ≤ 1000) ∧ ((len di) ≤ 1000)))) ∧
              (br (!up)
               (K (.tup [.agg [.dat (Ty.list Ty.int) ws, .dat Ty.int fu, .dat Ty.bool up, .dat Ty.int tv, .dat (Ty.list Ty.int) tk, .dat Ty.int tt, .dat Ty.int tn, .dat (Ty.list Ty.bool) vo, .dat (Ty.list Ty.bool) di], .one (.dat (Ty.list Ty.message) []), .one (.dat Ty.int (0 : Int))]) [])
               (br (eqi (v1).n mn)
                 (br (v1).commit
                   (br (eqi mk (3 : Int))
                     (br (!(!(v1).ended))
                       (K (.tup [.agg [.dat (Ty.list Ty.int) ws, .dat Ty.int fu, .dat Ty.bool up, .dat Ty.int tv, .dat (Ty.list Ty.int) tk, .dat Ty.int tt, .dat Ty.int tn, .dat (Ty.list Ty.bool) vo, .dat (Ty.list Ty.bool) di], .one (.dat (Ty.list Ty.message) []), .one (.dat Ty.int (0 : Int))]) [])
                       (K (.tup [.agg [.dat (Ty.list Ty.int) ws, .dat Ty.int fu, .dat Ty.bool up, .dat Ty.int tv, .dat (Ty.list Ty.int) tk, .dat Ty.int tt, .dat Ty.int tn, .dat (Ty.list Ty.bool) vo, .dat (Ty.list Ty.bool) di], .one (.dat (Ty.list Ty.message) []), .one (.dat Ty.int (0 : Int))]) []))
                     (br (eqi mk (6 : Int))
                       (br (!(!(v1).ended))
                         (K (.tup [.agg [.dat (Ty.list Ty.int) ws, .dat Ty.int fu, .dat Ty.bool up, .dat Ty.int tv, .dat (Ty.list Ty.int) tk, .dat Ty.int tt, .dat Ty.int tn, .dat (Ty.list Ty.bool) vo, .dat (Ty.list Ty.bool) di], .one (.dat (Ty.list Ty.message) []), .one (.dat Ty.int (0 : Int))]) [])
                         ((((0 : Int) ≤ mu) ∧ (mu < (((len di) : Nat) : Int))) ∧
                          (((Int.toNat mu) < (len di)) ∧
                          (((len (setAt di (Int.toNat mu) true)) ≤ 1000) ∧
                          (br (!v2)
                           (((List.length ((4 : Int) :: ((v1).n :: []))) ≤ 140737488355328) ∧
                            (K (.tup [.agg [.dat (Ty.list Ty.int) (((v3).fst).f).words, .dat Ty.int (((v3).fst).f).fuel, .dat Ty.bool ((v3).fst).up, .dat Ty.int ((((v3).fst).t).r).version, .dat (Ty.list Ty.int) ((((v3).fst).t).r).keys, .dat Ty.int ((((v3).fst).t).r).thr, .dat Ty.int (((v3).fst).t).version, .dat (Ty.list Ty.bool) ((v3).fst).voted, .dat (Ty.list Ty.bool) ((v3).fst).did], .one (.dat (Ty.list Ty.message) []), .one (.dat Ty.int (0 : Int))]) []))
                           (K (.tup [.agg [.dat (Ty.list Ty.int) ws, .dat Ty.int fu, .dat Ty.bool up, .dat Ty.int tv, .dat (Ty.list Ty.int) tk, .dat Ty.int tt, .dat Ty.int tn, .dat (Ty.list Ty.bool) vo, .dat (Ty.list Ty.bool) (setAt di (Int.toNat mu) true)], .one (.dat (Ty.list Ty.message) []), .one (.dat Ty.int (0 : Int))]) []))))))
                       (br (eqi mk (7 : Int))
                         (br (!(!(v1).ended))
                           (K (.tup [.agg [.dat (Ty.list Ty.int) ws, .dat Ty.int fu, .dat Ty.bool up, .dat Ty.int tv, .dat (Ty.list Ty.int) tk, .dat Ty.int tt, .dat Ty.int tn, .dat (Ty.list Ty.bool) vo, .dat (Ty.list Ty.bool) di], .one (.dat (Ty.list Ty.message) ((⟨v4, mu, mn, (0 : Int), (0 : Int), [], false⟩ : Vm.Message) :: [])), .one (.dat Ty.int (0 : Int))]) [])
                           (K (.tup [.agg [.dat (Ty.list Ty.int) ws, .dat Ty.int fu, .dat Ty.bool up, .dat Ty.int tv, .dat (Ty.list Ty.int) tk, .dat Ty.int tt, .dat Ty.int tn, .dat (Ty.list Ty.bool) vo, .dat (Ty.list Ty.bool) di], .one (.dat (Ty.list Ty.message) ((⟨v4, mu, mn, (0 : Int), (0 : Int), [], false⟩ : Vm.Message) :: [])), .one (.dat Ty.int (0 : Int))]) []))
                         (K (.tup [.agg [.dat (Ty.list Ty.int) ws, .dat Ty.int fu, .dat Ty.bool up, .dat Ty.int tv, .dat (Ty.list Ty.int) tk, .dat Ty.int tt, .dat Ty.int tn, .dat (Ty.list Ty.bool) vo, .dat (Ty.list Ty.bool) di], .one (.dat (Ty.list Ty.message) []), .one (.dat Ty.int (0 : Int))]) []))))
                   (br (eqi mk (3 : Int))
                     (br (!(!(v1).ended))
                       (K (.tup [.agg [.dat (Ty.list Ty.int) ws, .dat Ty.int fu, .dat Ty.bool up, .dat Ty.int tv, .dat (Ty.list Ty.int) tk, .dat Ty.int tt, .dat Ty.int tn, .dat (Ty.list Ty.bool) vo, .dat (Ty.list Ty.bool) di], .one (.dat (Ty.list Ty.message) []), .one (.dat Ty.int (0 : Int))]) [])
                       (br (v1).abort
                         (K (.tup [.agg [.dat (Ty.list Ty.int) ws, .dat Ty.int fu, .dat Ty.bool up, .dat Ty.int tv, .dat (Ty.list Ty.int) tk, .dat Ty.int tt, .dat Ty.int tn, .dat (Ty.list Ty.bool) vo, .dat (Ty.list Ty.bool) di], .one (.dat (Ty.list Ty.message) []), .one (.dat Ty.int (0 : Int))]) [])
                         (br (!my)
                           (K (.tup [.agg [.dat (Ty.list Ty.int) ws, .dat Ty.int fu, .dat Ty.bool up, .dat Ty.int tv, .dat (Ty.list Ty.int) tk, .dat Ty.int tt, .dat Ty.int tn, .dat (Ty.list Ty.bool) vo, .dat (Ty.list Ty.bool) di], .one (.dat (Ty.list Ty.message) []), .one (.dat Ty.int (0 : Int))]) [])
                           ((((0 : Int) ≤ mu) ∧ (mu < (((len vo) : Nat) : Int))) ∧
                            (((Int.toNat mu) < (len vo)) ∧
                            (((len (setAt vo (Int.toNat mu) true)) ≤ 1000) ∧
                            (br (!v5)
                             (((List.length ((2 : Int) :: ((v1).n :: []))) ≤ 140737488355328) ∧
                              (K (.tup [.agg [.dat (Ty.list Ty.int) (((v6).fst).f).words, .dat Ty.int (((v6).fst).f).fuel, .dat Ty.bool ((v6).fst).up, .dat Ty.int ((((v6).fst).t).r).version, .dat (Ty.list Ty.int) ((((v6).fst).t).r).keys, .dat Ty.int ((((v6).fst).t).r).thr, .dat Ty.int (((v6).fst).t).version, .dat (Ty.list Ty.bool) ((v6).fst).voted, .dat (Ty.list Ty.bool) ((v6).fst).did], .one (.dat (Ty.list Ty.message) []), .one (.dat Ty.int (0 : Int))]) []))
                             (K (.tup [.agg [.dat (Ty.list Ty.int) ws, .dat Ty.int fu, .dat Ty.bool up, .dat Ty.int tv, .dat (Ty.list Ty.int) tk, .dat Ty.int tt, .dat Ty.int tn, .dat (Ty.list Ty.bool) (setAt vo (Int.toNat mu) true), .dat (Ty.list Ty.bool) di], .one (.dat (Ty.list Ty.message) []), .one (.dat Ty.int (0 : Int))]) []))))))))
                     (br (eqi mk (6 : Int))
                       (br (!(!(v1).ended))
                         (K (.tup [.agg [.dat (Ty.list Ty.int) ws, .dat Ty.int fu, .dat Ty.bool up, .dat Ty.int tv, .dat (Ty.list Ty.int) tk, .dat Ty.int tt, .dat Ty.int tn, .dat (Ty.list Ty.bool) vo, .dat (Ty.list Ty.bool) di], .one (.dat (Ty.list Ty.message) []), .one (.dat Ty.int (0 : Int))]) [])
                         (br (!(v1).abort)
                           (K (.tup [.agg [.dat (Ty.list Ty.int) ws, .dat Ty.int fu, .dat Ty.bool up, .dat Ty.int tv, .dat (Ty.list Ty.int) tk, .dat Ty.int tt, .dat Ty.int tn, .dat (Ty.list Ty.bool) vo, .dat (Ty.list Ty.bool) di], .one (.dat (Ty.list Ty.message) []), .one (.dat Ty.int (0 : Int))]) [])
                           ((((0 : Int) ≤ mu) ∧ (mu < (((len di) : Nat) : Int))) ∧
                            (((Int.toNat mu) < (len di)) ∧
                            (((len (setAt di (Int.toNat mu) true)) ≤ 1000) ∧
                            (br (!v2)
                             (((List.length ((4 : Int) :: ((v1).n :: []))) ≤ 140737488355328) ∧
                              (K (.tup [.agg [.dat (Ty.list Ty.int) (((v3).fst).f).words, .dat Ty.int (((v3).fst).f).fuel, .dat Ty.bool ((v3).fst).up, .dat Ty.int ((((v3).fst).t).r).version, .dat (Ty.list Ty.int) ((((v3).fst).t).r).keys, .dat Ty.int ((((v3).fst).t).r).thr, .dat Ty.int (((v3).fst).t).version, .dat (Ty.list Ty.bool) ((v3).fst).voted, .dat (Ty.list Ty.bool) ((v3).fst).did], .one (.dat (Ty.list Ty.message) []), .one (.dat Ty.int (0 : Int))]) []))
                             (K (.tup [.agg [.dat (Ty.list Ty.int) ws, .dat Ty.int fu, .dat Ty.bool up, .dat Ty.int tv, .dat (Ty.list Ty.int) tk, .dat Ty.int tt, .dat Ty.int tn, .dat (Ty.list Ty.bool) vo, .dat (Ty.list Ty.bool) (setAt di (Int.toNat mu) true)], .one (.dat (Ty.list Ty.message) []), .one (.dat Ty.int (0 : Int))]) [])))))))
                       (br (eqi mk (7 : Int))
                         (br (!(!(v1).ended))
                           (K (.tup [.agg [.dat (Ty.list Ty.int) ws, .dat Ty.int fu, .dat Ty.bool up, .dat Ty.int tv, .dat (Ty.list Ty.int) tk, .dat Ty.int tt, .dat Ty.int tn, .dat (Ty.list Ty.bool) vo, .dat (Ty.list Ty.bool) di], .one (.dat (Ty.list Ty.message) ((⟨v4, mu, mn, (0 : Int), (0 : Int), [], false⟩ : Vm.Message) :: [])), .one (.dat Ty.int (0 : Int))]) [])
                           (br (v1).abort
                             (K (.tup [.agg [.dat (Ty.list Ty.int) ws, .dat Ty.int fu, .dat Ty.bool up, .dat Ty.int tv, .dat (Ty.list Ty.int) tk, .dat Ty.int tt, .dat Ty.int tn, .dat (Ty.list Ty.bool) vo, .dat (Ty.list Ty.bool) di], .one (.dat (Ty.list Ty.message) ((⟨v4, mu, mn, (0 : Int), (0 : Int), [], false⟩ : Vm.Message) :: [])), .one (.dat Ty.int (0 : Int))]) [])
                             (K (.tup [.agg [.dat (Ty.list Ty.int) ws, .dat Ty.int fu, .dat Ty.bool up, .dat Ty.int tv, .dat (Ty.list Ty.int) tk, .dat Ty.int tt, .dat Ty.int tn, .dat (Ty.list Ty.bool) vo, .dat (Ty.list Ty.bool) di], .one (.dat (Ty.list Ty.message) []), .one (.dat Ty.int (0 : Int))]) [])))
                         (K (.tup [.agg [.dat (Ty.list Ty.int) ws, .dat Ty.int fu, .dat Ty.bool up, .dat Ty.int tv, .dat (Ty.list Ty.int) tk, .dat Ty.int tt, .dat Ty.int tn, .dat (Ty.list Ty.bool) vo, .dat (Ty.list Ty.bool) di], .one (.dat (Ty.list Ty.message) []), .one (.dat Ty.int (0 : Int))]) [])))))
                 (br (v1).commit
                   (br (eqi mk (3 : Int))
                     (K (.tup [.agg [.dat (Ty.list Ty.int) ws, .dat Ty.int fu, .dat Ty.bool up, .dat Ty.int tv, .dat (Ty.list Ty.int) tk, .dat Ty.int tt, .dat Ty.int tn, .dat (Ty.list Ty.bool) vo, .dat (Ty.list Ty.bool) di], .one (.dat (Ty.list Ty.message) []), .one (.dat Ty.int (0 : Int))]) [])
                     (br (eqi mk (6 : Int))
                       (K (.tup [.agg [.dat (Ty.list Ty.int) ws, .dat Ty.int fu, .dat Ty.bool up, .dat Ty.int tv, .dat (Ty.list Ty.int) tk, .dat Ty.int tt, .dat Ty.int tn, .dat (Ty.list Ty.bool) vo, .dat (Ty.list Ty.bool) di], .one (.dat (Ty.list Ty.message) []), .one (.dat Ty.int (0 : Int))]) [])
                       (br (eqi mk (7 : Int))
                         (K (.tup [.agg [.dat (Ty.list Ty.int) ws, .dat Ty.int fu, .dat Ty.bool up, .dat Ty.int tv, .dat (Ty.list Ty.int) tk, .dat Ty.int tt, .dat Ty.int tn, .dat (Ty.list Ty.bool) vo, .dat (Ty.list Ty.bool) di], .one (.dat (Ty.list Ty.message) ((⟨v4, mu, mn, (0 : Int), (0 : Int), [], false⟩ : Vm.Message) :: [])), .one (.dat Ty.int (0 : Int))]) [])
                         (K (.tup [.agg [.dat (Ty.list Ty.int) ws, .dat Ty.int fu, .dat Ty.bool up, .dat Ty.int tv, .dat (Ty.list Ty.int) tk, .dat Ty.int tt, .dat Ty.int tn, .dat (Ty.list Ty.bool) vo, .dat (Ty.list Ty.bool) di], .one (.dat (Ty.list Ty.message) []), .one (.dat Ty.int (0 : Int))]) []))))
                   (br (eqi mk (3 : Int))
                     (K (.tup [.agg [.dat (Ty.list Ty.int) ws, .dat Ty.int fu, .dat Ty.bool up, .dat Ty.int tv, .dat (Ty.list Ty.int) tk, .dat Ty.int tt, .dat Ty.int tn, .dat (Ty.list Ty.bool) vo, .dat (Ty.list Ty.bool) di], .one (.dat (Ty.list Ty.message) []), .one (.dat Ty.int (0 : Int))]) [])
                     (br (eqi mk (6 : Int))
                       (K (.tup [.agg [.dat (Ty.list Ty.int) ws, .dat Ty.int fu, .dat Ty.bool up, .dat Ty.int tv, .dat (Ty.list Ty.int) tk, .dat Ty.int tt, .dat Ty.int tn, .dat (Ty.list Ty.bool) vo, .dat (Ty.list Ty.bool) di], .one (.dat (Ty.list Ty.message) []), .one (.dat Ty.int (0 : Int))]) [])
                       (br (eqi mk (7 : Int))
                         (K (.tup [.agg [.dat (Ty.list Ty.int) ws, .dat Ty.int fu, .dat Ty.bool up, .dat Ty.int tv, .dat (Ty.list Ty.int) tk, .dat Ty.int tt, .dat Ty.int tn, .dat (Ty.list Ty.bool) vo, .dat (Ty.list Ty.bool) di], .one (.dat (Ty.list Ty.message) ((⟨v4, mu, mn, (0 : Int), (0 : Int), [], false⟩ : Vm.Message) :: [])), .one (.dat Ty.int (0 : Int))]) [])
                         (K (.tup [.agg [.dat (Ty.list Ty.int) ws, .dat Ty.int fu, .dat Ty.bool up, .dat Ty.int tv, .dat (Ty.list Ty.int) tk, .dat Ty.int tt, .dat Ty.int tn, .dat (Ty.list Ty.bool) vo, .dat (Ty.list Ty.bool) di], .one (.dat (Ty.list Ty.message) []), .one (.dat Ty.int (0 : Int))]) []))))))))))))) := by subst hv6; subst hv5; subst hv4; subst hv3; subst hv2; subst hv1; subst hv0; kernel_rfl
theorem gate_Hear_w (ws : List Int) (fu : Int) (up : Bool) (tv : Int) (tk : List Int) (tt : Int) (tn : Int) (vo : List Bool) (di : List Bool) (mk : Int) (mu : Int) (mn : Int) (ma : Int) (mi : Int) (mw : List Int) (my : Bool) (m : Nat) (K : V → List Blk → Prop) : goD Γ_gate_Hear tab fn_gate_Hear 0 K (m + 1) [.code (bodyOf fn_gate_Hear)] (initSt [.agg [.dat (Ty.list Ty.int) ws, .dat Ty.int fu, .dat Ty.bool up, .dat Ty.int tv, .dat (Ty.list Ty.int) tk, .dat Ty.int tt, .dat Ty.int tn, .dat (Ty.list Ty.bool) vo, .dat (Ty.list Ty.bool) di], .agg [.dat Ty.int mk, .dat Ty.int mu, .dat Ty.int mn, .dat Ty.int ma, .dat Ty.int mi, .dat (Ty.list Ty.int) mw, .dat Ty.bool my]] []) = segD Γ_gate_Hear tab fn_gate_Hear 0 K (goD Γ_gate_Hear tab fn_gate_Hear 0 K m) [.code (bodyOf fn_gate_Hear)] (initSt [.agg [.dat (Ty.list Ty.int) ws, .dat Ty.int fu, .dat Ty.bool up, .dat Ty.int tv, .dat (Ty.list Ty.int) tk, .dat Ty.int tt, .dat Ty.int tn, .dat (Ty.list Ty.bool) vo, .dat (Ty.list Ty.bool) di], .agg [.dat Ty.int mk, .dat Ty.int mu, .dat Ty.int mn, .dat Ty.int ma, .dat Ty.int mi, .dat (Ty.list Ty.int) mw, .dat Ty.bool my]] []) := rfl

set_option maxHeartbeats 4000000 in
theorem run_gate_Hear (ws : List Int) (fu : Int) (up : Bool) (tv : Int) (tk : List Int) (tt tn : Int) (vo di : List Bool)(mk mu mn ma mi : Int) (mw : List Int) (my : Bool) (K : V → List Blk → Prop) (hK : K (.tup [.agg [.dat (.list .int) (hearG ⟨⟨ws, fu⟩, up, ⟨⟨tv, tk, tt⟩, tn⟩, vo, di⟩ ⟨mk, mu, mn, ma, mi, mw, my⟩).1.1.f.words, .dat .int (hearG ⟨⟨ws, fu⟩, up, ⟨⟨tv, tk, tt⟩, tn⟩, vo, di⟩ ⟨mk, mu, mn, ma, mi, mw, my⟩).1.1.f.fuel, .dat .bool (hearG ⟨⟨ws, fu⟩, up, ⟨⟨tv, tk, tt⟩, tn⟩, vo, di⟩ ⟨mk, mu, mn, ma, mi, mw, my⟩).1.1.up, .dat .int (hearG ⟨⟨ws, fu⟩, up, ⟨⟨tv, tk, tt⟩, tn⟩, vo, di⟩ ⟨mk, mu, mn, ma, mi, mw, my⟩).1.1.t.r.version, .dat (.list .int) (hearG ⟨⟨ws, fu⟩, up, ⟨⟨tv, tk, tt⟩, tn⟩, vo, di⟩ ⟨mk, mu, mn, ma, mi, mw, my⟩).1.1.t.r.keys, .dat .int (hearG ⟨⟨ws, fu⟩, up, ⟨⟨tv, tk, tt⟩, tn⟩, vo, di⟩ ⟨mk, mu, mn, ma, mi, mw, my⟩).1.1.t.r.thr, .dat .int (hearG ⟨⟨ws, fu⟩, up, ⟨⟨tv, tk, tt⟩, tn⟩, vo, di⟩ ⟨mk, mu, mn, ma, mi, mw, my⟩).1.1.t.version, .dat (.list .bool) (hearG ⟨⟨ws, fu⟩, up, ⟨⟨tv, tk, tt⟩, tn⟩, vo, di⟩ ⟨mk, mu, mn, ma, mi, mw, my⟩).1.1.voted, .dat (.list .bool) (hearG ⟨⟨ws, fu⟩, up, ⟨⟨tv, tk, tt⟩, tn⟩, vo, di⟩ ⟨mk, mu, mn, ma, mi, mw, my⟩).1.1.did], .one (.dat (.list .message) (hearG ⟨⟨ws, fu⟩, up, ⟨⟨tv, tk, tt⟩, tn⟩, vo, di⟩ ⟨mk, mu, mn, ma, mi, mw, my⟩).1.2), .one (.dat .int (hearG ⟨⟨ws, fu⟩, up, ⟨⟨tv, tk, tt⟩, tn⟩, vo, di⟩ ⟨mk, mu, mn, ma, mi, mw, my⟩).2)]) []) : ∃ m, goD Γ_gate_Hear tab fn_gate_Hear 0 K m [.code (bodyOf fn_gate_Hear)] (initSt [.agg [.dat (.list .int) ws, .dat .int fu, .dat .bool up, .dat .int tv, .dat (.list .int) tk, .dat .int tt, .dat .int tn, .dat (.list .bool) vo, .dat (.list .bool) di], .agg [.dat .int mk, .dat .int mu, .dat .int mn, .dat .int ma, .dat .int mi, .dat (.list .int) mw, .dat .bool my]] []) := by
  refine ⟨1, ?_⟩
  rw [gate_Hear_w, gate_Hear_vc _ _ _ _ _ _ _ _ _ _ _ _ _ _ _ _ _ _ _ rfl _ rfl _ rfl _ rfl _ rfl _ rfl _ rfl]
  refine ne_s (fun h => ?_) (fun h => ?_)
  · rw [show hearG ⟨⟨ws, fu⟩, up, ⟨⟨tv, tk, tt⟩, tn⟩, vo, di⟩ ⟨mk, mu, mn, ma, mi, mw, my⟩ = ((noGate, []), checkG ⟨⟨ws, fu⟩, up, ⟨⟨tv, tk, tt⟩, tn⟩, vo, di⟩) from by unfold hearG hearGE; rw [if_neg h, if_neg h]] at hK
    exact hK
  have lv : ((len vo : Nat) : Int) = (vo.length : Int) := rfl
  have ld : ((len di : Nat) : Int) = (di.length : Int) := rfl
  rw [lv, ld]
  by_cases c : mu < 0 ∨ (vo.length : Int) ≤ mu ∨ mn < 1 ∨ 8 < mn
  · rw [show hearG ⟨⟨ws, fu⟩, up, ⟨⟨tv, tk, tt⟩, tn⟩, vo, di⟩ ⟨mk, mu, mn, ma, mi, mw, my⟩ = ((noGate, []), 3) from by
      have e : hearGE ⟨⟨ws, fu⟩, up, ⟨⟨tv, tk, tt⟩, tn⟩, vo, di⟩ ⟨mk, mu, mn, ma, mi, mw, my⟩ = 3 := by unfold hearGE; rw [if_pos h, if_pos (by exact c)]
      unfold hearG; rw [e, if_neg (by decide)]] at hK
    exact lt_s (fun _ => hK) (fun _ => br_split (fun _ => hK) (fun h2 => lt_s (fun _ => hK) (fun _ => lt_t (by rw [lei_false] at h2; omega) hK)))
  obtain ⟨s1, s2, s3, s4⟩ := checkG_sm h
  obtain ⟨_, v1, v2, v3, _⟩ := checkG_ok h
  simp only at v1 v2 v3
  refine lt_f (by omega) (br_f (lei_false.2 (by omega)) (lt_f (by omega) (lt_f (by omega) ⟨⟨s1, s2, s3, s4⟩, ?_⟩)))
  rw [hearG_mk h (by simp only; omega)] at hK
  have lsv : len (setAt vo (Int.toNat mu) true) ≤ 1000 := by simp only [len, setAt_len]; omega
  have lsd : len (setAt di (Int.toNat mu) true) ≤ 1000 := by simp only [len, setAt_len]; omega
  have lnv : Int.toNat mu < len vo := by simp only [len]; omega
  have lnd : Int.toNat mu < len di := by simp only [len]; omega
  unfold hearsG at hK
  cases up
  · rw [if_neg (by simp)] at hK
    exact nt_t rfl hK
  rw [if_pos rfl] at hK
  refine nt_f rfl ?_
  obtain ⟨s, hs⟩ : ∃ s, ofG ⟨ws, fu⟩ = s := ⟨_, rfl⟩
  simp only [hs] at hK ⊢
  rw [show (⟨s.n, s.version, s.commit, s.abort, s.ended⟩ : Vm.GState) = s from rfl]
  obtain ⟨g, hg⟩ : ∃ g : Vm.Gate, (⟨⟨ws, fu⟩, true, ⟨⟨tv, tk, tt⟩, tn⟩, vo, di⟩ : Vm.Gate) = g := ⟨_, rfl⟩
  have hKa : hearsS g s ⟨mk, mu, mn, ma, mi, mw, my⟩ = (g, []) → K (.tup [.agg [.dat (Ty.list Ty.int) ws, .dat Ty.int fu, .dat Ty.bool true, .dat Ty.int tv, .dat (Ty.list Ty.int) tk, .dat Ty.int tt, .dat Ty.int tn, .dat (Ty.list Ty.bool) vo, .dat (Ty.list Ty.bool) di], .one (.dat (Ty.list Ty.message) []), .one (.dat Ty.int (0 : Int))]) [] := fun e => by rw [hg, e, ← hg] at hK; exact hK
  have hKb : hearsS g s ⟨mk, mu, mn, ma, mi, mw, my⟩ = (g, [decisionM s mu mn]) → K (.tup [.agg [.dat (Ty.list Ty.int) ws, .dat Ty.int fu, .dat Ty.bool true, .dat Ty.int tv, .dat (Ty.list Ty.int) tk, .dat Ty.int tt, .dat Ty.int tn, .dat (Ty.list Ty.bool) vo, .dat (Ty.list Ty.bool) di], .one (.dat (Ty.list Ty.message) [⟨kindG s mn, mu, mn, 0, 0, [], false⟩]), .one (.dat Ty.int (0 : Int))]) [] := fun e => by rw [hg, e, ← hg] at hK; exact hK
  have hKc : hearsS g s ⟨mk, mu, mn, ma, mi, mw, my⟩ = (votedG g mu, []) → K (.tup [.agg [.dat (Ty.list Ty.int) ws, .dat Ty.int fu, .dat Ty.bool true, .dat Ty.int tv, .dat (Ty.list Ty.int) tk, .dat Ty.int tt, .dat Ty.int tn, .dat (Ty.list Ty.bool) (setAt vo (Int.toNat mu) true), .dat (Ty.list Ty.bool) di], .one (.dat (Ty.list Ty.message) []), .one (.dat Ty.int (0 : Int))]) [] := fun e => by rw [hg, e, ← hg] at hK; exact hK
  have hKe : hearsS g s ⟨mk, mu, mn, ma, mi, mw, my⟩ = (didG g mu, []) → K (.tup [.agg [.dat (Ty.list Ty.int) ws, .dat Ty.int fu, .dat Ty.bool true, .dat Ty.int tv, .dat (Ty.list Ty.int) tk, .dat Ty.int tt, .dat Ty.int tn, .dat (Ty.list Ty.bool) vo, .dat (Ty.list Ty.bool) (setAt di (Int.toNat mu) true)], .one (.dat (Ty.list Ty.message) []), .one (.dat Ty.int (0 : Int))]) [] := fun e => by rw [hg, e, ← hg] at hK; exact hK
  have hKd : hearsS g s ⟨mk, mu, mn, ma, mi, mw, my⟩ = ((noteG (votedG g mu) [2, s.n]).1, []) → K (.tup [.agg [.dat (Ty.list Ty.int) (noteG ⟨⟨ws, fu⟩, true, ⟨⟨tv, tk, tt⟩, tn⟩, setAt vo (Int.toNat mu) true, di⟩ [2, s.n]).1.f.words, .dat Ty.int (noteG ⟨⟨ws, fu⟩, true, ⟨⟨tv, tk, tt⟩, tn⟩, setAt vo (Int.toNat mu) true, di⟩ [2, s.n]).1.f.fuel, .dat Ty.bool (noteG ⟨⟨ws, fu⟩, true, ⟨⟨tv, tk, tt⟩, tn⟩, setAt vo (Int.toNat mu) true, di⟩ [2, s.n]).1.up, .dat Ty.int (noteG ⟨⟨ws, fu⟩, true, ⟨⟨tv, tk, tt⟩, tn⟩, setAt vo (Int.toNat mu) true, di⟩ [2, s.n]).1.t.r.version, .dat (Ty.list Ty.int) (noteG ⟨⟨ws, fu⟩, true, ⟨⟨tv, tk, tt⟩, tn⟩, setAt vo (Int.toNat mu) true, di⟩ [2, s.n]).1.t.r.keys, .dat Ty.int (noteG ⟨⟨ws, fu⟩, true, ⟨⟨tv, tk, tt⟩, tn⟩, setAt vo (Int.toNat mu) true, di⟩ [2, s.n]).1.t.r.thr, .dat Ty.int (noteG ⟨⟨ws, fu⟩, true, ⟨⟨tv, tk, tt⟩, tn⟩, setAt vo (Int.toNat mu) true, di⟩ [2, s.n]).1.t.version, .dat (Ty.list Ty.bool) (noteG ⟨⟨ws, fu⟩, true, ⟨⟨tv, tk, tt⟩, tn⟩, setAt vo (Int.toNat mu) true, di⟩ [2, s.n]).1.voted, .dat (Ty.list Ty.bool) (noteG ⟨⟨ws, fu⟩, true, ⟨⟨tv, tk, tt⟩, tn⟩, setAt vo (Int.toNat mu) true, di⟩ [2, s.n]).1.did], .one (.dat (Ty.list Ty.message) []), .one (.dat Ty.int (0 : Int))]) [] := fun e => by rw [hg, e, ← hg] at hK; exact hK
  have hKf : hearsS g s ⟨mk, mu, mn, ma, mi, mw, my⟩ = ((noteG (didG g mu) [4, s.n]).1, []) → K (.tup [.agg [.dat (Ty.list Ty.int) (noteG ⟨⟨ws, fu⟩, true, ⟨⟨tv, tk, tt⟩, tn⟩, vo, setAt di (Int.toNat mu) true⟩ [4, s.n]).1.f.words, .dat Ty.int (noteG ⟨⟨ws, fu⟩, true, ⟨⟨tv, tk, tt⟩, tn⟩, vo, setAt di (Int.toNat mu) true⟩ [4, s.n]).1.f.fuel, .dat Ty.bool (noteG ⟨⟨ws, fu⟩, true, ⟨⟨tv, tk, tt⟩, tn⟩, vo, setAt di (Int.toNat mu) true⟩ [4, s.n]).1.up, .dat Ty.int (noteG ⟨⟨ws, fu⟩, true, ⟨⟨tv, tk, tt⟩, tn⟩, vo, setAt di (Int.toNat mu) true⟩ [4, s.n]).1.t.r.version, .dat (Ty.list Ty.int) (noteG ⟨⟨ws, fu⟩, true, ⟨⟨tv, tk, tt⟩, tn⟩, vo, setAt di (Int.toNat mu) true⟩ [4, s.n]).1.t.r.keys, .dat Ty.int (noteG ⟨⟨ws, fu⟩, true, ⟨⟨tv, tk, tt⟩, tn⟩, vo, setAt di (Int.toNat mu) true⟩ [4, s.n]).1.t.r.thr, .dat Ty.int (noteG ⟨⟨ws, fu⟩, true, ⟨⟨tv, tk, tt⟩, tn⟩, vo, setAt di (Int.toNat mu) true⟩ [4, s.n]).1.t.version, .dat (Ty.list Ty.bool) (noteG ⟨⟨ws, fu⟩, true, ⟨⟨tv, tk, tt⟩, tn⟩, vo, setAt di (Int.toNat mu) true⟩ [4, s.n]).1.voted, .dat (Ty.list Ty.bool) (noteG ⟨⟨ws, fu⟩, true, ⟨⟨tv, tk, tt⟩, tn⟩, vo, setAt di (Int.toNat mu) true⟩ [4, s.n]).1.did], .one (.dat (Ty.list Ty.message) []), .one (.dat Ty.int (0 : Int))]) [] := fun e => by rw [hg, e, ← hg] at hK; exact hK
  clear hK
  have evo : (votedG g mu).voted = setAt vo (Int.toNat mu) true := by rw [← hg]; rfl
  have edi : (didG g mu).did = setAt di (Int.toNat mu) true := by rw [← hg]; rfl
  have h3 : mk = 3 → hearsS g s ⟨mk, mu, mn, ma, mi, mw, my⟩ = if s.n ≠ mn ∨ s.ended = true ∨ s.commit = true ∨ s.abort = true ∨ my = false then (g, []) else (voteG g s mu, []) := fun e => by unfold hearsS; rw [if_pos (by exact e)]
  have h6 : mk = 6 → hearsS g s ⟨mk, mu, mn, ma, mi, mw, my⟩ = if s.n ≠ mn ∨ s.ended = true ∨ (s.commit = false ∧ s.abort = false) then (g, []) else (doneG g s mu, []) := fun e => by unfold hearsS; rw [if_neg (by simp only; omega), if_pos (by exact e)]
  have h7 : mk = 7 → hearsS g s ⟨mk, mu, mn, ma, mi, mw, my⟩ = if s.n ≠ mn ∨ s.ended = true ∨ s.commit = true ∨ s.abort = true then (g, [decisionM s mu mn]) else (g, []) := fun e => by unfold hearsS; rw [if_neg (by simp only; omega), if_neg (by simp only; omega), if_pos (by exact e)]
  have h0 : mk ≠ 3 → mk ≠ 6 → mk ≠ 7 → hearsS g s ⟨mk, mu, mn, ma, mi, mw, my⟩ = (g, []) := fun a b c => by unfold hearsS; rw [if_neg (by exact a), if_neg (by exact b), if_neg (by exact c)]
  have hcc : (s.commit = true ∨ s.commit = false) := by cases s.commit <;> simp
  have haa : (s.abort = true ∨ s.abort = false) := by cases s.abort <;> simp
  have hee : (s.ended = true ∨ s.ended = false) := by cases s.ended <;> simp
  by_cases hn : s.n = mn
  · refine eq_t hn ?_
    rcases hcc with hc | hc <;> rcases haa with ha | ha <;> rcases hee with he | he <;> rw [hc, he] <;> rw [hc, ha, he, hn] at h3 h6 h7 <;> simp only [ne_eq, not_true_eq_false, Bool.true_eq_false, Bool.false_eq_true, true_or, or_true, false_or, or_false, and_false, false_and, and_true, true_and, and_self, if_true, if_false, Bool.not_eq_false] at h3 h6 h7
    all_goals
      try rw [ha]
      try simp only [br, Bool.not_true, Bool.not_false]
      refine eq_s (fun k => ?_) (fun k3 => eq_s (fun k => ?_) (fun k6 => eq_s (fun k => ?_) (fun k7 => hKa (h0 k3 k6 k7))))
      · first
          | exact hKa (h3 k)
          | (refine nt_s (fun q => hKa (by rw [h3 k, if_pos q])) (fun q => ⟨⟨by omega, by omega⟩, lnv, lsv, ?_⟩)
             refine nt_s (fun q2 => ⟨by simp, hKd (by rw [h3 k, if_neg (by rw [q]; simp)]; unfold voteG; rw [evo, q2]; rfl)⟩) (fun q2 => hKc (by rw [h3 k, if_neg (by rw [q]; simp)]; unfold voteG; rw [evo, q2]; rfl)))
      · first
          | exact hKa (h6 k)
          | (refine ⟨⟨by omega, by omega⟩, lnd, lsd, nt_s (fun q2 => ⟨by simp, hKf (by rw [h6 k]; unfold doneG; rw [edi, q2]; rfl)⟩) (fun q2 => hKe (by rw [h6 k]; unfold doneG; rw [edi, q2]; rfl))⟩)
      · first
          | exact hKb (h7 k)
          | exact hKa (h7 k)
  · refine eq_f hn ?_
    rw [if_pos (.inl hn)] at h3 h6 h7
    refine br_split (fun _ => ?_) (fun _ => ?_) <;> exact eq_s (fun k => hKa (h3 k)) (fun k3 => eq_s (fun k => hKa (h6 k)) (fun k6 => eq_s (fun k => hKb (h7 k)) (fun k7 => hKa (h0 k3 k6 k7))))
theorem sound_gate_Hear : SoundC Tryd.prog tab n_gate_Hear c_gate_Hear := soundC_of ok_gate_Hear hf_gate_Hear hB_gate_Hear (by
  intro vs bs p v bs' h hp
  unfold c_gate_Hear at h
  split at h
  · cases h
    exact ⟨by kernel_rfl, rfl, .inl (run_gate_Hear _ _ _ _ _ _ _ _ _ _ _ _ _ _ _ _ _ ⟨rfl, rfl⟩)⟩
  · cases h)

def c_law_simple : Contract := fun vs bs => match vs, bs with
  | [], [] => some (none, .tup [.agg [.dat (.list .str) simpleB], .one (.dat (.list .signed) simpleL), .agg [.dat .int 1, .dat (.list .int) [3], .dat .int 1, .dat .int 0], .agg [.dat (.list .root) [], .dat (.list (.list .int)) [], .dat .int 1, .dat .int 5, .dat (.list .target) [⟨0, 2, 2⟩], .dat (.list .int) [3], .dat (.list (.list .int)) [[8, 8]]]], [])
  | _, _ => none
def Γ_law_simple : Ctx := []
theorem ok_law_simple : Ok Tryd.prog tab Γ_law_simple := ok_nil
theorem law_simple_vc (rec : List It → St → Prop) (K : V → List Blk → Prop) : segD Γ_law_simple tab fn_law_simple 0 K rec [.code (bodyOf fn_law_simple)] (initSt [] []) = (
    K (.tup [.agg [.dat (Ty.list Ty.str) (((105 : UInt8) :: ((109 : UInt8) :: ((97 : UInt8) :: ((103 : UInt8) :: ((101 : UInt8) :: ((32 : UInt8) :: ((55 : UInt8) :: []))))))) :: (((105 : UInt8) :: ((109 : UInt8) :: ((97 : UInt8) :: ((103 : UInt8) :: ((101 : UInt8) :: ((32 : UInt8) :: ((56 : UInt8) :: ((32 : UInt8) :: ((56 : UInt8) :: []))))))))) :: (((114 : UInt8) :: ((101 : UInt8) :: ((108 : UInt8) :: ((101 : UInt8) :: ((97 : UInt8) :: ((115 : UInt8) :: ((101 : UInt8) :: ((32 : UInt8) :: ((49 : UInt8) :: ((32 : UInt8) :: ((117 : UInt8) :: ((110 : UInt8) :: ((116 : UInt8) :: ((105 : UInt8) :: ((108 : UInt8) :: ((32 : UInt8) :: ((53 : UInt8) :: ((59 : UInt8) :: ((32 : UInt8) :: ((48 : UInt8) :: ((32 : UInt8) :: ((50 : UInt8) :: ((32 : UInt8) :: ((50 : UInt8) :: [])))))))))))))))))))))))) :: (((114 : UInt8) :: ((111 : UInt8) :: ((111 : UInt8) :: ((116 : UInt8) :: ((32 : UInt8) :: ((50 : UInt8) :: ((32 : UInt8) :: ((49 : UInt8) :: ((32 : UInt8) :: ((111 : UInt8) :: ((102 : UInt8) :: ((32 : UInt8) :: ((52 : UInt8) :: []))))))))))))) :: []))))], .one (.dat (Ty.list Ty.signed) ((⟨(3 : Int), (3 : Int)⟩ : Vm.Signed) :: ((⟨(3 : Int), (4 : Int)⟩ : Vm.Signed) :: ((⟨(4 : Int), (4 : Int)⟩ : Vm.Signed) :: ((⟨(4 : Int), (3 : Int)⟩ : Vm.Signed) :: []))))), .agg [.dat Ty.int (1 : Int), .dat (Ty.list Ty.int) ((3 : Int) :: []), .dat Ty.int (1 : Int), .dat Ty.int (0 : Int)], .agg [.dat (Ty.list Ty.root) [], .dat (Ty.list (Ty.list Ty.int)) [], .dat Ty.int (1 : Int), .dat Ty.int (5 : Int), .dat (Ty.list Ty.target) ((⟨(0 : Int), (2 : Int), (2 : Int)⟩ : Vm.Target) :: []), .dat (Ty.list Ty.int) ((3 : Int) :: []), .dat (Ty.list (Ty.list Ty.int)) (((8 : Int) :: ((8 : Int) :: [])) :: [])]]) []) := by kernel_rfl
theorem law_simple_w (m : Nat) (K : V → List Blk → Prop) : goD Γ_law_simple tab fn_law_simple 0 K (m + 1) [.code (bodyOf fn_law_simple)] (initSt [] []) = segD Γ_law_simple tab fn_law_simple 0 K (goD Γ_law_simple tab fn_law_simple 0 K m) [.code (bodyOf fn_law_simple)] (initSt [] []) := rfl

set_option maxHeartbeats 4000000 in
theorem run_law_simple  (K : V → List Blk → Prop) (hK : K (.tup [.agg [.dat (.list .str) simpleB], .one (.dat (.list .signed) simpleL), .agg [.dat .int 1, .dat (.list .int) [3], .dat .int 1, .dat .int 0], .agg [.dat (.list .root) [], .dat (.list (.list .int)) [], .dat .int 1, .dat .int 5, .dat (.list .target) [⟨0, 2, 2⟩], .dat (.list .int) [3], .dat (.list (.list .int)) [[8, 8]]]]) []) : ∃ m, goD Γ_law_simple tab fn_law_simple 0 K m [.code (bodyOf fn_law_simple)] (initSt [] []) := by
  refine ⟨1, ?_⟩
  rw [law_simple_w, law_simple_vc _ _]
  exact hK
theorem sound_law_simple : SoundC Tryd.prog tab n_law_simple c_law_simple := soundC_of ok_law_simple hf_law_simple hB_law_simple (by
  intro vs bs p v bs' h hp
  unfold c_law_simple at h
  split at h
  · cases h
    exact ⟨by kernel_rfl, rfl, .inl (run_law_simple  _ ⟨rfl, rfl⟩)⟩
  · cases h)

def c_slices_Repeat_Lint : Contract := fun vs bs => match vs, bs with
  | [.one (.dat (.list .int) [x]), .one (.dat .int n)], [] => some (some (0 ≤ n ∧ n ≤ 1000000), .one (.dat (.list .int) (zeros n.toNat x)), [])
  | _, _ => none
def Γ_slices_Repeat_Lint : Ctx := [(n_math_bits_Mul, c_math_bits_Mul)]
theorem ok_slices_Repeat_Lint : Ok Tryd.prog tab Γ_slices_Repeat_Lint := (ok_nil.consC hf_math_bits_Mul hB_math_bits_Mul sound_math_bits_Mul)
noncomputable def slices_Repeat_Lint_L0 : List It := [.inLoop [8, 7, 4] (Code.sub (bodyOf fn_slices_Repeat_Lint) [1, 1, 1, 1, 1, 1, 0, 0, 0]), .inBlock 0, .code (Code.sub (bodyOf fn_slices_Repeat_Lint) [1, 1, 1, 1, 1, 1, 1])]
def slices_Repeat_Lint_S0 (x0 : Int) (x1 : (List Int)) (x2 : (List Int)) : St := ⟨[(8, .one (.dat Ty.int x0)), (7, .one (.own 0)), (4, .one (.own 1))], [(0, .arr Ty.int x1), (1, .arr Ty.int x2)], 2⟩
theorem slices_Repeat_Lint_vc (x : Int) (n : Int) (rec : List It → St → Prop) (K : V → List Blk → Prop) v0 (hv0 : v0 = (u64w (((len (x :: [])) : Nat) : Int))) v1 (hv1 : v1 = (inU64 v0)) v2 (hv2 : v2 = (u64w n)) v3 (hv3 : v3 = (inU64 v2)) : segD Γ_slices_Repeat_Lint tab fn_slices_Repeat_Lint 0 K rec [.code (bodyOf fn_slices_Repeat_Lint)] (initSt [.one (.dat (Ty.list Ty.int) (x :: [])), .one (.dat Ty.int n)] []) = (
    br (lti n (0 : Int))
     (False)
     (((v1 = true) ∧ (v3 = true)) ∧
      (br (lti (0 : Int) ((v0 * v2) / two64))
       (False)
       (br (lti (9223372036854775807 : Int) ((v0 * v2) % two64))
         (False)
         ((((0 : Int) ≤ (w64 ((v0 * v2) % two64))) ∧ ((((w64 ((v0 * v2) % two64)) * ((8 : Nat) : Int)) ≤ (140737488355328 : Int)) ∧ ((w64 ((v0 * v2) % two64)) ≤ (140737488355328 : Int)))) ∧
          (rec slices_Repeat_Lint_L0 (slices_Repeat_Lint_S0 (((min (len (zeros (Int.toNat (w64 ((v0 * v2) % two64))) (Ty.dflt Ty.int))) (len (x :: []))) : Nat) : Int) (put (zeros (Int.toNat (w64 ((v0 * v2) % two64))) (Ty.dflt Ty.int)) 0 (slc (x :: []) 0 (min (len (zeros (Int.toNat (w64 ((v0 * v2) % two64))) (Ty.dflt Ty.int))) (len (x :: []))))) []))))))) := by subst hv3; subst hv2; subst hv1; subst hv0; kernel_rfl
theorem slices_Repeat_Lint_w (x : Int) (n : Int) (m : Nat) (K : V → List Blk → Prop) : goD Γ_slices_Repeat_Lint tab fn_slices_Repeat_Lint 0 K (m + 1) [.code (bodyOf fn_slices_Repeat_Lint)] (initSt [.one (.dat (Ty.list Ty.int) (x :: [])), .one (.dat Ty.int n)] []) = segD Γ_slices_Repeat_Lint tab fn_slices_Repeat_Lint 0 K (goD Γ_slices_Repeat_Lint tab fn_slices_Repeat_Lint 0 K m) [.code (bodyOf fn_slices_Repeat_Lint)] (initSt [.one (.dat (Ty.list Ty.int) (x :: [])), .one (.dat Ty.int n)] []) := rfl
theorem slices_Repeat_Lint_vc0 (x0 : Int) (x1 : (List Int)) (x2 : (List Int)) (rec : List It → St → Prop) (K : V → List Blk → Prop) : segD Γ_slices_Repeat_Lint tab fn_slices_Repeat_Lint 0 K rec (.code (Code.sub (bodyOf fn_slices_Repeat_Lint) [1, 1, 1, 1, 1, 1, 0, 0, 0]) :: slices_Repeat_Lint_L0) (slices_Repeat_Lint_S0 x0 x1 x2) = (
    br (lti x0 (((len x1) : Nat) : Int))
     ((((0 : Int) ≤ x0) ∧ ((x0 ≤ (((len x1) : Nat) : Int)) ∧ ((((len x1) : Nat) : Int) ≤ (((len x1) : Nat) : Int)))) ∧
      ((((0 : Int) ≤ (0 : Int)) ∧ (((0 : Int) ≤ x0) ∧ (x0 ≤ (((len x1) : Nat) : Int)))) ∧
      (((((Int.toNat (0 : Int)) + (Int.toNat (x0 - (0 : Int)))) ≤ (len x1)) ∧ (((Int.toNat x0) + (Int.toNat ((((len x1) : Nat) : Int) - x0))) ≤ (len x1))) ∧
      (rec slices_Repeat_Lint_L0 (slices_Repeat_Lint_S0 (w64 (x0 + (((min (Int.toNat ((((len x1) : Nat) : Int) - x0)) (len (slc x1 (Int.toNat (0 : Int)) ((Int.toNat (0 : Int)) + (Int.toNat (x0 - (0 : Int))))))) : Nat) : Int))) (put x1 (Int.toNat x0) (slc (slc x1 (Int.toNat (0 : Int)) ((Int.toNat (0 : Int)) + (Int.toNat (x0 - (0 : Int))))) 0 (min (Int.toNat ((((len x1) : Nat) : Int) - x0)) (len (slc x1 (Int.toNat (0 : Int)) ((Int.toNat (0 : Int)) + (Int.toNat (x0 - (0 : Int))))))))) x2)))))
     (K (.one (.dat (Ty.list Ty.int) x1)) [])) := by kernel_rfl
theorem slices_Repeat_Lint_w0 (x0 : Int) (x1 : (List Int)) (x2 : (List Int)) (m : Nat) (K : V → List Blk → Prop) : goD Γ_slices_Repeat_Lint tab fn_slices_Repeat_Lint 0 K (m + 1) slices_Repeat_Lint_L0 (slices_Repeat_Lint_S0 x0 x1 x2) = segD Γ_slices_Repeat_Lint tab fn_slices_Repeat_Lint 0 K (goD Γ_slices_Repeat_Lint tab fn_slices_Repeat_Lint 0 K m) (.code (Code.sub (bodyOf fn_slices_Repeat_Lint) [1, 1, 1, 1, 1, 1, 0, 0, 0]) :: slices_Repeat_Lint_L0) (slices_Repeat_Lint_S0 x0 x1 x2) := rfl

theorem u64w_id {n : Int} (h1 : 0 ≤ n) (h2 : n < 18446744073709551616) : u64w n = n := by
  unfold u64w; rw [IntKind.wrap_u64]; omega
theorem inU64_of {n : Int} (h1 : 0 ≤ n) (h2 : n < 18446744073709551616) : inU64 n = true := by simp [inU64, h1, h2]
theorem put_rep (x : Int) (n k j : Nat) : put (List.replicate k x ++ List.replicate (n - k) 0) k (List.replicate j x) = List.replicate (k + j) x ++ List.replicate (n - (k + j)) 0 := by
  unfold put
  rw [List.take_left' (by simp), List.length_replicate]
  rw [show List.drop (k + j) (List.replicate k x ++ List.replicate (n - k) (0 : Int)) = List.replicate (n - (k + j)) 0 from by
    rw [List.drop_append, List.drop_of_length_le (by simp)]
    simp
    omega]
  rw [List.replicate_append_replicate]
theorem loop_slices_Repeat_Lint (x : Int) (n : Nat) (hn : n ≤ 1000000) (K : V → List Blk → Prop) (hK : K (.one (.dat (.list .int) (zeros n x))) []) : ∀ (d k : Nat), n ≤ k + d → k ≤ n → (0 < n → 0 < k) →
    goD Γ_slices_Repeat_Lint tab fn_slices_Repeat_Lint 0 K (d + 1) slices_Repeat_Lint_L0 (slices_Repeat_Lint_S0 (k : Int) (List.replicate k x ++ List.replicate (n - k) 0) [])
  | 0, k, hd, hk, hp => by
    rw [slices_Repeat_Lint_w0, slices_Repeat_Lint_vc0 _ _ _ _ _]
    have e : k = n := by omega
    subst e
    refine lt_f (by simp [len]) ?_
    simpa [zeros] using hK
  | d + 1, k, hd, hk, hp => by
    rw [slices_Repeat_Lint_w0, slices_Repeat_Lint_vc0 _ _ _ _ _]
    have hl : len (List.replicate k x ++ List.replicate (n - k) (0 : Int)) = n := by simp [len]; omega
    rw [hl]
    by_cases c : k < n
    · refine lt_t (by omega) ⟨⟨by omega, by omega, by omega⟩, ⟨by omega, by omega, by omega⟩, ⟨by omega, by omega⟩, ?_⟩
      have e1 : slc (List.replicate k x ++ List.replicate (n - k) (0 : Int)) (Int.toNat 0) (Int.toNat 0 + Int.toNat ((k : Int) - 0)) = List.replicate k x := by
        rw [show Int.toNat 0 + Int.toNat ((k : Int) - 0) = k by omega]
        unfold slc
        rw [List.take_left' (by simp)]
        simp
      rw [e1]
      have e2 : len (List.replicate k x) = k := by simp [len]
      rw [e2]
      generalize hj : min (Int.toNat ((n : Int) - (k : Int))) k = j
      have hj' : j = min (n - k) k := by omega
      have e3 : slc (List.replicate k x) 0 j = List.replicate j x := by
        unfold slc
        rw [List.take_replicate]
        simp
        omega
      rw [e3, toNat_nat, put_rep x n k j, w64_id (by omega) (by omega), show (k : Int) + (j : Int) = ((k + j : Nat) : Int) by omega]
      exact loop_slices_Repeat_Lint x n hn K hK d (k + j) (by have := hp (by omega); omega) (by omega) (fun h => by have := hp h; omega)
    · have e : k = n := by omega
      subst e
      refine lt_f (by omega) ?_
      simpa [zeros] using hK
set_option maxHeartbeats 4000000 in
theorem run_slices_Repeat_Lint (x n : Int) (hp : 0 ≤ n ∧ n ≤ 1000000) (K : V → List Blk → Prop) (hK : K (.one (.dat (.list .int) (zeros n.toNat x))) []) : ∃ m, goD Γ_slices_Repeat_Lint tab fn_slices_Repeat_Lint 0 K m [.code (bodyOf fn_slices_Repeat_Lint)] (initSt [.one (.dat (.list .int) [x]), .one (.dat .int n)] []) := by
  obtain ⟨h1, h2⟩ := hp
  refine ⟨n.toNat + 2, ?_⟩
  rw [slices_Repeat_Lint_w, slices_Repeat_Lint_vc _ _ _ _ _ rfl _ rfl _ rfl _ rfl]
  have e1 : u64w (((len (x :: [])) : Nat) : Int) = 1 := by simp only [len, List.length_cons, List.length_nil]; exact u64w_id (by omega) (by omega)
  rw [e1, u64w_id (n := n) h1 (by omega), Int.one_mul]
  have e2 : n / two64 = 0 := by unfold two64; omega
  have e3 : n % two64 = n := by unfold two64; omega
  rw [e2, e3, w64_id (by omega) (by omega)]
  refine lt_f h1 ⟨⟨inU64_of (by omega) (by omega), inU64_of h1 (by omega)⟩, lt_f (by omega) (lt_f (by omega) ⟨⟨h1, by omega, by omega⟩, ?_⟩)⟩
  obtain ⟨k, rfl⟩ := Int.eq_ofNat_of_zero_le h1
  rw [toNat_nat] at hK ⊢
  have e4 : len (zeros k (Ty.dflt Ty.int)) = k := by simp [len, zeros]
  rw [e4]
  have := loop_slices_Repeat_Lint x k (by omega) K hK k (min k 1) (by omega) (by omega) (by omega)
  have e5 : put (zeros k (Ty.dflt Ty.int)) 0 (slc (x :: []) 0 (min k (len (x :: [])))) = List.replicate (min k 1) x ++ List.replicate (k - min k 1) 0 := by
    have h := put_rep x k 0 (min k 1)
    rw [Nat.zero_add] at h
    rw [← h]
    have : slc (x :: []) 0 (min k (len (x :: []))) = List.replicate (min k 1) x := by
      simp only [len, List.length_cons, List.length_nil, slc]
      cases k with
      | zero => simp
      | succ k => rw [show min (k + 1) (0 + 1) = 1 by omega]; rfl
    rw [this]
    rfl
  rw [e5, show min k (len (x :: [])) = min k 1 from rfl]
  exact this
theorem sound_slices_Repeat_Lint : SoundC Tryd.prog tab n_slices_Repeat_Lint c_slices_Repeat_Lint := soundC_of ok_slices_Repeat_Lint hf_slices_Repeat_Lint hB_slices_Repeat_Lint (by
  intro vs bs p v bs' h hp
  unfold c_slices_Repeat_Lint at h
  split at h
  · cases h
    exact ⟨by kernel_rfl, rfl, .inl (run_slices_Repeat_Lint _ _ hp.1 _ ⟨rfl, rfl⟩)⟩
  · cases h)

def c_flash_New : Contract := fun vs bs => match vs, bs with
  | [.one (.dat .int n)], [] => some (none, .tup [.agg [.dat (.list .int) (newFlash n).1.words, .dat .int (newFlash n).1.fuel], .one (.dat .int (newFlash n).2)], [])
  | _, _ => none
def Γ_flash_New : Ctx := [(n_slices_Repeat_Lint, c_slices_Repeat_Lint)]
theorem ok_flash_New : Ok Tryd.prog tab Γ_flash_New := (ok_nil.consC hf_slices_Repeat_Lint hB_slices_Repeat_Lint sound_slices_Repeat_Lint)
theorem flash_New_vc (n : Int) (rec : List It → St → Prop) (K : V → List Blk → Prop) : segD Γ_flash_New tab fn_flash_New 0 K rec [.code (bodyOf fn_flash_New)] (initSt [.one (.dat Ty.int n)] []) = (
    br (lti n (1 : Int))
     (K (.tup [.agg [.dat (Ty.list Ty.int) [], .dat Ty.int (0 : Int)], .one (.dat Ty.int (3 : Int))]) [])
     (br (lti (6 : Int) n)
       (K (.tup [.agg [.dat (Ty.list Ty.int) [], .dat Ty.int (0 : Int)], .one (.dat Ty.int (3 : Int))]) [])
       ((((0 : Int) ≤ (w64 (n * (32 : Int)))) ∧ ((w64 (n * (32 : Int))) ≤ (1000000 : Int))) ∧
        (K (.tup [.agg [.dat (Ty.list Ty.int) (zeros (Int.toNat (w64 (n * (32 : Int)))) (65535 : Int)), .dat Ty.int (-(1 : Int))], .one (.dat Ty.int (0 : Int))]) [])))) := by kernel_rfl
theorem flash_New_w (n : Int) (m : Nat) (K : V → List Blk → Prop) : goD Γ_flash_New tab fn_flash_New 0 K (m + 1) [.code (bodyOf fn_flash_New)] (initSt [.one (.dat Ty.int n)] []) = segD Γ_flash_New tab fn_flash_New 0 K (goD Γ_flash_New tab fn_flash_New 0 K m) [.code (bodyOf fn_flash_New)] (initSt [.one (.dat Ty.int n)] []) := rfl

set_option maxHeartbeats 4000000 in
theorem run_flash_New (n : Int) (K : V → List Blk → Prop) (hK : K (.tup [.agg [.dat (.list .int) (newFlash n).1.words, .dat .int (newFlash n).1.fuel], .one (.dat .int (newFlash n).2)]) []) : ∃ m, goD Γ_flash_New tab fn_flash_New 0 K m [.code (bodyOf fn_flash_New)] (initSt [.one (.dat .int n)] []) := by
  refine ⟨1, ?_⟩
  rw [flash_New_w, flash_New_vc _ _ _]
  unfold newFlash at hK
  refine lt_s (fun h => ?_) (fun h => lt_s (fun h2 => ?_) (fun h2 => ?_))
  · rw [if_neg (by omega)] at hK; exact hK
  · rw [if_neg (by omega)] at hK; exact hK
  · rw [if_pos ⟨h, h2⟩] at hK
    rw [w64_id (by omega) (by omega)]
    exact ⟨⟨by omega, by omega⟩, hK⟩
theorem sound_flash_New : SoundC Tryd.prog tab n_flash_New c_flash_New := soundC_of ok_flash_New hf_flash_New hB_flash_New (by
  intro vs bs p v bs' h hp
  unfold c_flash_New at h
  split at h
  · cases h
    exact ⟨by kernel_rfl, rfl, .inl (run_flash_New _ _ ⟨rfl, rfl⟩)⟩
  · cases h)
end Go.Proofs.YtlbppjmekiemiacDoor
