/- What the functions of UnitPieces compute (part 1 of 2). No condition. -/
import Derived.Test.YtlbppjmekiemiabDoorTab
import Derived.Test.YtlbppjmekiemiabDoorSpec
import Derived.KernelRfl
import Derived.Test.YtlbppjmekiemiabDoorShelf
import Derived.WalkKit
import Derived.Lib.Mul64
import Derived.Laws.Bits64b
/- strconv.Itoa: the shelf's contract as one of ours. The number is no less than 0. -/
namespace Go.Proofs.YtlbppjmekiemiabDoor
open Go.RowKit Go.Lib Go.Sort Vm
def c_strconv_Itoa : Contract := fun vs bs => match vs, bs with
  | [.one (.dat .int n)], [] => some (some (0 ≤ n ∧ n ≤ 9223372036854775807), .one (.dat .str (numT n)), [])
  | _, _ => none
theorem sound_strconv_Itoa : SoundC Tryd.prog tab n_strconv_Itoa c_strconv_Itoa := by
  intro vs bs p v bs' h hp w S μ xs I hx
  unfold c_strconv_Itoa at h
  split at h
  · cases h
    rename_i n
    obtain ⟨⟨h1, h2⟩, _⟩ := hp
    have h1 : (0 : Int) ≤ n := h1
    have h2 : (n : Int) ≤ 9223372036854775807 := h2
    match xs, hx with
    | [X], ⟨g1, _⟩ =>
      have e1 := rel_int g1
      subst e1
      obtain ⟨g, hg⟩ : ∃ g, tab.pow = some g := ⟨_, rfl⟩
      obtain ⟨_, ty, m, hb⟩ := I.pow g hg
      have htab : Go.Lib.TabIs Tryd.prog w "internal/strconv.uint64pow10" .u64 Go.Lib.pow10Tab := by
        have hgn : Tryd.prog.globalNamed "internal/strconv.uint64pow10" = tab.pow := by kernel_rfl
        unfold Go.Lib.TabIs World.var?
        rw [hgn, hg]
        simp only [Option.bind_some, hb]
        rfl
      refine (Tryd.strconv_Itoa n (by omega) h2 w htab).mono fun e w' ⟨he, k, os, hw⟩ => ?_
      subst hw he
      have hsz : (grow (w.drewN k) os).heap = w.heap ++ os := rfl
      have E : Ext μ (memL []) w S μ (memL []) (grow (w.drewN k) os) S := ⟨fun _ h => h, (Ext.refl (μ := μ) (mem := memL []) (w := w) (S := S)).kinds, fun _ h => h, by rw [hsz]; simp, fun b hb _ => by rw [hsz, Array.getElem?_append_left hb], fun _ h => .inl h, fun _ h => .inl h, rfl, rfl, rfl⟩
      refine ⟨_, μ, S, rfl, E, ⟨fun r B h => by simp [memL] at h, fun r r' _ ⟨B, h, _⟩ => by simp [memL] at h, fun r ⟨B, h, _⟩ => by simp [memL] at h, fun b hb => Nat.lt_of_lt_of_le (I.lt b hb) E.size, I.powExt E⟩, ?_⟩
      rw [itoa_eq h1 h2]
      exact mk_str _
  · cases h
end Go.Proofs.YtlbppjmekiemiabDoor

/- strings.Join: the shelf's contract as one of ours. What comes of it is no longer than memory holds. -/
namespace Go.Proofs.YtlbppjmekiemiabDoor
open Go.RowKit Go.Lib Vm
theorem below_EI {μ : Mu} {w w' : World} {S : Nat → Prop} (I : Inv tab μ (memL []) w S) (hb : Below w.heap.size w w') : Ext μ (memL []) w S μ (memL []) w' S ∧ Inv tab μ (memL []) w' S := by
  have E : Ext μ (memL []) w S μ (memL []) w' S := ⟨fun _ h => h, (Ext.refl (μ := μ) (mem := memL []) (w := w) (S := S)).kinds, fun _ h => h, hb.size, fun b hlt _ => hb.block b hlt, fun _ h => .inl h, fun _ h => .inl h, hb.os, hb.tape, hb.output⟩
  exact ⟨E, ⟨fun r B h => by simp [memL] at h, fun r r' _ ⟨B, h, _⟩ => by simp [memL] at h, fun r ⟨B, h, _⟩ => by simp [memL] at h, fun b hb => Nat.lt_of_lt_of_le (I.lt b hb) E.size, I.powExt E⟩⟩
def c_strings_Join : Contract := fun vs bs => match vs, bs with
  | [.one (.dat (.list .str) l), .one (.dat .str sep)], [] => some (some (l.length ≤ 140737488355328 ∧ (joinT sep l).length ≤ 140737488355328), .one (.dat .str (joinT sep l)), [])
  | _, _ => none
theorem sound_strings_Join : SoundC Tryd.prog tab n_strings_Join c_strings_Join := by
  intro vs bs p v bs' h hp w S μ xs I hx
  unfold c_strings_Join at h
  split at h
  · cases h
    rename_i l sep
    obtain ⟨⟨h1, h2⟩, _⟩ := hp
    match xs, hx with
    | [X, Y], ⟨g1, g2, _⟩ =>
      have e2 := rel_str g2
      subst e2
      obtain ⟨_, hr⟩ := g1
      cases hr with
      | empty t a cap =>
        refine (Tryd.strings_Join_none a cap ⟨sep.toArray⟩ w).mono fun e w' ⟨he, hw⟩ => ?_
        subst hw he
        exact ⟨_, μ, S, rfl, Ext.refl, I, mk_str []⟩
      | list t l b off cap cs hS hcap hc hr =>
        have hm : (l.map fun s : List UInt8 => (⟨s.toArray⟩ : ByteArray)).map (·.data.toList) = l := by simp [List.map_map, Function.comp_def]
        have hj : (Go.Lib.join ((l.map fun s : List UInt8 => (⟨s.toArray⟩ : ByteArray)).map (·.data.toList)) (⟨sep.toArray⟩ : ByteArray).data.toList) = joinT sep l := by rw [hm]; exact join_eq sep l
        have key := Tryd.strings_Join b off cap (l.map fun s : List UInt8 => (⟨s.toArray⟩ : ByteArray)) ⟨sep.toArray⟩ w (fun j x hx => by
          rw [List.getElem?_map] at hx
          obtain ⟨s, hs, rfl⟩ := Option.map_eq_some_iff.1 hx
          have hjl : j < l.length := (List.getElem?_eq_some_iff.1 hs).1
          have c1 := hc j 0 hjl (by decide)
          have e : nth l j (Ty.dflt .str) = s := by simp [nth, List.getD_eq_getElem?_getD, hs]
          have c2 := hr j 0 (.dat .str s) hjl (by rw [e]; rfl)
          have c3 : cs j 0 = .string ⟨s.toArray⟩ := by
            generalize cs j 0 = y at c2
            cases c2; rfl
          rw [c3] at c1
          simpa [at0, Ty.width] using c1) (I.lt b hS) (by simpa using h1) (by simpa using hcap) (by rw [hj]; exact h2)
        rw [List.length_map, hj] at key
        refine key.mono fun e w' ⟨he, hb⟩ => ?_
        subst he
        obtain ⟨E, I'⟩ := below_EI I hb
        exact ⟨_, μ, S, rfl, E, I', mk_str _⟩
  · cases h
end Go.Proofs.YtlbppjmekiemiabDoor

/- math/bits.Mul: the whole product. Both factors are of 64 bits. -/
namespace Go.Proofs.YtlbppjmekiemiabDoor
open Go.RowKit Go.Lib Vm
namespace Mul64
theorem maskN (a : Nat) (ha : a < 18446744073709551616) : bits .and .u64 (a : Int) 4294967295 = ((a % 4294967296 : Nat) : Int) := by
  have h := bits_and_u64_nat a 4294967295 ha (by omega)
  have e : a &&& 4294967295 = a % 4294967296 := Nat.and_two_pow_sub_one_eq_mod a 32
  rw [e] at h
  exact h
theorem divN (a : Nat) : (a : Int) / 4294967296 = ((a / 4294967296 : Nat) : Int) := by omega
theorem mulN (a b : Nat) : (a : Int) * (b : Int) = ((a * b : Nat) : Int) := (Int.natCast_mul a b).symm
theorem addN (a b : Nat) : (a : Int) + (b : Int) = ((a + b : Nat) : Int) := (Int.natCast_add a b).symm
theorem wrapN (a : Nat) (ha : a < 18446744073709551616) : IntKind.u64.wrap (a : Int) = (a : Int) := by rw [IntKind.wrap_u64]; omega
theorem wrapM (a : Nat) : IntKind.u64.wrap (a : Int) = ((a % 18446744073709551616 : Nat) : Int) := by rw [IntKind.wrap_u64]; omega
end Mul64
set_option maxHeartbeats 1000000 in
theorem mul64_any (x y : Nat) (hx : x < 18446744073709551616) (hy : y < 18446744073709551616) (w : World) :
    Calls Tryd.prog 145 #[.int .u64 x, .int .u64 y] w fun e w' => e = .returned (.tuple #[.int .u64 ((x * y / 18446744073709551616 : Nat) : Int), .int .u64 ((x * y % 18446744073709551616 : Nat) : Int)]) ∧ w' = w := by
  obtain ⟨bd, bt, bw, hhi⟩ := Lib.mul64_hi x y hx hy
  have ba := Lib.half_mul_le (a := x / 4294967296) (b := y / 4294967296) (by omega) (by omega)
  have bb := Lib.half_mul_le (a := x / 4294967296) (b := y % 4294967296) (by omega) (by omega)
  have bc := Lib.half_mul_le (a := x % 4294967296) (b := y / 4294967296) (by omega) (by omega)
  have ba' : x / 4294967296 * (y / 4294967296) < 18446744073709551616 := by omega
  have bb' : x / 4294967296 * (y % 4294967296) < 18446744073709551616 := by omega
  have bc' : x % 4294967296 * (y / 4294967296) < 18446744073709551616 := by omega
  have bh1 : x / 4294967296 * (y / 4294967296) + (x / 4294967296 * (y % 4294967296) + x % 4294967296 * (y % 4294967296) / 4294967296) / 4294967296 < 18446744073709551616 := by omega
  have bh : x / 4294967296 * (y / 4294967296) + (x / 4294967296 * (y % 4294967296) + x % 4294967296 * (y % 4294967296) / 4294967296) / 4294967296 + ((x / 4294967296 * (y % 4294967296) + x % 4294967296 * (y % 4294967296) / 4294967296) % 4294967296 + x % 4294967296 * (y / 4294967296)) / 4294967296 < 18446744073709551616 := by omega
  go_enter Tryd.func145, Tryd.ntmps145
  go_wp2
  simp only [Mul64.maskN x hx, Mul64.maskN y hy, Mul64.divN, Mul64.mulN, Mul64.addN, Mul64.wrapN _ bd, Mul64.wrapN _ bb', Mul64.wrapN _ bt, Mul64.maskN _ bt, Mul64.wrapN _ bc', Mul64.wrapN _ bw, Mul64.wrapN _ ba', Mul64.wrapN _ bh1, Mul64.wrapN _ bh, Mul64.wrapM (x * y)]
  rw [hhi]
  go_ret2
  exact ⟨rfl, rfl⟩
set_option maxHeartbeats 1000000 in
theorem mul_any (x y : Nat) (hx : x < 18446744073709551616) (hy : y < 18446744073709551616) (w : World) :
    Calls Tryd.prog 133 #[.int .u64 x, .int .u64 y] w fun e w' => e = .returned (.tuple #[.int .u64 ((x * y / 18446744073709551616 : Nat) : Int), .int .u64 ((x * y % 18446744073709551616 : Nat) : Int)]) ∧ w' = w := by
  have c64 := mul64_any x y hx hy w
  go_enter Tryd.func133, Tryd.ntmps133
  go_wp2_with (go_at_call 145; refine c64.mono ?_; rintro e w' ⟨rfl, hw⟩; rw [hw])
  go_ret2
  exact ⟨rfl, rfl⟩
def c_math_bits_Mul : Contract := fun vs bs => match vs, bs with
  | [.one (.dat .u64 a), .one (.dat .u64 b)], [] => some (some (inU64 a = true ∧ inU64 b = true), .tup [.one (.dat .u64 ((a * b) / two64)), .one (.dat .u64 ((a * b) % two64))], [])
  | _, _ => none
theorem sound_math_bits_Mul : SoundC Tryd.prog tab n_math_bits_Mul c_math_bits_Mul := by
  intro vs bs p v bs' h hp w S μ xs I hx
  unfold c_math_bits_Mul at h
  split at h
  · cases h
    rename_i a b
    obtain ⟨⟨h1, h2⟩, _⟩ := hp
    simp only [inU64, Bool.and_eq_true, decide_eq_true_eq] at h1 h2
    obtain ⟨x, rfl⟩ := Int.eq_ofNat_of_zero_le h1.1
    obtain ⟨y, rfl⟩ := Int.eq_ofNat_of_zero_le h2.1
    match xs, hx with
    | [X, Y], ⟨g1, g2, _⟩ =>
      have e1 := rel_u64 g1
      have e2 := rel_u64 g2
      subst e1 e2
      refine (mul_any x y (by omega) (by omega) w).mono fun e w' ⟨he, hw⟩ => ?_
      subst hw he
      refine ⟨_, μ, S, rfl, Ext.refl, I, _, rfl, rfl, fun i u hu => ?_⟩
      match i, hu with
      | 0, hu => cases hu; exact ⟨_, rfl, mk_u64 _⟩
      | 1, hu => cases hu; exact ⟨_, rfl, mk_u64 _⟩
  · cases h
end Go.Proofs.YtlbppjmekiemiabDoor
namespace Go.Proofs.YtlbppjmekiemiabDoor
open Vm
def c_flash_Check : Contract := fun vs bs => match vs, bs with
  | [.agg [.dat (.list .int) ws, .dat .int fu]], [] => some (none, .one (.dat .int (checkFlash ⟨ws, fu⟩)), [])
  | _, _ => none
def Γ_flash_Check : Ctx := []
theorem ok_flash_Check : Ok Tryd.prog tab Γ_flash_Check := ok_nil
noncomputable def flash_Check_L0 : List It := [.inLoop [31, 30, 29, 2] (Code.sub (bodyOf fn_flash_Check) [1, 1, 1, 0, 1, 0, 0]), .inBlock 0, .code (Code.sub (bodyOf fn_flash_Check) [1, 1, 1, 1])]
def flash_Check_S0 (x0 : Int) (x1 : Int) (x2 : (List Int)) (x3 : Int) : St := ⟨[(31, .one (.dat Ty.int x0)), (30, .one (.dat Ty.int x1)), (29, .one (.dat (Ty.list Ty.int) x2)), (2, .one (.dat Ty.int x3))], [], 0⟩
theorem flash_Check_vc (ws : List Int) (fu : Int) (rec : List It → St → Prop) (K : V → List Blk → Prop) : segD Γ_flash_Check tab fn_flash_Check 0 K rec [.code (bodyOf fn_flash_Check)] (initSt [.agg [.dat (Ty.list Ty.int) ws, .dat Ty.int fu]] []) = (
    br (eqi (((len ws) : Nat) : Int) (0 : Int))
     (K (.one (.dat Ty.int (4 : Int))) [])
     (((32 : Int) ≠ (0 : Int)) ∧
      (br (!(eqi (Int.tmod (((len ws) : Nat) : Int) (32 : Int)) (0 : Int)))
       (K (.one (.dat Ty.int (4 : Int))) [])
       (br (lti (192 : Int) (((len ws) : Nat) : Int))
         (K (.one (.dat Ty.int (4 : Int))) [])
         (br (lti fu (-(1 : Int)))
           (K (.one (.dat Ty.int (3 : Int))) [])
           (br (lti (100000 : Int) fu)
             (K (.one (.dat Ty.int (3 : Int))) [])
             (rec flash_Check_L0 (flash_Check_S0 (0 : Int) (((len ws) : Nat) : Int) ws (0 : Int))))))))) := by kernel_rfl
theorem flash_Check_w (ws : List Int) (fu : Int) (m : Nat) (K : V → List Blk → Prop) : goD Γ_flash_Check tab fn_flash_Check 0 K (m + 1) [.code (bodyOf fn_flash_Check)] (initSt [.agg [.dat (Ty.list Ty.int) ws, .dat Ty.int fu]] []) = segD Γ_flash_Check tab fn_flash_Check 0 K (goD Γ_flash_Check tab fn_flash_Check 0 K m) [.code (bodyOf fn_flash_Check)] (initSt [.agg [.dat (Ty.list Ty.int) ws, .dat Ty.int fu]] []) := rfl
theorem flash_Check_vc0 (x0 : Int) (x1 : Int) (x2 : (List Int)) (x3 : Int) (rec : List It → St → Prop) (K : V → List Blk → Prop) : segD Γ_flash_Check tab fn_flash_Check 0 K rec (.code (Code.sub (bodyOf fn_flash_Check) [1, 1, 1, 0, 1, 0, 0]) :: flash_Check_L0) (flash_Check_S0 x0 x1 x2 x3) = (
    br (lti x0 x1)
     ((((0 : Int) ≤ x0) ∧ (x0 < (((len x2) : Nat) : Int))) ∧
      (br (lti (nth x2 (Int.toNat x0) (Ty.dflt Ty.int)) (0 : Int))
       (K (.one (.dat Ty.int (3 : Int))) [])
       (br (lti (65535 : Int) (nth x2 (Int.toNat x0) (Ty.dflt Ty.int)))
         (K (.one (.dat Ty.int (3 : Int))) [])
         (rec flash_Check_L0 (flash_Check_S0 (w64 (x0 + (1 : Int))) x1 x2 x3)))))
     (K (.one (.dat Ty.int (0 : Int))) [])) := by kernel_rfl
theorem flash_Check_w0 (x0 : Int) (x1 : Int) (x2 : (List Int)) (x3 : Int) (m : Nat) (K : V → List Blk → Prop) : goD Γ_flash_Check tab fn_flash_Check 0 K (m + 1) flash_Check_L0 (flash_Check_S0 x0 x1 x2 x3) = segD Γ_flash_Check tab fn_flash_Check 0 K (goD Γ_flash_Check tab fn_flash_Check 0 K m) (.code (Code.sub (bodyOf fn_flash_Check) [1, 1, 1, 0, 1, 0, 0]) :: flash_Check_L0) (flash_Check_S0 x0 x1 x2 x3) := rfl

theorem loop_flash_Check (ws : List Int) (hl : ws.length ≤ 192) (K : V → List Blk → Prop) (hK : K (.one (.dat .int (if okWords ws then 0 else 3))) []) : ∀ (d k : Nat), k + d = ws.length → okWords (ws.take k) = true →
    goD Γ_flash_Check tab fn_flash_Check 0 K (d + 1) flash_Check_L0 (flash_Check_S0 (k : Int) (((len ws) : Nat) : Int) ws (0 : Int))
  | 0, k, hk, he => by
    rw [flash_Check_w0, flash_Check_vc0 _ _ _ _ _ _]
    refine lt_f (by simp only [len]; omega) ?_
    rw [List.take_of_length_le (by omega)] at he
    rw [if_pos he] at hK
    exact hK
  | d + 1, k, hk, he => by
    rw [flash_Check_w0, flash_Check_vc0 _ _ _ _ _ _]
    have bad : okWord (nth ws k (Ty.dflt Ty.int)) = false → K (.one (.dat .int 3)) [] := fun h => by
      rw [show okWords ws = false from all_false (k := k) (by omega) _ h] at hK; exact hK
    refine lt_t (by simp only [len]; omega) ⟨⟨by omega, by simp only [len]; omega⟩, lt_s (fun h => ?_) (fun h => lt_s (fun h2 => ?_) (fun h2 => ?_))⟩
    · rw [toNat_nat] at h
      exact bad (by simp only [okWord, Bool.and_eq_false_iff, decide_eq_false_iff_not]; exact .inl (by omega))
    · rw [toNat_nat] at h2
      exact bad (by simp only [okWord, Bool.and_eq_false_iff, decide_eq_false_iff_not]; exact .inr (by omega))
    · rw [w64_succ (by omega)]
      rw [toNat_nat] at h h2
      exact loop_flash_Check ws hl K hK d (k + 1) (by omega) (all_take_step (by omega) (Ty.dflt Ty.int) he (by simp [okWord, h, h2]))
set_option maxHeartbeats 4000000 in
theorem run_flash_Check (ws : List Int) (fu : Int) (K : V → List Blk → Prop) (hK : K (.one (.dat .int (checkFlash ⟨ws, fu⟩))) []) : ∃ m, goD Γ_flash_Check tab fn_flash_Check 0 K m [.code (bodyOf fn_flash_Check)] (initSt [.agg [.dat (.list .int) ws, .dat .int fu]] []) := by
  refine ⟨ws.length + 2, ?_⟩
  rw [flash_Check_w, flash_Check_vc _ _ _ _]
  have four : okLen ws.length = false → K (.one (.dat .int 4)) [] := fun h => by
    rw [show checkFlash ⟨ws, fu⟩ = 4 from by simp [checkFlash, h]] at hK; exact hK
  refine eq_s (fun h => four ?_) (fun h => ⟨by decide, ne_s (fun h2 => four ?_) (fun h2 => lt_s (fun h3 => four ?_) (fun h3 => ?_))⟩)
  · simp only [len] at h; simp [okLen]; omega
  · simp only [len] at h2; rw [Int.tmod_eq_emod_of_nonneg (by omega)] at h2; simp [okLen]; omega
  · simp only [len] at h3; simp [okLen]; omega
  · have hlen : okLen ws.length = true := by simp only [len] at h h2 h3; rw [Int.tmod_eq_emod_of_nonneg (by omega)] at h2; simp [okLen]; omega
    have three : (decide (-1 ≤ fu) && decide (fu ≤ 100000)) = false → K (.one (.dat .int 3)) [] := fun h => by
      rw [show checkFlash ⟨ws, fu⟩ = 3 from by simp [checkFlash, hlen, h]] at hK; exact hK
    refine lt_s (fun h4 => three ?_) (fun h4 => lt_s (fun h5 => three ?_) (fun h5 => ?_))
    · simp; omega
    · simp; omega
    · refine loop_flash_Check ws (by simp only [len] at h3; omega) K ?_ ws.length 0 (by omega) rfl
      rw [show checkFlash ⟨ws, fu⟩ = if okWords ws then 0 else 3 from by simp [checkFlash, hlen, h4, h5]] at hK
      exact hK
theorem sound_flash_Check : SoundC Tryd.prog tab n_flash_Check c_flash_Check := soundC_of ok_flash_Check hf_flash_Check hB_flash_Check (by
  intro vs bs p v bs' h hp
  unfold c_flash_Check at h
  split at h
  · cases h
    exact ⟨by kernel_rfl, rfl, .inl (run_flash_Check _ _ _ ⟨rfl, rfl⟩)⟩
  · cases h)

def c_log_live : Contract := fun vs bs => match vs, bs with
  | [.agg [.dat (.list .int) ws, .dat .int _]], [] => some (some (64 ≤ len ws ∧ okWords ws = true), .tup [.one (.dat .int (liveS ws)), .one (.dat .int (liveG ws)), .one (.dat .bool (liveOk ws))], [])
  | _, _ => none
def Γ_log_live : Ctx := []
theorem ok_log_live : Ok Tryd.prog tab Γ_log_live := ok_nil
theorem log_live_vc (ws : List Int) (fu : Int) (rec : List It → St → Prop) (K : V → List Blk → Prop) : segD Γ_log_live tab fn_log_live 0 K rec [.code (bodyOf fn_log_live)] (initSt [.agg [.dat (Ty.list Ty.int) ws, .dat Ty.int fu]] []) = (
    (((0 : Int) ≤ (0 : Int)) ∧ ((0 : Int) < (((len ws) : Nat) : Int))) ∧
    ((((0 : Int) ≤ (32 : Int)) ∧ ((32 : Int) < (((len ws) : Nat) : Int))) ∧
    (br (eqi (nth ws (Int.toNat (0 : Int)) (Ty.dflt Ty.int)) (65535 : Int))
     (br (eqi (nth ws (Int.toNat (32 : Int)) (Ty.dflt Ty.int)) (65535 : Int))
       (K (.tup [.one (.dat Ty.int (0 : Int)), .one (.dat Ty.int (0 : Int)), .one (.dat Ty.bool (lti (0 : Int) (0 : Int)))]) [])
       (br (lti (0 : Int) (nth ws (Int.toNat (32 : Int)) (Ty.dflt Ty.int)))
         (K (.tup [.one (.dat Ty.int (1 : Int)), .one (.dat Ty.int (nth ws (Int.toNat (32 : Int)) (Ty.dflt Ty.int))), .one (.dat Ty.bool true)]) [])
         (K (.tup [.one (.dat Ty.int (0 : Int)), .one (.dat Ty.int (0 : Int)), .one (.dat Ty.bool (lti (0 : Int) (0 : Int)))]) [])))
     (br (eqi (nth ws (Int.toNat (32 : Int)) (Ty.dflt Ty.int)) (65535 : Int))
       (br (lti (nth ws (Int.toNat (0 : Int)) (Ty.dflt Ty.int)) (0 : Int))
         (K (.tup [.one (.dat Ty.int (1 : Int)), .one (.dat Ty.int (0 : Int)), .one (.dat Ty.bool true)]) [])
         (K (.tup [.one (.dat Ty.int (0 : Int)), .one (.dat Ty.int (nth ws (Int.toNat (0 : Int)) (Ty.dflt Ty.int))), .one (.dat Ty.bool (lti (0 : Int) (nth ws (Int.toNat (0 : Int)) (Ty.dflt Ty.int))))]) []))
       (br (lti (nth ws (Int.toNat (0 : Int)) (Ty.dflt Ty.int)) (nth ws (Int.toNat (32 : Int)) (Ty.dflt Ty.int)))
         (K (.tup [.one (.dat Ty.int (1 : Int)), .one (.dat Ty.int (nth ws (Int.toNat (32 : Int)) (Ty.dflt Ty.int))), .one (.dat Ty.bool true)]) [])
         (K (.tup [.one (.dat Ty.int (0 : Int)), .one (.dat Ty.int (nth ws (Int.toNat (0 : Int)) (Ty.dflt Ty.int))), .one (.dat Ty.bool (lti (0 : Int) (nth ws (Int.toNat (0 : Int)) (Ty.dflt Ty.int))))]) [])))))) := by kernel_rfl
theorem log_live_w (ws : List Int) (fu : Int) (m : Nat) (K : V → List Blk → Prop) : goD Γ_log_live tab fn_log_live 0 K (m + 1) [.code (bodyOf fn_log_live)] (initSt [.agg [.dat (Ty.list Ty.int) ws, .dat Ty.int fu]] []) = segD Γ_log_live tab fn_log_live 0 K (goD Γ_log_live tab fn_log_live 0 K m) [.code (bodyOf fn_log_live)] (initSt [.agg [.dat (Ty.list Ty.int) ws, .dat Ty.int fu]] []) := rfl

set_option maxHeartbeats 4000000 in
theorem run_log_live (ws : List Int) (fu : Int) (hp : 64 ≤ len ws ∧ okWords ws = true) (K : V → List Blk → Prop) (hK : K (.tup [.one (.dat .int (liveS ws)), .one (.dat .int (liveG ws)), .one (.dat .bool (liveOk ws))]) []) : ∃ m, goD Γ_log_live tab fn_log_live 0 K m [.code (bodyOf fn_log_live)] (initSt [.agg [.dat (.list .int) ws, .dat .int fu]] []) := by
  obtain ⟨hl, hok⟩ := hp
  refine ⟨1, ?_⟩
  rw [log_live_w, log_live_vc _ _ _ _]
  have o0 := getD_ok hok 0
  have o1 := getD_ok hok 32
  have e0 : nth ws (Int.toNat (0 : Int)) (Ty.dflt Ty.int) = ws.getD 0 0 := rfl
  have e1 : nth ws (Int.toNat (32 : Int)) (Ty.dflt Ty.int) = ws.getD 32 0 := rfl
  rw [e0, e1]
  have g0 : genOf ws 0 = if ws.getD 0 0 = 65535 then 0 else ws.getD 0 0 := rfl
  have g1 : genOf ws 1 = if ws.getD 32 0 = 65535 then 0 else ws.getD 32 0 := rfl
  unfold liveOk liveG liveS at hK
  refine ⟨⟨by omega, by omega⟩, ⟨by omega, by omega⟩, eq_s (fun h => eq_s (fun h2 => ?_) (fun h2 => lt_s (fun h3 => ?_) (fun h3 => ?_))) (fun h => eq_s (fun h2 => lt_s (fun h3 => ?_) (fun h3 => ?_)) (fun h2 => lt_s (fun h3 => ?_) (fun h3 => ?_)))⟩
  · rw [if_pos h] at g0; rw [if_pos h2] at g1
    rw [if_neg (by omega), g0] at hK; exact hK
  · rw [if_pos h] at g0; rw [if_neg h2] at g1
    rw [if_pos (by omega), g1, show decide (0 < ws.getD 32 0) = true from decide_eq_true h3] at hK; exact hK
  · rw [if_pos h] at g0; rw [if_neg h2] at g1
    rw [if_neg (by omega), g0] at hK; exact hK
  · omega
  · rw [if_neg h] at g0; rw [if_pos h2] at g1
    rw [if_neg (by omega), g0] at hK; exact hK
  · rw [if_neg h] at g0; rw [if_neg h2] at g1
    rw [if_pos (by omega), g1, show decide (0 < ws.getD 32 0) = true from decide_eq_true (by omega)] at hK; exact hK
  · rw [if_neg h] at g0; rw [if_neg h2] at g1
    rw [if_neg (by omega), g0] at hK; exact hK
theorem sound_log_live : SoundC Tryd.prog tab n_log_live c_log_live := soundC_of ok_log_live hf_log_live hB_log_live (by
  intro vs bs p v bs' h hp
  unfold c_log_live at h
  split at h
  · cases h
    exact ⟨by kernel_rfl, rfl, .inl (run_log_live _ _ hp.1 _ ⟨rfl, rfl⟩)⟩
  · cases h)

def c_log_Check : Contract := fun vs bs => match vs, bs with
  | [.agg [.dat (.list .int) ws, .dat .int fu]], [] => some (none, .one (.dat .int (checkLog ⟨ws, fu⟩)), [])
  | _, _ => none
def Γ_log_Check : Ctx := [(n_flash_Check, c_flash_Check), (n_log_live, c_log_live)]
theorem ok_log_Check : Ok Tryd.prog tab Γ_log_Check := ((ok_nil.consC hf_log_live hB_log_live sound_log_live).consC hf_flash_Check hB_flash_Check sound_flash_Check)
theorem log_Check_vc (ws : List Int) (fu : Int) (rec : List It → St → Prop) (K : V → List Blk → Prop) v0 (hv0 : v0 = (checkFlash (⟨ws, fu⟩ : Flash))) v1 (hv1 : v1 = (okWords ws)) v2 (hv2 : v2 = (liveOk ws)) v3 (hv3 : v3 = (liveG ws)) : segD Γ_log_Check tab fn_log_Check 0 K rec [.code (bodyOf fn_log_Check)] (initSt [.agg [.dat (Ty.list Ty.int) ws, .dat Ty.int fu]] []) = (
    br (!(eqi v0 (0 : Int)))
     (K (.one (.dat Ty.int v0)) [])
     (br (lti (((len ws) : Nat) : Int) (64 : Int))
       (K (.one (.dat Ty.int (4 : Int))) [])
       (((64 ≤ (len ws)) ∧ (v1 = true)) ∧
        (br (!v2)
         (K (.one (.dat Ty.int (5 : Int))) [])
         (br (lti (60000 : Int) v3)
           (K (.one (.dat Ty.int (5 : Int))) [])
           (K (.one (.dat Ty.int (0 : Int))) [])))))) := by subst hv3; subst hv2; subst hv1; subst hv0; kernel_rfl
theorem log_Check_w (ws : List Int) (fu : Int) (m : Nat) (K : V → List Blk → Prop) : goD Γ_log_Check tab fn_log_Check 0 K (m + 1) [.code (bodyOf fn_log_Check)] (initSt [.agg [.dat (Ty.list Ty.int) ws, .dat Ty.int fu]] []) = segD Γ_log_Check tab fn_log_Check 0 K (goD Γ_log_Check tab fn_log_Check 0 K m) [.code (bodyOf fn_log_Check)] (initSt [.agg [.dat (Ty.list Ty.int) ws, .dat Ty.int fu]] []) := rfl

set_option maxHeartbeats 4000000 in
theorem run_log_Check (ws : List Int) (fu : Int) (K : V → List Blk → Prop) (hK : K (.one (.dat .int (checkLog ⟨ws, fu⟩))) []) : ∃ m, goD Γ_log_Check tab fn_log_Check 0 K m [.code (bodyOf fn_log_Check)] (initSt [.agg [.dat (.list .int) ws, .dat .int fu]] []) := by
  refine ⟨1, ?_⟩
  rw [log_Check_w, log_Check_vc _ _ _ _ _ rfl _ rfl _ rfl _ rfl]
  unfold checkLog at hK
  refine ne_s (fun h => ?_) (fun h => ?_)
  · rw [if_neg h] at hK; exact hK
  rw [if_pos h] at hK
  refine lt_s (fun h2 => ?_) (fun h2 => ?_)
  · rw [if_neg (by simp only [len] at h2 ⊢; omega)] at hK; exact hK
  rw [if_pos (by simp only [len] at h2 ⊢; omega)] at hK
  refine ⟨⟨by simp only [len] at h2 ⊢; omega, (checkFlash_ok h).2.2.2⟩, nt_s (fun h3 => ?_) (fun h3 => lt_s (fun h4 => ?_) (fun h4 => ?_))⟩
  · rw [if_neg (by simp only [liveOk, decide_eq_false_iff_not] at h3 ⊢; omega)] at hK; exact hK
  · rw [if_neg (by simp only; omega)] at hK; exact hK
  · rw [if_pos (by simp only [liveOk, decide_eq_true_eq] at h3 ⊢; omega)] at hK; exact hK
theorem sound_log_Check : SoundC Tryd.prog tab n_log_Check c_log_Check := soundC_of ok_log_Check hf_log_Check hB_log_Check (by
  intro vs bs p v bs' h hp
  unfold c_log_Check at h
  split at h
  · cases h
    exact ⟨by kernel_rfl, rfl, .inl (run_log_Check _ _ _ ⟨rfl, rfl⟩)⟩
  · cases h)

def c_unit_Check : Contract := fun vs bs => match vs, bs with
  | [.agg [.dat (.list .int) ws, .dat .int fu, .dat .bool up, .dat .int un, .dat .int ug]], [] => some (none, .one (.dat .int (checkU ⟨⟨ws, fu⟩, up, un, ug⟩)), [])
  | _, _ => none
def Γ_unit_Check : Ctx := [(n_log_Check, c_log_Check)]
theorem ok_unit_Check : Ok Tryd.prog tab Γ_unit_Check := (ok_nil.consC hf_log_Check hB_log_Check sound_log_Check)
theorem unit_Check_vc (ws : List Int) (fu : Int) (up : Bool) (un : Int) (ug : Int) (rec : List It → St → Prop) (K : V → List Blk → Prop) v0 (hv0 : v0 = (checkLog (⟨ws, fu⟩ : Vm.Flash))) : segD Γ_unit_Check tab fn_unit_Check 0 K rec [.code (bodyOf fn_unit_Check)] (initSt [.agg [.dat (Ty.list Ty.int) ws, .dat Ty.int fu, .dat Ty.bool up, .dat Ty.int un, .dat Ty.int ug]] []) = (
    br (!(eqi v0 (0 : Int)))
     (K (.one (.dat Ty.int v0)) [])
     (br (!(eqi (((len ws) : Nat) : Int) (192 : Int)))
       (K (.one (.dat Ty.int (4 : Int))) [])
       (br (lti un (0 : Int))
         (K (.one (.dat Ty.int (3 : Int))) [])
         (br (lti (8 : Int) un)
           (K (.one (.dat Ty.int (3 : Int))) [])
           (br (lti ug (0 : Int))
             (K (.one (.dat Ty.int (3 : Int))) [])
             (br (lti (40 : Int) ug)
               (K (.one (.dat Ty.int (3 : Int))) [])
               (K (.one (.dat Ty.int (0 : Int))) []))))))) := by subst hv0; kernel_rfl
theorem unit_Check_w (ws : List Int) (fu : Int) (up : Bool) (un : Int) (ug : Int) (m : Nat) (K : V → List Blk → Prop) : goD Γ_unit_Check tab fn_unit_Check 0 K (m + 1) [.code (bodyOf fn_unit_Check)] (initSt [.agg [.dat (Ty.list Ty.int) ws, .dat Ty.int fu, .dat Ty.bool up, .dat Ty.int un, .dat Ty.int ug]] []) = segD Γ_unit_Check tab fn_unit_Check 0 K (goD Γ_unit_Check tab fn_unit_Check 0 K m) [.code (bodyOf fn_unit_Check)] (initSt [.agg [.dat (Ty.list Ty.int) ws, .dat Ty.int fu, .dat Ty.bool up, .dat Ty.int un, .dat Ty.int ug]] []) := rfl

set_option maxHeartbeats 4000000 in
theorem run_unit_Check (ws : List Int) (fu : Int) (up : Bool) (un ug : Int) (K : V → List Blk → Prop) (hK : K (.one (.dat .int (checkU ⟨⟨ws, fu⟩, up, un, ug⟩))) []) : ∃ m, goD Γ_unit_Check tab fn_unit_Check 0 K m [.code (bodyOf fn_unit_Check)] (initSt [.agg [.dat (.list .int) ws, .dat .int fu, .dat .bool up, .dat .int un, .dat .int ug]] []) := by
  refine ⟨1, ?_⟩
  rw [unit_Check_w, unit_Check_vc _ _ _ _ _ _ _ _ rfl]
  unfold checkU at hK
  simp only at hK
  refine ne_s (fun h => ?_) (fun h => ne_s (fun h2 => ?_) (fun h2 => lt_s (fun h3 => ?_) (fun h3 => lt_s (fun h4 => ?_) (fun h4 => lt_s (fun h5 => ?_) (fun h5 => lt_s (fun h6 => ?_) (fun h6 => ?_))))))
  · rw [if_neg h] at hK; exact hK
  · rw [if_pos h, if_neg (by simp only [len] at h2; omega)] at hK; exact hK
  all_goals rw [if_pos h, if_pos (by simp only [len] at h2; omega)] at hK
  · rw [if_pos (by omega)] at hK; exact hK
  · rw [if_pos (by omega)] at hK; exact hK
  · rw [if_pos (by omega)] at hK; exact hK
  · rw [if_pos (by omega)] at hK; exact hK
  · rw [if_neg (by omega)] at hK; exact hK
theorem sound_unit_Check : SoundC Tryd.prog tab n_unit_Check c_unit_Check := soundC_of ok_unit_Check hf_unit_Check hB_unit_Check (by
  intro vs bs p v bs' h hp
  unfold c_unit_Check at h
  split at h
  · cases h
    exact ⟨by kernel_rfl, rfl, .inl (run_unit_Check _ _ _ _ _ _ ⟨rfl, rfl⟩)⟩
  · cases h)

def c_slices_Clone_Record : Contract := fun vs bs => match vs, bs with
  | [.one (.dat (.list .int) l)], [] => some (some (len l * 8 ≤ 140737488355328), .one (.own 0), [.arr .int l])
  | _, _ => none
def Γ_slices_Clone_Record : Ctx := []
theorem ok_slices_Clone_Record : Ok Tryd.prog tab Γ_slices_Clone_Record := ok_nil
theorem slices_Clone_Record_vc (l : List Int) (rec : List It → St → Prop) (K : V → List Blk → Prop) : segO Γ_slices_Clone_Record tab fn_slices_Clone_Record 0 K rec [.code (bodyOf fn_slices_Clone_Record)] (initSt [.one (.dat (Ty.list Ty.int) l)] []) = (
    (∀ bn : Bool, (((bn = true) → ((len l) = 0)) → br bn
       (K (.one (.own 0)) [.arr Ty.int []])
       ((((0 + (len l)) * 8) ≤ 140737488355328) ∧
        (K (.one (.own 0)) [.arr Ty.int (cat [] l)]))))) := by kernel_rfl
theorem slices_Clone_Record_w (l : List Int) (m : Nat) (K : V → List Blk → Prop) : goO Γ_slices_Clone_Record tab fn_slices_Clone_Record 0 K (m + 1) [.code (bodyOf fn_slices_Clone_Record)] (initSt [.one (.dat (Ty.list Ty.int) l)] []) = segO Γ_slices_Clone_Record tab fn_slices_Clone_Record 0 K (goO Γ_slices_Clone_Record tab fn_slices_Clone_Record 0 K m) [.code (bodyOf fn_slices_Clone_Record)] (initSt [.one (.dat (Ty.list Ty.int) l)] []) := rfl

set_option maxHeartbeats 4000000 in
theorem run_slices_Clone_Record (l : List Int) (hp : len l * 8 ≤ 140737488355328) (K : V → List Blk → Prop) (hK : K (.one (.own 0)) [.arr .int l]) : ∃ m, goO Γ_slices_Clone_Record tab fn_slices_Clone_Record 0 K m [.code (bodyOf fn_slices_Clone_Record)] (initSt [.one (.dat (.list .int) l)] []) := by
  refine ⟨1, ?_⟩
  rw [slices_Clone_Record_w, slices_Clone_Record_vc _ _ _]
  intro bn hb
  refine br_split (fun h => ?_) (fun h => ⟨by simp only [len] at hp ⊢; omega, hK⟩)
  have : l = [] := List.length_eq_zero_iff.1 (hb h)
  subst this
  exact hK
theorem sound_slices_Clone_Record : SoundC Tryd.prog tab n_slices_Clone_Record c_slices_Clone_Record := soundC_of ok_slices_Clone_Record hf_slices_Clone_Record hB_slices_Clone_Record (by
  intro vs bs p v bs' h hp
  unfold c_slices_Clone_Record at h
  split at h
  · cases h
    exact ⟨by kernel_rfl, rfl, .inr (run_slices_Clone_Record _ hp.1 _ ⟨rfl, rfl⟩)⟩
  · cases h)

def c_log_scan : Contract := fun vs bs => match vs, bs with
  | [.agg [.dat (.list .int) ws, .dat .int _], .one (.dat .int sector)], [] => some (some (0 ≤ sector ∧ sector ≤ 1 ∧ 64 ≤ len ws ∧ len ws ≤ 192 ∧ okWords ws = true), .tup [.one (.dat (.list (.list .int)) (scanS ws sector.toNat).1), .one (.dat .int (nextI sector.toNat (scanS ws sector.toNat).2))], [])
  | _, _ => none
def Γ_log_scan : Ctx := [(n_slices_Clone_Record, c_slices_Clone_Record)]
theorem ok_log_scan : Ok Tryd.prog tab Γ_log_scan := (ok_nil.consC hf_slices_Clone_Record hB_slices_Clone_Record sound_slices_Clone_Record)
noncomputable def log_scan_L0 : List It := [.inLoop [7, 6, 5, 4, 1] (Code.sub (bodyOf fn_log_scan) [1, 1, 1, 0, 0, 0]), .inBlock 0, .code (Code.sub (bodyOf fn_log_scan) [1, 1, 1, 1])]
def log_scan_S0 (x0 : Int) (x1 : (List Int)) (x2 : Int) (x3 : Int) (x4 : (List (List Int))) : St := ⟨[(7, .one (.dat Ty.int x0)), (6, .one (.dat (Ty.list Ty.int) x1)), (5, .one (.dat Ty.int x2)), (4, .one (.own 0)), (1, .one (.dat Ty.int x3))], [(0, .arr (Ty.list Ty.int) x4)], 1⟩
noncomputable def log_scan_L1 : List It := [.inLoop [74, 73, 72, 7, 5, 4, 1] (Code.sub (bodyOf fn_log_scan) [1, 1, 1, 1, 0, 1, 0, 0]), .inBlock 2, .code (Code.sub (bodyOf fn_log_scan) [1, 1, 1, 1, 1])]
def log_scan_S1 (x0 : Int) (x1 : Int) (x2 : (List Int)) (x3 : Int) (x4 : Int) (x5 : Int) (x6 : (List (List Int))) : St := ⟨[(74, .one (.dat Ty.int x0)), (73, .one (.dat Ty.int x1)), (72, .one (.dat (Ty.list Ty.int) x2)), (7, .one (.dat Ty.int x3)), (5, .one (.dat Ty.int x4)), (4, .one (.own 0)), (1, .one (.dat Ty.int x5))], [(0, .arr (Ty.list Ty.int) x6)], 1⟩
theorem log_scan_vc (ws : List Int) (fu : Int) (sector : Int) (rec : List It → St → Prop) (K : V → List Blk → Prop) : segD Γ_log_scan tab fn_log_scan 0 K rec [.code (bodyOf fn_log_scan)] (initSt [.agg [.dat (Ty.list Ty.int) ws, .dat Ty.int fu], .one (.dat Ty.int sector)] []) = (
    (((0 : Int) ≤ (w64 (sector * (32 : Int)))) ∧ (((w64 (sector * (32 : Int))) ≤ (w64 ((w64 (sector + (1 : Int))) * (32 : Int)))) ∧ ((w64 ((w64 (sector + (1 : Int))) * (32 : Int))) ≤ (((len ws) : Nat) : Int)))) ∧
    (rec log_scan_L0 (log_scan_S0 (1 : Int) (slc ws (Int.toNat (w64 (sector * (32 : Int)))) (Int.toNat (w64 ((w64 (sector + (1 : Int))) * (32 : Int))))) (0 : Int) sector []))) := by kernel_rfl
theorem log_scan_w (ws : List Int) (fu : Int) (sector : Int) (m : Nat) (K : V → List Blk → Prop) : goD Γ_log_scan tab fn_log_scan 0 K (m + 1) [.code (bodyOf fn_log_scan)] (initSt [.agg [.dat (Ty.list Ty.int) ws, .dat Ty.int fu], .one (.dat Ty.int sector)] []) = segD Γ_log_scan tab fn_log_scan 0 K (goD Γ_log_scan tab fn_log_scan 0 K m) [.code (bodyOf fn_log_scan)] (initSt [.agg [.dat (Ty.list Ty.int) ws, .dat Ty.int fu], .one (.dat Ty.int sector)] []) := rfl
theorem log_scan_vc0 (x0 : Int) (x1 : (List Int)) (x2 : Int) (x3 : Int) (x4 : (List (List Int))) (rec : List It → St → Prop) (K : V → List Blk → Prop) : segD Γ_log_scan tab fn_log_scan 0 K rec (.code (Code.sub (bodyOf fn_log_scan) [1, 1, 1, 0, 0, 0]) :: log_scan_L0) (log_scan_S0 x0 x1 x2 x3 x4) = (
    br (lti x0 (((len x1) : Nat) : Int))
     ((((0 : Int) ≤ x0) ∧ (x0 < (((len x1) : Nat) : Int))) ∧
      (br (!(eqi (nth x1 (Int.toNat x0) (Ty.dflt Ty.int)) (65535 : Int)))
       ((((0 : Int) ≤ x0) ∧ (x0 < (((len x1) : Nat) : Int))) ∧
        (br (lti (xori (nth x1 (Int.toNat x0) (Ty.dflt Ty.int)) (42240 : Int)) (1 : Int))
         (K (.tup [.one (.dat (Ty.list (Ty.list Ty.int)) x4), .one (.dat Ty.int (-(1 : Int)))]) [])
         (br (lti (4 : Int) (xori (nth x1 (Int.toNat x0) (Ty.dflt Ty.int)) (42240 : Int)))
           (K (.tup [.one (.dat (Ty.list (Ty.list Ty.int)) x4), .one (.dat Ty.int (-(1 : Int)))]) [])
           (br (lti (((len x1) : Nat) : Int) (w64 ((w64 (x0 + (xori (nth x1 (Int.toNat x0) (Ty.dflt Ty.int)) (42240 : Int)))) + (1 : Int))))
             (K (.tup [.one (.dat (Ty.list (Ty.list Ty.int)) x4), .one (.dat Ty.int (-(1 : Int)))]) [])
             ((((0 : Int) ≤ (w64 (x0 + (1 : Int)))) ∧ (((w64 (x0 + (1 : Int))) ≤ (w64 ((w64 (x0 + (1 : Int))) + (xori (nth x1 (Int.toNat x0) (Ty.dflt Ty.int)) (42240 : Int))))) ∧ ((w64 ((w64 (x0 + (1 : Int))) + (xori (nth x1 (Int.toNat x0) (Ty.dflt Ty.int)) (42240 : Int)))) ≤ (((len x1) : Nat) : Int)))) ∧
              ((((len (slc x1 (Int.toNat (w64 (x0 + (1 : Int)))) (Int.toNat (w64 ((w64 (x0 + (1 : Int))) + (xori (nth x1 (Int.toNat x0) (Ty.dflt Ty.int)) (42240 : Int))))))) * 8) ≤ 140737488355328) ∧
              (((((len x4) + (len ((slc x1 (Int.toNat (w64 (x0 + (1 : Int)))) (Int.toNat (w64 ((w64 (x0 + (1 : Int))) + (xori (nth x1 (Int.toNat x0) (Ty.dflt Ty.int)) (42240 : Int)))))) :: []))) * 24) ≤ 140737488355328) ∧
              (rec log_scan_L0 (log_scan_S0 (w64 (x0 + (w64 ((xori (nth x1 (Int.toNat x0) (Ty.dflt Ty.int)) (42240 : Int)) + (1 : Int))))) x1 x2 x3 (cat x4 ((slc x1 (Int.toNat (w64 (x0 + (1 : Int)))) (Int.toNat (w64 ((w64 (x0 + (1 : Int))) + (xori (nth x1 (Int.toNat x0) (Ty.dflt Ty.int)) (42240 : Int)))))) :: [])))))))))))
       ((((0 : Int) ≤ (min x0 (((len x1) : Nat) : Int))) ∧ (((min x0 (((len x1) : Nat) : Int)) ≤ (((len x1) : Nat) : Int)) ∧ ((((len x1) : Nat) : Int) ≤ (((len x1) : Nat) : Int)))) ∧
        (rec log_scan_L1 (log_scan_S1 (0 : Int) (((len (slc x1 (Int.toNat (min x0 (((len x1) : Nat) : Int))) (Int.toNat (((len x1) : Nat) : Int)))) : Nat) : Int) (slc x1 (Int.toNat (min x0 (((len x1) : Nat) : Int))) (Int.toNat (((len x1) : Nat) : Int))) x0 x2 x3 x4)))))
     ((((0 : Int) ≤ (min x0 (((len x1) : Nat) : Int))) ∧ (((min x0 (((len x1) : Nat) : Int)) ≤ (((len x1) : Nat) : Int)) ∧ ((((len x1) : Nat) : Int) ≤ (((len x1) : Nat) : Int)))) ∧
      (rec log_scan_L1 (log_scan_S1 (0 : Int) (((len (slc x1 (Int.toNat (min x0 (((len x1) : Nat) : Int))) (Int.toNat (((len x1) : Nat) : Int)))) : Nat) : Int) (slc x1 (Int.toNat (min x0 (((len x1) : Nat) : Int))) (Int.toNat (((len x1) : Nat) : Int))) x0 x2 x3 x4)))) := by kernel_rfl
theorem log_scan_w0 (x0 : Int) (x1 : (List Int)) (x2 : Int) (x3 : Int) (x4 : (List (List Int))) (m : Nat) (K : V → List Blk → Prop) : goD Γ_log_scan tab fn_log_scan 0 K (m + 1) log_scan_L0 (log_scan_S0 x0 x1 x2 x3 x4) = segD Γ_log_scan tab fn_log_scan 0 K (goD Γ_log_scan tab fn_log_scan 0 K m) (.code (Code.sub (bodyOf fn_log_scan) [1, 1, 1, 0, 0, 0]) :: log_scan_L0) (log_scan_S0 x0 x1 x2 x3 x4) := rfl
theorem log_scan_vc1 (x0 : Int) (x1 : Int) (x2 : (List Int)) (x3 : Int) (x4 : Int) (x5 : Int) (x6 : (List (List Int))) (rec : List It → St → Prop) (K : V → List Blk → Prop) : segD Γ_log_scan tab fn_log_scan 0 K rec (.code (Code.sub (bodyOf fn_log_scan) [1, 1, 1, 1, 0, 1, 0, 0]) :: log_scan_L1) (log_scan_S1 x0 x1 x2 x3 x4 x5 x6) = (
    br (lti x0 x1)
     ((((0 : Int) ≤ x0) ∧ (x0 < (((len x2) : Nat) : Int))) ∧
      (br (!(eqi (nth x2 (Int.toNat x0) (Ty.dflt Ty.int)) (65535 : Int)))
       (K (.tup [.one (.dat (Ty.list (Ty.list Ty.int)) x6), .one (.dat Ty.int (-(1 : Int)))]) [])
       (rec log_scan_L1 (log_scan_S1 (w64 (x0 + (1 : Int))) x1 x2 x3 x4 x5 x6))))
     (K (.tup [.one (.dat (Ty.list (Ty.list Ty.int)) x6), .one (.dat Ty.int (w64 ((w64 (x5 * (32 : Int))) + x3)))]) [])) := by kernel_rfl
theorem log_scan_w1 (x0 : Int) (x1 : Int) (x2 : (List Int)) (x3 : Int) (x4 : Int) (x5 : Int) (x6 : (List (List Int))) (m : Nat) (K : V → List Blk → Prop) : goD Γ_log_scan tab fn_log_scan 0 K (m + 1) log_scan_L1 (log_scan_S1 x0 x1 x2 x3 x4 x5 x6) = segD Γ_log_scan tab fn_log_scan 0 K (goD Γ_log_scan tab fn_log_scan 0 K m) (.code (Code.sub (bodyOf fn_log_scan) [1, 1, 1, 1, 0, 1, 0, 0]) :: log_scan_L1) (log_scan_S1 x0 x1 x2 x3 x4 x5 x6) := rfl

theorem clean_log_scan (x3 x4 x5 : Int) (x6 : List (List Int)) (K : V → List Blk → Prop) (t : List Int) (ht : t.length ≤ 32)
    (hK : K (.tup [.one (.dat (.list (.list .int)) x6), .one (.dat .int (if allClean t then w64 (w64 (x5 * 32) + x3) else -1))]) []) : ∀ (d k : Nat), t.length ≤ k + d → k ≤ t.length → allClean (t.take k) = true →
    goD Γ_log_scan tab fn_log_scan 0 K (d + 1) log_scan_L1 (log_scan_S1 (k : Int) (((len t) : Nat) : Int) t x3 x4 x5 x6)
  | 0, k, hk, hk2, he => by
    rw [log_scan_w1, log_scan_vc1 _ _ _ _ _ _ _ _ _]
    rw [List.take_of_length_le (by omega)] at he
    rw [if_pos he] at hK
    exact lt_f (by simp only [len]; omega) hK
  | d + 1, k, hk, hk2, he => by
    rw [log_scan_w1, log_scan_vc1 _ _ _ _ _ _ _ _ _, toNat_nat]
    by_cases c : k = t.length
    · rw [List.take_of_length_le (by omega)] at he
      rw [if_pos he] at hK
      exact lt_f (by simp only [len]; omega) hK
    refine lt_t (by simp only [len]; omega) ⟨⟨by omega, by simp only [len]; omega⟩, ne_s (fun hne => ?_) (fun heq => ?_)⟩
    · rw [if_neg (by rw [show allClean t = false from all_false (k := k) (by omega) (Ty.dflt Ty.int) (by simpa using hne)]; simp)] at hK
      exact hK
    · rw [w64_succ (by omega)]
      exact clean_log_scan x3 x4 x5 x6 K t ht hK d (k + 1) (by omega) (by omega) (all_take_step (by omega) (Ty.dflt Ty.int) he (by simpa using heq))
theorem exit_log_scan (s : List Int) (sec : Nat) (hsec : sec ≤ 1) (hl : s.length = 32) (K : V → List Blk → Prop) (k : Nat) (hk : k ≤ 32) (acc : List (List Int)) (M : Nat)
    (hK : K (.tup [.one (.dat (.list (.list .int)) acc), .one (.dat .int (if allClean (s.drop k) then 32 * (sec : Int) + k else -1))]) []) :
    goD Γ_log_scan tab fn_log_scan 0 K (M + 33) log_scan_L1 (log_scan_S1 (0 : Int) (((len (slc s (Int.toNat (min (k : Int) (((len s) : Nat) : Int))) (Int.toNat (((len s) : Nat) : Int)))) : Nat) : Int) (slc s (Int.toNat (min (k : Int) (((len s) : Nat) : Int))) (Int.toNat (((len s) : Nat) : Int))) (k : Int) 0 (sec : Int) acc) := by
  rw [show Int.toNat (min (k : Int) (((len s) : Nat) : Int)) = k by simp only [len]; omega, show Int.toNat (((len s) : Nat) : Int) = s.length from rfl, slc_drop]
  refine clean_log_scan _ _ _ _ K (s.drop k) (by simp; omega) ?_ (M + 32) 0 (by simp; omega) (by omega) rfl
  rw [w64_id (n := (sec : Int) * 32) (by omega) (by omega), w64_id (by omega) (by omega), show (sec : Int) * 32 + (k : Int) = 32 * (sec : Int) + k by omega]
  exact hK
theorem loop_log_scan (s : List Int) (sec : Nat) (hsec : sec ≤ 1) (hl : s.length = 32) (hok : okWords s = true) (K : V → List Blk → Prop) : ∀ (m k : Nat) (acc : List (List Int)), k ≤ 32 → 32 ≤ m + k → acc.length ≤ k →
    K (.tup [.one (.dat (.list (.list .int)) (acc ++ (scanL m (s.drop k)).1)), .one (.dat .int (match (scanL m (s.drop k)).2 with | some n => 32 * (sec : Int) + k + n | none => -1))]) [] →
    goD Γ_log_scan tab fn_log_scan 0 K (m + 34) log_scan_L0 (log_scan_S0 (k : Int) s 0 (sec : Int) acc)
  | 0, k, acc, hk, hm, ha, hK => by
    have : k = 32 := by omega
    subst this
    rw [show 0 + 34 = 33 + 1 by omega, log_scan_w0, log_scan_vc0 _ _ _ _ _ _ _]
    simp only [scanL, List.append_nil] at hK
    refine lt_f (by simp only [len]; omega) ⟨⟨by simp only [len]; omega, by simp only [len]; omega, by omega⟩, exit_log_scan s sec hsec hl K 32 (by omega) acc 0 ?_⟩
    rw [List.drop_of_length_le (by omega)]
    simpa [allClean] using hK
  | m + 1, k, acc, hk, hm, ha, hK => by
    rw [show m + 1 + 34 = (m + 34) + 1 by omega, log_scan_w0, log_scan_vc0 _ _ _ _ _ _ _, toNat_nat]
    by_cases c : k = 32
    · subst c
      rw [List.drop_of_length_le (by omega)] at hK
      simp only [scanL, List.append_nil] at hK
      refine lt_f (by simp only [len]; omega) ⟨⟨by simp only [len]; omega, by simp only [len]; omega, by omega⟩, exit_log_scan s sec hsec hl K 32 (by omega) acc (m + 1) ?_⟩
      rw [List.drop_of_length_le (by omega)]
      simpa [allClean] using hK
    rw [drop_step (by omega) (Ty.dflt Ty.int)] at hK
    obtain ⟨x, hx⟩ : ∃ x, nth s k (Ty.dflt Ty.int) = x := ⟨_, rfl⟩
    have hxo : okWord x = true := hx ▸ okWords_at hok k (by omega)
    rw [hx] at hK ⊢
    simp only [scanL] at hK
    refine lt_t (by simp only [len]; omega) ⟨⟨by omega, by simp only [len]; omega⟩, ne_s (fun hne => ?_) (fun heq => ?_)⟩
    case refine_2 =>
      rw [if_pos heq] at hK
      refine ⟨⟨by simp only [len]; omega, by simp only [len]; omega, by omega⟩, exit_log_scan s sec hsec hl K k hk acc (m + 1) ?_⟩
      rw [drop_step (by omega) (Ty.dflt Ty.int), hx]
      have e : allClean (x :: s.drop (k + 1)) = allClean (s.drop (k + 1)) := by simp [allClean, heq]
      rw [e]
      cases hc : allClean (s.drop (k + 1))
      · simpa [hc] using hK
      · simpa [hc] using hK
    rw [if_neg hne] at hK
    obtain ⟨g1, g2, g3, g4⟩ := xori_head hxo
    have none' : headN x = 0 → K (.tup [.one (.dat (.list (.list .int)) acc), .one (.dat .int (-1))]) [] := fun h => by
      rw [if_pos h] at hK
      simpa using hK
    refine ⟨⟨by omega, by simp only [len]; omega⟩, lt_s (fun h1 => none' (g3 (.inl h1))) (fun h1 => lt_s (fun h2 => none' (g3 (.inr h2))) (fun h2 => ?_))⟩
    obtain ⟨e1, e2, e3⟩ := g4 h1 h2
    rw [if_neg e2] at hK
    rw [e1]
    obtain ⟨n, hn⟩ : ∃ n, headN x = n := ⟨_, rfl⟩
    rw [hn] at hK e2 e3 ⊢
    rw [w64_id (n := (k : Int) + (n : Int)) (by omega) (by omega), w64_id (n := (k : Int) + (n : Int) + 1) (by omega) (by omega), w64_id (n := (k : Int) + 1) (by omega) (by omega), w64_id (n := (k : Int) + 1 + (n : Int)) (by omega) (by omega), w64_id (n := (n : Int) + 1) (by omega) (by omega), w64_id (n := (k : Int) + ((n : Int) + 1)) (by omega) (by omega)]
    have ld : (s.drop (k + 1)).length = 31 - k := by simp; omega
    refine lt_s (fun h3 => ?_) (fun h3 => ?_)
    · rw [if_neg (by simp only [len] at h3; omega)] at hK
      simpa using hK
    · simp only [len] at h3
      rw [if_pos (by omega)] at hK
      rw [show Int.toNat ((k : Int) + 1) = k + 1 by omega, show Int.toNat ((k : Int) + 1 + (n : Int)) = k + 1 + n by omega, show (k : Int) + ((n : Int) + 1) = ((k + 1 + n : Nat) : Int) by omega]
      have es : slc s (k + 1) (k + 1 + n) = (s.drop (k + 1)).take n := by simp [slc, List.take_drop]
      rw [es]
      refine ⟨⟨by omega, by omega, by simp only [len]; omega⟩, by simp only [len, List.length_take]; omega, by simp only [len, List.length_cons, List.length_nil]; omega, ?_⟩
      refine loop_log_scan s sec hsec hl hok K m (k + 1 + n) _ (by omega) (by omega) (by simp only [cat, List.length_append, List.length_cons, List.length_nil]; omega) ?_
      rw [List.drop_drop] at hK
      have hK' := hK
      simp only [cat, List.append_assoc, List.cons_append, List.nil_append] at hK' ⊢
      cases hsc : (scanL m (s.drop (k + 1 + n))).2 with
      | none => simpa [hsc] using hK'
      | some p =>
        simp only [hsc, Option.map] at hK'
        rw [show 32 * (sec : Int) + (k : Int) + ((p + n + 1 : Nat) : Int) = 32 * (sec : Int) + ((k + 1 + n : Nat) : Int) + (p : Int) by omega] at hK'
        exact hK'
set_option maxHeartbeats 4000000 in
theorem run_log_scan (ws : List Int) (fu sector : Int) (hp : 0 ≤ sector ∧ sector ≤ 1 ∧ 64 ≤ len ws ∧ len ws ≤ 192 ∧ okWords ws = true) (K : V → List Blk → Prop) (hK : K (.tup [.one (.dat (.list (.list .int)) (scanS ws sector.toNat).1), .one (.dat .int (nextI sector.toNat (scanS ws sector.toNat).2))]) []) : ∃ m, goD Γ_log_scan tab fn_log_scan 0 K m [.code (bodyOf fn_log_scan)] (initSt [.agg [.dat (.list .int) ws, .dat .int fu], .one (.dat .int sector)] []) := by
  obtain ⟨h0, h1, h2, h3, hok⟩ := hp
  obtain ⟨sec, rfl⟩ := Int.eq_ofNat_of_zero_le h0
  refine ⟨32 + 34 + 1, ?_⟩
  rw [log_scan_w, log_scan_vc _ _ _ _ _]
  rw [w64_id (n := (sec : Int) * 32) (by omega) (by omega), w64_id (n := (sec : Int) + 1) (by omega) (by omega), w64_id (by omega) (by omega)]
  simp only [len] at h2 h3 ⊢
  refine ⟨⟨by omega, by omega, by omega⟩, ?_⟩
  rw [show Int.toNat ((sec : Int) * 32) = 32 * sec by omega, show Int.toNat (((sec : Int) + 1) * 32) = 32 * sec + 32 by omega]
  refine loop_log_scan (slc ws (32 * sec) (32 * sec + 32)) sec (by omega) (slc_len _ _ _ (by omega)) (slc_ok hok _ _) K 32 1 [] (by omega) (by omega) (by simp) ?_
  rw [toNat_nat] at hK
  unfold scanS sectorW at hK
  rw [List.nil_append]
  cases hsc : (scanL 32 ((slc ws (32 * sec) (32 * sec + 32)).drop 1)).2 with
  | none =>
    simp only [hsc, nextI] at hK
    exact hK
  | some p =>
    simp only [hsc, nextI] at hK
    exact hK
theorem sound_log_scan : SoundC Tryd.prog tab n_log_scan c_log_scan := soundC_of ok_log_scan hf_log_scan hB_log_scan (by
  intro vs bs p v bs' h hp
  unfold c_log_scan at h
  split at h
  · cases h
    exact ⟨by kernel_rfl, rfl, .inl (run_log_scan _ _ _ hp.1 _ ⟨rfl, rfl⟩)⟩
  · cases h)

def c_log_Records : Contract := fun vs bs => match vs, bs with
  | [.agg [.dat (.list .int) ws, .dat .int fu]], [] => some (none, .tup [.one (.dat (.list (.list .int)) (recordsF ⟨ws, fu⟩).1), .one (.dat .int (recordsF ⟨ws, fu⟩).2)], [])
  | _, _ => none
def Γ_log_Records : Ctx := [(n_log_Check, c_log_Check), (n_log_live, c_log_live), (n_log_scan, c_log_scan)]
theorem ok_log_Records : Ok Tryd.prog tab Γ_log_Records := (((ok_nil.consC hf_log_scan hB_log_scan sound_log_scan).consC hf_log_live hB_log_live sound_log_live).consC hf_log_Check hB_log_Check sound_log_Check)
theorem log_Records_vc (ws : List Int) (fu : Int) (rec : List It → St → Prop) (K : V → List Blk → Prop) v0 (hv0 : v0 = (checkLog (⟨ws, fu⟩ : Flash))) v1 (hv1 : v1 = (okWords ws)) v2 (hv2 : v2 = (liveS ws)) v3 (hv3 : v3 = (scanS ws (Int.toNat ((v2 : Nat) : Int)))) : segD Γ_log_Records tab fn_log_Records 0 K rec [.code (bodyOf fn_log_Records)] (initSt [.agg [.dat (Ty.list Ty.int) ws, .dat Ty.int fu]] []) = (
    br (!(eqi v0 (0 : Int)))
     (K (.tup [.one (.dat (Ty.list (Ty.list Ty.int)) []), .one (.dat Ty.int v0)]) [])
     (((64 ≤ (len ws)) ∧ (v1 = true)) ∧
      ((((0 : Int) ≤ ((v2 : Nat) : Int)) ∧ ((((v2 : Nat) : Int) ≤ (1 : Int)) ∧ ((64 ≤ (len ws)) ∧ (((len ws) ≤ 192) ∧ (v1 = true))))) ∧
      (K (.tup [.one (.dat (Ty.list (Ty.list Ty.int)) (v3).fst), .one (.dat Ty.int (0 : Int))]) [])))) := by subst hv3; subst hv2; subst hv1; subst hv0; kernel_rfl
theorem log_Records_w (ws : List Int) (fu : Int) (m : Nat) (K : V → List Blk → Prop) : goD Γ_log_Records tab fn_log_Records 0 K (m + 1) [.code (bodyOf fn_log_Records)] (initSt [.agg [.dat (Ty.list Ty.int) ws, .dat Ty.int fu]] []) = segD Γ_log_Records tab fn_log_Records 0 K (goD Γ_log_Records tab fn_log_Records 0 K m) [.code (bodyOf fn_log_Records)] (initSt [.agg [.dat (Ty.list Ty.int) ws, .dat Ty.int fu]] []) := rfl

set_option maxHeartbeats 4000000 in
theorem run_log_Records (ws : List Int) (fu : Int) (K : V → List Blk → Prop) (hK : K (.tup [.one (.dat (.list (.list .int)) (recordsF ⟨ws, fu⟩).1), .one (.dat .int (recordsF ⟨ws, fu⟩).2)]) []) : ∃ m, goD Γ_log_Records tab fn_log_Records 0 K m [.code (bodyOf fn_log_Records)] (initSt [.agg [.dat (.list .int) ws, .dat .int fu]] []) := by
  refine ⟨1, ?_⟩
  rw [log_Records_w, log_Records_vc _ _ _ _ _ rfl _ rfl _ rfl _ rfl]
  unfold recordsF at hK
  refine ne_s (fun h => ?_) (fun h => ?_)
  · rw [if_neg h] at hK; exact hK
  rw [if_pos h] at hK
  obtain ⟨k1, k2, k3, k4⟩ := checkLog_ok h
  obtain ⟨c1, c2, c3, c4⟩ := checkFlash_ok k1
  obtain ⟨c5, c6⟩ := okLen_le c1
  have := liveS_le ws
  exact ⟨⟨k2, c4⟩, ⟨by omega, by omega, k2, c6, c4⟩, hK⟩
theorem sound_log_Records : SoundC Tryd.prog tab n_log_Records c_log_Records := soundC_of ok_log_Records hf_log_Records hB_log_Records (by
  intro vs bs p v bs' h hp
  unfold c_log_Records at h
  split at h
  · cases h
    exact ⟨by kernel_rfl, rfl, .inl (run_log_Records _ _ _ ⟨rfl, rfl⟩)⟩
  · cases h)

def c_unit_state : Contract := fun vs bs => match vs, bs with
  | [.one (.dat (.list (.list .int)) l)], [] => some (some (len l ≤ 1000 ∧ nonE l = true), .agg [.dat .int (stateR l).slot, .dat .int (stateR l).by_, .dat .int (stateR l).ready], [])
  | _, _ => none
def Γ_unit_state : Ctx := []
theorem ok_unit_state : Ok Tryd.prog tab Γ_unit_state := ok_nil
noncomputable def unit_state_L0 : List It := [.inLoop [8, 7, 6, 3, 2] (Code.sub (bodyOf fn_unit_state) [1, 1, 0, 1, 0, 0]), .inBlock 0, .code (Code.sub (bodyOf fn_unit_state) [1, 1, 1])]
def unit_state_S0 (x0 : Int) (x1 : Int) (x2 : (List (List Int))) (x3 : Int) (x4 : Int) (x5 : Int) (x6 : Int) (x7 : Int) (x8 : Int) : St := ⟨[(8, .one (.dat Ty.int x0)), (7, .one (.dat Ty.int x1)), (6, .one (.dat (Ty.list (Ty.list Ty.int)) x2)), (3, .one (.ptr 0 0)), (2, .one (.ptr 1 0))], [(0, .box [.dat Ty.int x3, .dat Ty.int x4, .dat Ty.int x5]), (1, .box [.dat Ty.int x6, .dat Ty.int x7, .dat Ty.int x8])], 2⟩
theorem unit_state_vc (l : List (List Int)) (rec : List It → St → Prop) (K : V → List Blk → Prop) : segD Γ_unit_state tab fn_unit_state 0 K rec [.code (bodyOf fn_unit_state)] (initSt [.one (.dat (Ty.list (Ty.list Ty.int)) l)] []) = (
    rec unit_state_L0 (unit_state_S0 (0 : Int) (((len l) : Nat) : Int) l (0 : Int) (0 : Int) (0 : Int) (0 : Int) (0 : Int) (0 : Int))) := by kernel_rfl
theorem unit_state_w (l : List (List Int)) (m : Nat) (K : V → List Blk → Prop) : goD Γ_unit_state tab fn_unit_state 0 K (m + 1) [.code (bodyOf fn_unit_state)] (initSt [.one (.dat (Ty.list (Ty.list Ty.int)) l)] []) = segD Γ_unit_state tab fn_unit_state 0 K (goD Γ_unit_state tab fn_unit_state 0 K m) [.code (bodyOf fn_unit_state)] (initSt [.one (.dat (Ty.list (Ty.list Ty.int)) l)] []) := rfl
theorem unit_state_vc0 (x0 : Int) (x1 : Int) (x2 : (List (List Int))) (x3 : Int) (x4 : Int) (x5 : Int) (x6 : Int) (x7 : Int) (x8 : Int) (rec : List It → St → Prop) (K : V → List Blk → Prop) : segD Γ_unit_state tab fn_unit_state 0 K rec (.code (Code.sub (bodyOf fn_unit_state) [1, 1, 0, 1, 0, 0]) :: unit_state_L0) (unit_state_S0 x0 x1 x2 x3 x4 x5 x6 x7 x8) = (
    br (lti x0 x1)
     ((((0 : Int) ≤ x0) ∧ (x0 < (((len x2) : Nat) : Int))) ∧
      ((((0 : Int) ≤ (0 : Int)) ∧ ((0 : Int) < (((len (nth x2 (Int.toNat x0) (Ty.dflt (Ty.list Ty.int)))) : Nat) : Int))) ∧
      (br (eqi (nth (nth x2 (Int.toNat x0) (Ty.dflt (Ty.list Ty.int))) (Int.toNat (0 : Int)) (Ty.dflt Ty.int)) (1 : Int))
       (br (eqi (((len (nth x2 (Int.toNat x0) (Ty.dflt (Ty.list Ty.int)))) : Nat) : Int) (3 : Int))
         ((((0 : Int) ≤ (1 : Int)) ∧ ((1 : Int) < (((len (nth x2 (Int.toNat x0) (Ty.dflt (Ty.list Ty.int)))) : Nat) : Int))) ∧
          (br (lei (nth (nth x2 (Int.toNat x0) (Ty.dflt (Ty.list Ty.int))) (Int.toNat (1 : Int)) (Ty.dflt Ty.int)) (1 : Int))
           ((((0 : Int) ≤ (1 : Int)) ∧ ((1 : Int) < (((len (nth x2 (Int.toNat x0) (Ty.dflt (Ty.list Ty.int)))) : Nat) : Int))) ∧
            ((((0 : Int) ≤ (2 : Int)) ∧ ((2 : Int) < (((len (nth x2 (Int.toNat x0) (Ty.dflt (Ty.list Ty.int)))) : Nat) : Int))) ∧
            (rec unit_state_L0 (unit_state_S0 (w64 (x0 + (1 : Int))) x1 x2 (nth (nth x2 (Int.toNat x0) (Ty.dflt (Ty.list Ty.int))) (Int.toNat (1 : Int)) (Ty.dflt Ty.int)) (nth (nth x2 (Int.toNat x0) (Ty.dflt (Ty.list Ty.int))) (Int.toNat (2 : Int)) (Ty.dflt Ty.int)) (0 : Int) x6 x7 x8))))
           ((((0 : Int) ≤ (0 : Int)) ∧ ((0 : Int) < (((len (nth x2 (Int.toNat x0) (Ty.dflt (Ty.list Ty.int)))) : Nat) : Int))) ∧
            (br (eqi (nth (nth x2 (Int.toNat x0) (Ty.dflt (Ty.list Ty.int))) (Int.toNat (0 : Int)) (Ty.dflt Ty.int)) (2 : Int))
             (br (eqi (((len (nth x2 (Int.toNat x0) (Ty.dflt (Ty.list Ty.int)))) : Nat) : Int) (2 : Int))
               ((((0 : Int) ≤ (1 : Int)) ∧ ((1 : Int) < (((len (nth x2 (Int.toNat x0) (Ty.dflt (Ty.list Ty.int)))) : Nat) : Int))) ∧
                (rec unit_state_L0 (unit_state_S0 (w64 (x0 + (1 : Int))) x1 x2 x3 x4 (nth (nth x2 (Int.toNat x0) (Ty.dflt (Ty.list Ty.int))) (Int.toNat (1 : Int)) (Ty.dflt Ty.int)) x6 x7 x8)))
               ((((0 : Int) ≤ (0 : Int)) ∧ ((0 : Int) < (((len (nth x2 (Int.toNat x0) (Ty.dflt (Ty.list Ty.int)))) : Nat) : Int))) ∧
                (br (eqi (nth (nth x2 (Int.toNat x0) (Ty.dflt (Ty.list Ty.int))) (Int.toNat (0 : Int)) (Ty.dflt Ty.int)) (3 : Int))
                 (br (eqi (((len (nth x2 (Int.toNat x0) (Ty.dflt (Ty.list Ty.int)))) : Nat) : Int) (2 : Int))
                   (rec unit_state_L0 (unit_state_S0 (w64 (x0 + (1 : Int))) x1 x2 x3 x4 (0 : Int) x6 x7 x8))
                   (rec unit_state_L0 (unit_state_S0 (w64 (x0 + (1 : Int))) x1 x2 x3 x4 x5 x6 x7 x8)))
                 (rec unit_state_L0 (unit_state_S0 (w64 (x0 + (1 : Int))) x1 x2 x3 x4 x5 x6 x7 x8)))))
             ((((0 : Int) ≤ (0 : Int)) ∧ ((0 : Int) < (((len (nth x2 (Int.toNat x0) (Ty.dflt (Ty.list Ty.int)))) : Nat) : Int))) ∧
              (br (eqi (nth (nth x2 (Int.toNat x0) (Ty.dflt (Ty.list Ty.int))) (Int.toNat (0 : Int)) (Ty.dflt Ty.int)) (3 : Int))
               (br (eqi (((len (nth x2 (Int.toNat x0) (Ty.dflt (Ty.list Ty.int)))) : Nat) : Int) (2 : Int))
                 (rec unit_state_L0 (unit_state_S0 (w64 (x0 + (1 : Int))) x1 x2 x3 x4 (0 : Int) x6 x7 x8))
                 (rec unit_state_L0 (unit_state_S0 (w64 (x0 + (1 : Int))) x1 x2 x3 x4 x5 x6 x7 x8)))
               (rec unit_state_L0 (unit_state_S0 (w64 (x0 + (1 : Int))) x1 x2 x3 x4 x5 x6 x7 x8))))))))
         ((((0 : Int) ≤ (0 : Int)) ∧ ((0 : Int) < (((len (nth x2 (Int.toNat x0) (Ty.dflt (Ty.list Ty.int)))) : Nat) : Int))) ∧
          (br (eqi (nth (nth x2 (Int.toNat x0) (Ty.dflt (Ty.list Ty.int))) (Int.toNat (0 : Int)) (Ty.dflt Ty.int)) (2 : Int))
           (br (eqi (((len (nth x2 (Int.toNat x0) (Ty.dflt (Ty.list Ty.int)))) : Nat) : Int) (2 : Int))
             ((((0 : Int) ≤ (1 : Int)) ∧ ((1 : Int) < (((len (nth x2 (Int.toNat x0) (Ty.dflt (Ty.list Ty.int)))) : Nat) : Int))) ∧
              (rec unit_state_L0 (unit_state_S0 (w64 (x0 + (1 : Int))) x1 x2 x3 x4 (nth (nth x2 (Int.toNat x0) (Ty.dflt (Ty.list Ty.int))) (Int.toNat (1 : Int)) (Ty.dflt Ty.int)) x6 x7 x8)))
             ((((0 : Int) ≤ (0 : Int)) ∧ ((0 : Int) < (((len (nth x2 (Int.toNat x0) (Ty.dflt (Ty.list Ty.int)))) : Nat) : Int))) ∧
              (br (eqi (nth (nth x2 (Int.toNat x0) (Ty.dflt (Ty.list Ty.int))) (Int.toNat (0 : Int)) (Ty.dflt Ty.int)) (3 : Int))
               (br (eqi (((len (nth x2 (Int.toNat x0) (Ty.dflt (Ty.list Ty.int)))) : Nat) : Int) (2 : Int))
                 (rec unit_state_L0 (unit_state_S0 (w64 (x0 + (1 : Int))) x1 x2 x3 x4 (0 : Int) x6 x7 x8))
                 (rec unit_state_L0 (unit_state_S0 (w64 (x0 + (1 : Int))) x1 x2 x3 x4 x5 x6 x7 x8)))
               (rec unit_state_L0 (unit_state_S0 (w64 (x0 + (1 : Int))) x1 x2 x3 x4 x5 x6 x7 x8)))))
           ((((0 : Int) ≤ (0 : Int)) ∧ ((0 : Int) < (((len (nth x2 (Int.toNat x0) (Ty.dflt (Ty.list Ty.int)))) : Nat) : Int))) ∧
            (br (eqi (nth (nth x2 (Int.toNat x0) (Ty.dflt (Ty.list Ty.int))) (Int.toNat (0 : Int)) (Ty.dflt Ty.int)) (3 : Int))
             (br (eqi (((len (nth x2 (Int.toNat x0) (Ty.dflt (Ty.list Ty.int)))) : Nat) : Int) (2 : Int))
               (rec unit_state_L0 (unit_state_S0 (w64 (x0 + (1 : Int))) x1 x2 x3 x4 (0 : Int) x6 x7 x8))
               (rec unit_state_L0 (unit_state_S0 (w64 (x0 + (1 : Int))) x1 x2 x3 x4 x5 x6 x7 x8)))
             (rec unit_state_L0 (unit_state_S0 (w64 (x0 + (1 : Int))) x1 x2 x3 x4 x5 x6 x7 x8)))))))
       ((((0 : Int) ≤ (0 : Int)) ∧ ((0 : Int) < (((len (nth x2 (Int.toNat x0) (Ty.dflt (Ty.list Ty.int)))) : Nat) : Int))) ∧
        (br (eqi (nth (nth x2 (Int.toNat x0) (Ty.dflt (Ty.list Ty.int))) (Int.toNat (0 : Int)) (Ty.dflt Ty.int)) (2 : Int))
         (br (eqi (((len (nth x2 (Int.toNat x0) (Ty.dflt (Ty.list Ty.int)))) : Nat) : Int) (2 : Int))
           ((((0 : Int) ≤ (1 : Int)) ∧ ((1 : Int) < (((len (nth x2 (Int.toNat x0) (Ty.dflt (Ty.list Ty.int)))) : Nat) : Int))) ∧
            (rec unit_state_L0 (unit_state_S0 (w64 (x0 + (1 : Int))) x1 x2 x3 x4 (nth (nth x2 (Int.toNat x0) (Ty.dflt (Ty.list Ty.int))) (Int.toNat (1 : Int)) (Ty.dflt Ty.int)) x6 x7 x8)))
           ((((0 : Int) ≤ (0 : Int)) ∧ ((0 : Int) < (((len (nth x2 (Int.toNat x0) (Ty.dflt (Ty.list Ty.int)))) : Nat) : Int))) ∧
            (br (eqi (nth (nth x2 (Int.toNat x0) (Ty.dflt (Ty.list Ty.int))) (Int.toNat (0 : Int)) (Ty.dflt Ty.int)) (3 : Int))
             (br (eqi (((len (nth x2 (Int.toNat x0) (Ty.dflt (Ty.list Ty.int)))) : Nat) : Int) (2 : Int))
               (rec unit_state_L0 (unit_state_S0 (w64 (x0 + (1 : Int))) x1 x2 x3 x4 (0 : Int) x6 x7 x8))
               (rec unit_state_L0 (unit_state_S0 (w64 (x0 + (1 : Int))) x1 x2 x3 x4 x5 x6 x7 x8)))
             (rec unit_state_L0 (unit_state_S0 (w64 (x0 + (1 : Int))) x1 x2 x3 x4 x5 x6 x7 x8)))))
         ((((0 : Int) ≤ (0 : Int)) ∧ ((0 : Int) < (((len (nth x2 (Int.toNat x0) (Ty.dflt (Ty.list Ty.int)))) : Nat) : Int))) ∧
          (br (eqi (nth (nth x2 (Int.toNat x0) (Ty.dflt (Ty.list Ty.int))) (Int.toNat (0 : Int)) (Ty.dflt Ty.int)) (3 : Int))
           (br (eqi (((len (nth x2 (Int.toNat x0) (Ty.dflt (Ty.list Ty.int)))) : Nat) : Int) (2 : Int))
             (rec unit_state_L0 (unit_state_S0 (w64 (x0 + (1 : Int))) x1 x2 x3 x4 (0 : Int) x6 x7 x8))
             (rec unit_state_L0 (unit_state_S0 (w64 (x0 + (1 : Int))) x1 x2 x3 x4 x5 x6 x7 x8)))
           (rec unit_state_L0 (unit_state_S0 (w64 (x0 + (1 : Int))) x1 x2 x3 x4 x5 x6 x7 x8)))))))))
     (K (.agg [.dat Ty.int x3, .dat Ty.int x4, .dat Ty.int x5]) [])) := by kernel_rfl
theorem unit_state_w0 (x0 : Int) (x1 : Int) (x2 : (List (List Int))) (x3 : Int) (x4 : Int) (x5 : Int) (x6 : Int) (x7 : Int) (x8 : Int) (m : Nat) (K : V → List Blk → Prop) : goD Γ_unit_state tab fn_unit_state 0 K (m + 1) unit_state_L0 (unit_state_S0 x0 x1 x2 x3 x4 x5 x6 x7 x8) = segD Γ_unit_state tab fn_unit_state 0 K (goD Γ_unit_state tab fn_unit_state 0 K m) (.code (Code.sub (bodyOf fn_unit_state) [1, 1, 0, 1, 0, 0]) :: unit_state_L0) (unit_state_S0 x0 x1 x2 x3 x4 x5 x6 x7 x8) := rfl

theorem loop_unit_state (l : List (List Int)) (hl : l.length ≤ 1000) (hn : nonE l = true) (K : V → List Blk → Prop) (x6 x7 x8 : Int) : ∀ (d k : Nat) (a b c : Int), k + d = l.length → K (.agg [.dat .int ((l.drop k).foldl stepR ⟨a, b, c⟩).slot, .dat .int ((l.drop k).foldl stepR ⟨a, b, c⟩).by_, .dat .int ((l.drop k).foldl stepR ⟨a, b, c⟩).ready]) [] →
    goD Γ_unit_state tab fn_unit_state 0 K (d + 1) unit_state_L0 (unit_state_S0 (k : Int) (((len l) : Nat) : Int) l a b c x6 x7 x8)
  | 0, k, a, b, c, hk, hK => by
    rw [unit_state_w0, unit_state_vc0 _ _ _ _ _ _ _ _ _ _ _]
    rw [List.drop_of_length_le (by omega)] at hK
    exact lt_f (by simp only [len]; omega) hK
  | d + 1, k, a, b, c, hk, hK => by
    rw [unit_state_w0, unit_state_vc0 _ _ _ _ _ _ _ _ _ _ _, toNat_nat]
    have hm : nth l k (Ty.dflt (Ty.list Ty.int)) ∈ l := by
      have : k < l.length := by omega
      simp [nth, List.getD_eq_getElem?_getD, this]
    have h0 : 0 < (nth l k (Ty.dflt (Ty.list Ty.int))).length := by simpa using List.all_eq_true.1 hn _ hm
    rw [drop_step (by omega) (Ty.dflt (Ty.list Ty.int))] at hK
    obtain ⟨r, hr⟩ : ∃ r, nth l k (Ty.dflt (Ty.list Ty.int)) = r := ⟨_, rfl⟩
    rw [hr] at hK h0 ⊢
    rw [List.foldl_cons] at hK
    have ek : w64 ((k : Int) + 1) = ((k + 1 : Nat) : Int) := w64_succ (by omega)
    rw [ek]
    have nx : ∀ a' b' c' : Int, stepR ⟨a, b, c⟩ r = ⟨a', b', c'⟩ → goD Γ_unit_state tab fn_unit_state 0 K (d + 1) unit_state_L0 (unit_state_S0 ((k + 1 : Nat) : Int) (((len l) : Nat) : Int) l a' b' c' x6 x7 x8) := fun a' b' c' e => by
      rw [e] at hK
      exact loop_unit_state l hl hn K x6 x7 x8 d (k + 1) a' b' c' (by omega) hK
    obtain ⟨u0, e0⟩ : ∃ u0, r.getD 0 0 = u0 := ⟨_, rfl⟩
    obtain ⟨u1, e1⟩ : ∃ u1, r.getD 1 0 = u1 := ⟨_, rfl⟩
    obtain ⟨u2, e2⟩ : ∃ u2, r.getD 2 0 = u2 := ⟨_, rfl⟩
    have es : stepR ⟨a, b, c⟩ r = if u0 = 1 ∧ r.length = 3 ∧ u1 ≤ 1 then ⟨u1, u2, 0⟩ else if u0 = 2 ∧ r.length = 2 then ⟨a, b, u1⟩ else if u0 = 3 ∧ r.length = 2 then ⟨a, b, 0⟩ else ⟨a, b, c⟩ := by
      unfold stepR; rw [e0, e1, e2]
    rw [show nth r (Int.toNat 0) (Ty.dflt Ty.int) = u0 from e0, show nth r (Int.toNat 1) (Ty.dflt Ty.int) = u1 from e1, show nth r (Int.toNat 2) (Ty.dflt Ty.int) = u2 from e2]
    have hlen : len r = r.length := rfl
    rw [hlen]
    rw [es] at nx
    clear hK es
    refine lt_t (by simp only [len]; omega) ⟨⟨by omega, by simp only [len]; omega⟩, ⟨by omega, by omega⟩, ?_⟩
    by_cases c1 : u0 = 1
    · refine eq_t c1 (eq_s (fun h2 => ⟨⟨by omega, by omega⟩, br_split (fun h3 => ?_) (fun h3 => ?_)⟩) (fun h2 => ?_))
      · rw [lei_true] at h3
        exact ⟨⟨by omega, by omega⟩, ⟨by omega, by omega⟩, nx _ _ _ (if_pos ⟨c1, by omega, h3⟩)⟩
      · rw [lei_false] at h3
        exact ⟨⟨by omega, by omega⟩, eq_f (by omega) ⟨⟨by omega, by omega⟩, eq_f (by omega) (nx _ _ _ (by rw [if_neg (by omega), if_neg (by omega), if_neg (by omega)]))⟩⟩
      · exact ⟨⟨by omega, by omega⟩, eq_f (by omega) ⟨⟨by omega, by omega⟩, eq_f (by omega) (nx _ _ _ (by rw [if_neg (by omega), if_neg (by omega), if_neg (by omega)]))⟩⟩
    · refine eq_f c1 ⟨⟨by omega, by omega⟩, ?_⟩
      by_cases c2 : u0 = 2
      · refine eq_t c2 (eq_s (fun h2 => ⟨⟨by omega, by omega⟩, nx _ _ _ (by rw [if_neg (by omega), if_pos (by omega)])⟩) (fun h2 => ⟨⟨by omega, by omega⟩, eq_f (by omega) (nx _ _ _ (by rw [if_neg (by omega), if_neg (by omega), if_neg (by omega)]))⟩))
      · refine eq_f c2 ⟨⟨by omega, by omega⟩, eq_s (fun h3 => eq_s (fun h4 => nx _ _ _ (by rw [if_neg (by omega), if_neg (by omega), if_pos (by omega)])) (fun h4 => nx _ _ _ (by rw [if_neg (by omega), if_neg (by omega), if_neg (by omega)]))) (fun h3 => nx _ _ _ (by rw [if_neg (by omega), if_neg (by omega), if_neg (by omega)]))⟩
set_option maxHeartbeats 4000000 in
theorem run_unit_state (l : List (List Int)) (hp : len l ≤ 1000 ∧ nonE l = true) (K : V → List Blk → Prop) (hK : K (.agg [.dat .int (stateR l).slot, .dat .int (stateR l).by_, .dat .int (stateR l).ready]) []) : ∃ m, goD Γ_unit_state tab fn_unit_state 0 K m [.code (bodyOf fn_unit_state)] (initSt [.one (.dat (.list (.list .int)) l)] []) := by
  refine ⟨l.length + 2, ?_⟩
  rw [unit_state_w, unit_state_vc _ _ _]
  exact loop_unit_state l hp.1 hp.2 K 0 0 0 l.length 0 0 0 0 (by omega) hK
theorem sound_unit_state : SoundC Tryd.prog tab n_unit_state c_unit_state := soundC_of ok_unit_state hf_unit_state hB_unit_state (by
  intro vs bs p v bs' h hp
  unfold c_unit_state at h
  split at h
  · cases h
    exact ⟨by kernel_rfl, rfl, .inl (run_unit_state _ hp.1 _ ⟨rfl, rfl⟩)⟩
  · cases h)

def c_unit_of : Contract := fun vs bs => match vs, bs with
  | [.agg [.dat (.list .int) ws, .dat .int fu, .dat .bool _, .dat .int _, .dat .int _]], [] => some (none, .agg [.dat .int (ofU ⟨ws, fu⟩).slot, .dat .int (ofU ⟨ws, fu⟩).by_, .dat .int (ofU ⟨ws, fu⟩).ready], [])
  | _, _ => none
def Γ_unit_of : Ctx := [(n_log_Records, c_log_Records), (n_unit_state, c_unit_state)]
theorem ok_unit_of : Ok Tryd.prog tab Γ_unit_of := ((ok_nil.consC hf_unit_state hB_unit_state sound_unit_state).consC hf_log_Records hB_log_Records sound_log_Records)
theorem unit_of_vc (ws : List Int) (fu : Int) (up : Bool) (un : Int) (ug : Int) (rec : List It → St → Prop) (K : V → List Blk → Prop) v0 (hv0 : v0 = (recordsF (⟨ws, fu⟩ : Vm.Flash))) v1 (hv1 : v1 = (nonE (v0).fst)) v2 (hv2 : v2 = (stateR (v0).fst)) : segD Γ_unit_of tab fn_unit_of 0 K rec [.code (bodyOf fn_unit_of)] (initSt [.agg [.dat (Ty.list Ty.int) ws, .dat Ty.int fu, .dat Ty.bool up, .dat Ty.int un, .dat Ty.int ug]] []) = (
    (((len (v0).fst) ≤ 1000) ∧ (v1 = true)) ∧
    (K (.agg [.dat Ty.int (v2).slot, .dat Ty.int (v2).by_, .dat Ty.int (v2).ready]) [])) := by subst hv2; subst hv1; subst hv0; kernel_rfl
theorem unit_of_w (ws : List Int) (fu : Int) (up : Bool) (un : Int) (ug : Int) (m : Nat) (K : V → List Blk → Prop) : goD Γ_unit_of tab fn_unit_of 0 K (m + 1) [.code (bodyOf fn_unit_of)] (initSt [.agg [.dat (Ty.list Ty.int) ws, .dat Ty.int fu, .dat Ty.bool up, .dat Ty.int un, .dat Ty.int ug]] []) = segD Γ_unit_of tab fn_unit_of 0 K (goD Γ_unit_of tab fn_unit_of 0 K m) [.code (bodyOf fn_unit_of)] (initSt [.agg [.dat (Ty.list Ty.int) ws, .dat Ty.int fu, .dat Ty.bool up, .dat Ty.int un, .dat Ty.int ug]] []) := rfl

set_option maxHeartbeats 4000000 in
theorem run_unit_of (ws : List Int) (fu : Int) (up : Bool) (un ug : Int) (K : V → List Blk → Prop) (hK : K (.agg [.dat .int (ofU ⟨ws, fu⟩).slot, .dat .int (ofU ⟨ws, fu⟩).by_, .dat .int (ofU ⟨ws, fu⟩).ready]) []) : ∃ m, goD Γ_unit_of tab fn_unit_of 0 K m [.code (bodyOf fn_unit_of)] (initSt [.agg [.dat (.list .int) ws, .dat .int fu, .dat .bool up, .dat .int un, .dat .int ug]] []) := by
  refine ⟨1, ?_⟩
  rw [unit_of_w, unit_of_vc _ _ _ _ _ _ _ _ rfl _ rfl _ rfl]
  have h := recordsF_ok2 ⟨ws, fu⟩
  exact ⟨⟨by simp only [len]; omega, nonE_of h.2⟩, hK⟩
theorem sound_unit_of : SoundC Tryd.prog tab n_unit_of c_unit_of := soundC_of ok_unit_of hf_unit_of hB_unit_of (by
  intro vs bs p v bs' h hp
  unfold c_unit_of at h
  split at h
  · cases h
    exact ⟨by kernel_rfl, rfl, .inl (run_unit_of _ _ _ _ _ _ ⟨rfl, rfl⟩)⟩
  · cases h)

def c_unit_Read : Contract := fun vs bs => match vs, bs with
  | [.agg [.dat (.list .int) ws, .dat .int fu, .dat .bool up, .dat .int un, .dat .int ug]], [] => some (none, .tup [.agg [.dat .int (readU ⟨⟨ws, fu⟩, up, un, ug⟩).1.slot, .dat .int (readU ⟨⟨ws, fu⟩, up, un, ug⟩).1.by_, .dat .int (readU ⟨⟨ws, fu⟩, up, un, ug⟩).1.ready], .one (.dat .int (readU ⟨⟨ws, fu⟩, up, un, ug⟩).2)], [])
  | _, _ => none
def Γ_unit_Read : Ctx := [(n_unit_Check, c_unit_Check), (n_unit_of, c_unit_of)]
theorem ok_unit_Read : Ok Tryd.prog tab Γ_unit_Read := ((ok_nil.consC hf_unit_of hB_unit_of sound_unit_of).consC hf_unit_Check hB_unit_Check sound_unit_Check)
theorem unit_Read_vc (ws : List Int) (fu : Int) (up : Bool) (un : Int) (ug : Int) (rec : List It → St → Prop) (K : V → List Blk → Prop) v0 (hv0 : v0 = (checkU (⟨(⟨ws, fu⟩ : Vm.Flash), up, un, ug⟩ : Vm.UnitD))) v1 (hv1 : v1 = (ofU (⟨ws, fu⟩ : Vm.Flash))) : segD Γ_unit_Read tab fn_unit_Read 0 K rec [.code (bodyOf fn_unit_Read)] (initSt [.agg [.dat (Ty.list Ty.int) ws, .dat Ty.int fu, .dat Ty.bool up, .dat Ty.int un, .dat Ty.int ug]] []) = (
    br (!(eqi v0 (0 : Int)))
     (K (.tup [.agg [.dat Ty.int (0 : Int), .dat Ty.int (0 : Int), .dat Ty.int (0 : Int)], .one (.dat Ty.int v0)]) [])
     (K (.tup [.agg [.dat Ty.int (v1).slot, .dat Ty.int (v1).by_, .dat Ty.int (v1).ready], .one (.dat Ty.int (0 : Int))]) [])) := by subst hv1; subst hv0; kernel_rfl
theorem unit_Read_w (ws : List Int) (fu : Int) (up : Bool) (un : Int) (ug : Int) (m : Nat) (K : V → List Blk → Prop) : goD Γ_unit_Read tab fn_unit_Read 0 K (m + 1) [.code (bodyOf fn_unit_Read)] (initSt [.agg [.dat (Ty.list Ty.int) ws, .dat Ty.int fu, .dat Ty.bool up, .dat Ty.int un, .dat Ty.int ug]] []) = segD Γ_unit_Read tab fn_unit_Read 0 K (goD Γ_unit_Read tab fn_unit_Read 0 K m) [.code (bodyOf fn_unit_Read)] (initSt [.agg [.dat (Ty.list Ty.int) ws, .dat Ty.int fu, .dat Ty.bool up, .dat Ty.int un, .dat Ty.int ug]] []) := rfl

set_option maxHeartbeats 4000000 in
theorem run_unit_Read (ws : List Int) (fu : Int) (up : Bool) (un ug : Int) (K : V → List Blk → Prop) (hK : K (.tup [.agg [.dat .int (readU ⟨⟨ws, fu⟩, up, un, ug⟩).1.slot, .dat .int (readU ⟨⟨ws, fu⟩, up, un, ug⟩).1.by_, .dat .int (readU ⟨⟨ws, fu⟩, up, un, ug⟩).1.ready], .one (.dat .int (readU ⟨⟨ws, fu⟩, up, un, ug⟩).2)]) []) : ∃ m, goD Γ_unit_Read tab fn_unit_Read 0 K m [.code (bodyOf fn_unit_Read)] (initSt [.agg [.dat (.list .int) ws, .dat .int fu, .dat .bool up, .dat .int un, .dat .int ug]] []) := by
  refine ⟨1, ?_⟩
  rw [unit_Read_w, unit_Read_vc _ _ _ _ _ _ _ _ rfl _ rfl]
  unfold readU at hK
  refine ne_s (fun h => ?_) (fun h => ?_)
  · rw [if_neg h] at hK; exact hK
  · rw [if_pos h] at hK; exact hK
theorem sound_unit_Read : SoundC Tryd.prog tab n_unit_Read c_unit_Read := soundC_of ok_unit_Read hf_unit_Read hB_unit_Read (by
  intro vs bs p v bs' h hp
  unfold c_unit_Read at h
  split at h
  · cases h
    exact ⟨by kernel_rfl, rfl, .inl (run_unit_Read _ _ _ _ _ _ ⟨rfl, rfl⟩)⟩
  · cases h)

def c_meta_CheckImage : Contract := fun vs bs => match vs, bs with
  | [.one (.dat (.list .int) l)], [] => some (none, .one (.dat .int (checkImage l)), [])
  | _, _ => none
def Γ_meta_CheckImage : Ctx := []
theorem ok_meta_CheckImage : Ok Tryd.prog tab Γ_meta_CheckImage := ok_nil
noncomputable def meta_CheckImage_L0 : List It := [.inLoop [15, 14, 13, 2] (Code.sub (bodyOf fn_meta_CheckImage) [1, 1, 0, 1, 0, 0]), .inBlock 0, .code (Code.sub (bodyOf fn_meta_CheckImage) [1, 1, 1])]
def meta_CheckImage_S0 (x0 : Int) (x1 : Int) (x2 : (List Int)) (x3 : Int) : St := ⟨[(15, .one (.dat Ty.int x0)), (14, .one (.dat Ty.int x1)), (13, .one (.dat (Ty.list Ty.int) x2)), (2, .one (.dat Ty.int x3))], [], 0⟩
theorem meta_CheckImage_vc (l : List Int) (rec : List It → St → Prop) (K : V → List Blk → Prop) : segD Γ_meta_CheckImage tab fn_meta_CheckImage 0 K rec [.code (bodyOf fn_meta_CheckImage)] (initSt [.one (.dat (Ty.list Ty.int) l)] []) = (
    br (eqi (((len l) : Nat) : Int) (0 : Int))
     (K (.one (.dat Ty.int (2 : Int))) [])
     (br (lti (40 : Int) (((len l) : Nat) : Int))
       (K (.one (.dat Ty.int (2 : Int))) [])
       (rec meta_CheckImage_L0 (meta_CheckImage_S0 (0 : Int) (((len l) : Nat) : Int) l (0 : Int))))) := by kernel_rfl
theorem meta_CheckImage_w (l : List Int) (m : Nat) (K : V → List Blk → Prop) : goD Γ_meta_CheckImage tab fn_meta_CheckImage 0 K (m + 1) [.code (bodyOf fn_meta_CheckImage)] (initSt [.one (.dat (Ty.list Ty.int) l)] []) = segD Γ_meta_CheckImage tab fn_meta_CheckImage 0 K (goD Γ_meta_CheckImage tab fn_meta_CheckImage 0 K m) [.code (bodyOf fn_meta_CheckImage)] (initSt [.one (.dat (Ty.list Ty.int) l)] []) := rfl
theorem meta_CheckImage_vc0 (x0 : Int) (x1 : Int) (x2 : (List Int)) (x3 : Int) (rec : List It → St → Prop) (K : V → List Blk → Prop) : segD Γ_meta_CheckImage tab fn_meta_CheckImage 0 K rec (.code (Code.sub (bodyOf fn_meta_CheckImage) [1, 1, 0, 1, 0, 0]) :: meta_CheckImage_L0) (meta_CheckImage_S0 x0 x1 x2 x3) = (
    br (lti x0 x1)
     ((((0 : Int) ≤ x0) ∧ (x0 < (((len x2) : Nat) : Int))) ∧
      (br (lti (nth x2 (Int.toNat x0) (Ty.dflt Ty.int)) (0 : Int))
       (K (.one (.dat Ty.int (3 : Int))) [])
       (br (lti (65535 : Int) (nth x2 (Int.toNat x0) (Ty.dflt Ty.int)))
         (K (.one (.dat Ty.int (3 : Int))) [])
         (rec meta_CheckImage_L0 (meta_CheckImage_S0 (w64 (x0 + (1 : Int))) x1 x2 x3)))))
     (K (.one (.dat Ty.int (0 : Int))) [])) := by kernel_rfl
theorem meta_CheckImage_w0 (x0 : Int) (x1 : Int) (x2 : (List Int)) (x3 : Int) (m : Nat) (K : V → List Blk → Prop) : goD Γ_meta_CheckImage tab fn_meta_CheckImage 0 K (m + 1) meta_CheckImage_L0 (meta_CheckImage_S0 x0 x1 x2 x3) = segD Γ_meta_CheckImage tab fn_meta_CheckImage 0 K (goD Γ_meta_CheckImage tab fn_meta_CheckImage 0 K m) (.code (Code.sub (bodyOf fn_meta_CheckImage) [1, 1, 0, 1, 0, 0]) :: meta_CheckImage_L0) (meta_CheckImage_S0 x0 x1 x2 x3) := rfl

theorem loop_meta_CheckImage (ws : List Int) (hl : ws.length ≤ 40) (K : V → List Blk → Prop) (hK : K (.one (.dat .int (if okWords ws then 0 else 3))) []) : ∀ (d k : Nat), k + d = ws.length → okWords (ws.take k) = true →
    goD Γ_meta_CheckImage tab fn_meta_CheckImage 0 K (d + 1) meta_CheckImage_L0 (meta_CheckImage_S0 (k : Int) (((len ws) : Nat) : Int) ws (0 : Int))
  | 0, k, hk, he => by
    rw [meta_CheckImage_w0, meta_CheckImage_vc0 _ _ _ _ _ _]
    refine lt_f (by simp only [len]; omega) ?_
    rw [List.take_of_length_le (by omega)] at he
    rw [if_pos he] at hK
    exact hK
  | d + 1, k, hk, he => by
    rw [meta_CheckImage_w0, meta_CheckImage_vc0 _ _ _ _ _ _]
    have bad : okWord (nth ws k (Ty.dflt Ty.int)) = false → K (.one (.dat .int 3)) [] := fun h => by
      rw [show okWords ws = false from all_false (k := k) (by omega) _ h] at hK; exact hK
    refine lt_t (by simp only [len]; omega) ⟨⟨by omega, by simp only [len]; omega⟩, lt_s (fun h => ?_) (fun h => lt_s (fun h2 => ?_) (fun h2 => ?_))⟩
    · rw [toNat_nat] at h
      exact bad (by simp only [okWord, Bool.and_eq_false_iff, decide_eq_false_iff_not]; exact .inl (by omega))
    · rw [toNat_nat] at h2
      exact bad (by simp only [okWord, Bool.and_eq_false_iff, decide_eq_false_iff_not]; exact .inr (by omega))
    · rw [w64_succ (by omega)]
      rw [toNat_nat] at h h2
      exact loop_meta_CheckImage ws hl K hK d (k + 1) (by omega) (all_take_step (by omega) (Ty.dflt Ty.int) he (by simp [okWord, h, h2]))
set_option maxHeartbeats 4000000 in
theorem run_meta_CheckImage (l : List Int) (K : V → List Blk → Prop) (hK : K (.one (.dat .int (checkImage l))) []) : ∃ m, goD Γ_meta_CheckImage tab fn_meta_CheckImage 0 K m [.code (bodyOf fn_meta_CheckImage)] (initSt [.one (.dat (.list .int) l)] []) := by
  refine ⟨l.length + 2, ?_⟩
  rw [meta_CheckImage_w, meta_CheckImage_vc _ _ _]
  unfold checkImage at hK
  refine eq_s (fun h => ?_) (fun h => lt_s (fun h2 => ?_) (fun h2 => ?_))
  · rw [if_pos (by simp only [len] at h; omega)] at hK; exact hK
  · rw [if_pos (by simp only [len] at h2; omega)] at hK; exact hK
  · rw [if_neg (by simp only [len] at h h2; omega)] at hK
    exact loop_meta_CheckImage l (by simp only [len] at h2; omega) K hK l.length 0 (by omega) rfl
theorem sound_meta_CheckImage : SoundC Tryd.prog tab n_meta_CheckImage c_meta_CheckImage := soundC_of ok_meta_CheckImage hf_meta_CheckImage hB_meta_CheckImage (by
  intro vs bs p v bs' h hp
  unfold c_meta_CheckImage at h
  split at h
  · cases h
    exact ⟨by kernel_rfl, rfl, .inl (run_meta_CheckImage _ _ ⟨rfl, rfl⟩)⟩
  · cases h)

def c_meta_list : Contract := fun vs bs => match vs, bs with
  | [.one (.dat (.list .int) l)], [] => some (some (len l ≤ 1000 ∧ nums l = true), .one (.dat .str (listT l)), [])
  | _, _ => none
def Γ_meta_list : Ctx := [(n_strconv_Itoa, c_strconv_Itoa), (n_strings_Join, c_strings_Join)]
theorem ok_meta_list : Ok Tryd.prog tab Γ_meta_list := ((ok_nil.consC hf_strings_Join hB_strings_Join sound_strings_Join).consC hf_strconv_Itoa hB_strconv_Itoa sound_strconv_Itoa)
noncomputable def meta_list_L0 : List It := [.inLoop [8, 7, 6, 3, 2] (Code.sub (bodyOf fn_meta_list) [1, 1, 0, 1, 0, 0]), .inBlock 0, .code (Code.sub (bodyOf fn_meta_list) [1, 1, 1])]
def meta_list_S0 (x0 : Int) (x1 : Int) (x2 : (List Int)) (x3 : (List UInt8)) (x4 : (List (List UInt8))) : St := ⟨[(8, .one (.dat Ty.int x0)), (7, .one (.dat Ty.int x1)), (6, .one (.dat (Ty.list Ty.int) x2)), (3, .one (.own 0)), (2, .one (.dat Ty.str x3))], [(0, .arr Ty.str x4)], 1⟩
theorem meta_list_vc (l : List Int) (rec : List It → St → Prop) (K : V → List Blk → Prop) : segD Γ_meta_list tab fn_meta_list 0 K rec [.code (bodyOf fn_meta_list)] (initSt [.one (.dat (Ty.list Ty.int) l)] []) = (
    rec meta_list_L0 (meta_list_S0 (0 : Int) (((len l) : Nat) : Int) l [] [])) := by kernel_rfl
theorem meta_list_w (l : List Int) (m : Nat) (K : V → List Blk → Prop) : goD Γ_meta_list tab fn_meta_list 0 K (m + 1) [.code (bodyOf fn_meta_list)] (initSt [.one (.dat (Ty.list Ty.int) l)] []) = segD Γ_meta_list tab fn_meta_list 0 K (goD Γ_meta_list tab fn_meta_list 0 K m) [.code (bodyOf fn_meta_list)] (initSt [.one (.dat (Ty.list Ty.int) l)] []) := rfl
theorem meta_list_vc0 (x0 : Int) (x1 : Int) (x2 : (List Int)) (x3 : (List UInt8)) (x4 : (List (List UInt8))) (rec : List It → St → Prop) (K : V → List Blk → Prop) v0 (hv0 : v0 = (numT (nth x2 (Int.toNat x0) (Ty.dflt Ty.int)))) v1 (hv1 : v1 = (joinT ((32 : UInt8) :: []) x4)) : segD Γ_meta_list tab fn_meta_list 0 K rec (.code (Code.sub (bodyOf fn_meta_list) [1, 1, 0, 1, 0, 0]) :: meta_list_L0) (meta_list_S0 x0 x1 x2 x3 x4) = (
    br (lti x0 x1)
     ((((0 : Int) ≤ x0) ∧ (x0 < (((len x2) : Nat) : Int))) ∧
      ((((0 : Int) ≤ (nth x2 (Int.toNat x0) (Ty.dflt Ty.int))) ∧ ((nth x2 (Int.toNat x0) (Ty.dflt Ty.int)) ≤ (9223372036854775807 : Int))) ∧
      (((((len x4) + (len (v0 :: []))) * 16) ≤ 140737488355328) ∧
      (rec meta_list_L0 (meta_list_S0 (w64 (x0 + (1 : Int))) x1 x2 x3 (cat x4 (v0 :: [])))))))
     ((((List.length x4) ≤ 140737488355328) ∧ ((List.length v1) ≤ 140737488355328)) ∧
      (K (.one (.dat Ty.str v1)) []))) := by subst hv1; subst hv0; kernel_rfl
theorem meta_list_w0 (x0 : Int) (x1 : Int) (x2 : (List Int)) (x3 : (List UInt8)) (x4 : (List (List UInt8))) (m : Nat) (K : V → List Blk → Prop) : goD Γ_meta_list tab fn_meta_list 0 K (m + 1) meta_list_L0 (meta_list_S0 x0 x1 x2 x3 x4) = segD Γ_meta_list tab fn_meta_list 0 K (goD Γ_meta_list tab fn_meta_list 0 K m) (.code (Code.sub (bodyOf fn_meta_list) [1, 1, 0, 1, 0, 0]) :: meta_list_L0) (meta_list_S0 x0 x1 x2 x3 x4) := rfl

theorem loop_meta_list (l : List Int) (hl : l.length ≤ 1000) (hn : nums l = true) (K : V → List Blk → Prop) (hK : K (.one (.dat .str (listT l))) []) (y : List UInt8) : ∀ (d k : Nat), k + d = l.length →
    goD Γ_meta_list tab fn_meta_list 0 K (d + 1) meta_list_L0 (meta_list_S0 (k : Int) (((len l) : Nat) : Int) l y ((l.take k).map numT))
  | 0, k, hk => by
    rw [meta_list_w0, meta_list_vc0 _ _ _ _ _ _ _ _ rfl _ rfl, List.take_of_length_le (by omega)]
    have h1 := listT_len l
    unfold listT at h1
    exact lt_f (by simp only [len]; omega) ⟨⟨by rw [List.length_map]; omega, by omega⟩, hK⟩
  | d + 1, k, hk => by
    rw [meta_list_w0, meta_list_vc0 _ _ _ _ _ _ _ _ rfl _ rfl, toNat_nat]
    have hm : nth l k (Ty.dflt Ty.int) ∈ l := by
      have : k < l.length := by omega
      simp [nth, List.getD_eq_getElem?_getD, this]
    have h1 := List.all_eq_true.1 hn _ hm
    simp only [Bool.and_eq_true, decide_eq_true_eq] at h1
    refine lt_t (by simp only [len]; omega) ⟨⟨by omega, by simp only [len]; omega⟩, h1, by simp only [len, List.length_map, List.length_take, List.length_cons, List.length_nil]; omega, ?_⟩
    rw [w64_succ (by omega), show cat ((l.take k).map numT) [numT (nth l k (Ty.dflt Ty.int))] = (l.take (k + 1)).map numT from by rw [take_step (by omega) (Ty.dflt Ty.int)]; simp [cat]]
    exact loop_meta_list l hl hn K hK y d (k + 1) (by omega)
set_option maxHeartbeats 4000000 in
theorem run_meta_list (l : List Int) (hp : len l ≤ 1000 ∧ nums l = true) (K : V → List Blk → Prop) (hK : K (.one (.dat .str (listT l))) []) : ∃ m, goD Γ_meta_list tab fn_meta_list 0 K m [.code (bodyOf fn_meta_list)] (initSt [.one (.dat (.list .int) l)] []) := by
  refine ⟨l.length + 2, ?_⟩
  rw [meta_list_w, meta_list_vc _ _ _]
  exact loop_meta_list l hp.1 hp.2 K hK [] l.length 0 (by omega)
theorem sound_meta_list : SoundC Tryd.prog tab n_meta_list c_meta_list := soundC_of ok_meta_list hf_meta_list hB_meta_list (by
  intro vs bs p v bs' h hp
  unfold c_meta_list at h
  split at h
  · cases h
    exact ⟨by kernel_rfl, rfl, .inl (run_meta_list _ hp.1 _ ⟨rfl, rfl⟩)⟩
  · cases h)

def c_meta_ImageText : Contract := fun vs bs => match vs, bs with
  | [.one (.dat (.list .int) l)], [] => some (none, .tup [.one (.dat .str (imageTextE l).1), .one (.dat .int (imageTextE l).2)], [])
  | _, _ => none
def Γ_meta_ImageText : Ctx := [(n_meta_CheckImage, c_meta_CheckImage), (n_meta_list, c_meta_list)]
theorem ok_meta_ImageText : Ok Tryd.prog tab Γ_meta_ImageText := ((ok_nil.consC hf_meta_list hB_meta_list sound_meta_list).consC hf_meta_CheckImage hB_meta_CheckImage sound_meta_CheckImage)
theorem meta_ImageText_vc (l : List Int) (rec : List It → St → Prop) (K : V → List Blk → Prop) v0 (hv0 : v0 = (checkImage l)) v1 (hv1 : v1 = (nums l)) v2 (hv2 : v2 = (listT l)) : segD Γ_meta_ImageText tab fn_meta_ImageText 0 K rec [.code (bodyOf fn_meta_ImageText)] (initSt [.one (.dat (Ty.list Ty.int) l)] []) = (
    br (!(eqi v0 (0 : Int)))
     (K (.tup [.one (.dat Ty.str []), .one (.dat Ty.int v0)]) [])
     ((((len l) ≤ 1000) ∧ (v1 = true)) ∧
      ((((len ((105 : UInt8) :: ((109 : UInt8) :: ((97 : UInt8) :: ((103 : UInt8) :: ((101 : UInt8) :: ((32 : UInt8) :: []))))))) + (len v2)) ≤ 140737488355328) ∧
      (K (.tup [.one (.dat Ty.str (cat ((105 : UInt8) :: ((109 : UInt8) :: ((97 : UInt8) :: ((103 : UInt8) :: ((101 : UInt8) :: ((32 : UInt8) :: [])))))) v2)), .one (.dat Ty.int (0 : Int))]) [])))) := by subst hv2; subst hv1; subst hv0; kernel_rfl
theorem meta_ImageText_w (l : List Int) (m : Nat) (K : V → List Blk → Prop) : goD Γ_meta_ImageText tab fn_meta_ImageText 0 K (m + 1) [.code (bodyOf fn_meta_ImageText)] (initSt [.one (.dat (Ty.list Ty.int) l)] []) = segD Γ_meta_ImageText tab fn_meta_ImageText 0 K (goD Γ_meta_ImageText tab fn_meta_ImageText 0 K m) [.code (bodyOf fn_meta_ImageText)] (initSt [.one (.dat (Ty.list Ty.int) l)] []) := rfl

set_option maxHeartbeats 4000000 in
theorem run_meta_ImageText (l : List Int) (K : V → List Blk → Prop) (hK : K (.tup [.one (.dat .str (imageTextE l).1), .one (.dat .int (imageTextE l).2)]) []) : ∃ m, goD Γ_meta_ImageText tab fn_meta_ImageText 0 K m [.code (bodyOf fn_meta_ImageText)] (initSt [.one (.dat (.list .int) l)] []) := by
  refine ⟨1, ?_⟩
  rw [meta_ImageText_w, meta_ImageText_vc _ _ _ _ rfl _ rfl _ rfl]
  unfold imageTextE at hK
  refine ne_s (fun h => ?_) (fun h => ?_)
  · rw [if_neg h] at hK; exact hK
  rw [if_pos h] at hK
  obtain ⟨h1, h2, h3⟩ := checkImage_ok h
  have n3 := listT_len l
  exact ⟨⟨by simp only [len]; omega, nums_of_words h3⟩, by simp only [len, List.length_cons, List.length_nil]; omega, hK⟩
theorem sound_meta_ImageText : SoundC Tryd.prog tab n_meta_ImageText c_meta_ImageText := soundC_of ok_meta_ImageText hf_meta_ImageText hB_meta_ImageText (by
  intro vs bs p v bs' h hp
  unfold c_meta_ImageText at h
  split at h
  · cases h
    exact ⟨by kernel_rfl, rfl, .inl (run_meta_ImageText _ _ ⟨rfl, rfl⟩)⟩
  · cases h)

def c_slices_Index_Lstring : Contract := fun vs bs => match vs, bs with
  | [.one (.dat (.list .str) l), .one (.dat .str s)], [] => some (some (l.length ≤ 140737488355328), .one (.dat .int (indexS s l)), [])
  | _, _ => none
def Γ_slices_Index_Lstring : Ctx := []
theorem ok_slices_Index_Lstring : Ok Tryd.prog tab Γ_slices_Index_Lstring := ok_nil
noncomputable def slices_Index_Lstring_L0 : List It := [.inLoop [8, 7, 4, 0, 1] (Code.sub (bodyOf fn_slices_Index_Lstring) [1, 0, 1, 0, 0]), .inBlock 0, .code (Code.sub (bodyOf fn_slices_Index_Lstring) [1, 1])]
def slices_Index_Lstring_S0 (x0 : Int) (x1 : Int) (x2 : Int) (x3 : (List (List UInt8))) (x4 : (List UInt8)) : St := ⟨[(8, .one (.dat Ty.int x0)), (7, .one (.dat Ty.int x1)), (4, .one (.dat Ty.int x2)), (0, .one (.dat (Ty.list Ty.str) x3)), (1, .one (.dat Ty.str x4))], [], 0⟩
theorem slices_Index_Lstring_vc (l : List (List UInt8)) (s : List UInt8) (rec : List It → St → Prop) (K : V → List Blk → Prop) : segD Γ_slices_Index_Lstring tab fn_slices_Index_Lstring 0 K rec [.code (bodyOf fn_slices_Index_Lstring)] (initSt [.one (.dat (Ty.list Ty.str) l), .one (.dat Ty.str s)] []) = (
    rec slices_Index_Lstring_L0 (slices_Index_Lstring_S0 (0 : Int) (((len l) : Nat) : Int) (0 : Int) l s)) := by kernel_rfl
theorem slices_Index_Lstring_w (l : List (List UInt8)) (s : List UInt8) (m : Nat) (K : V → List Blk → Prop) : goD Γ_slices_Index_Lstring tab fn_slices_Index_Lstring 0 K (m + 1) [.code (bodyOf fn_slices_Index_Lstring)] (initSt [.one (.dat (Ty.list Ty.str) l), .one (.dat Ty.str s)] []) = segD Γ_slices_Index_Lstring tab fn_slices_Index_Lstring 0 K (goD Γ_slices_Index_Lstring tab fn_slices_Index_Lstring 0 K m) [.code (bodyOf fn_slices_Index_Lstring)] (initSt [.one (.dat (Ty.list Ty.str) l), .one (.dat Ty.str s)] []) := rfl
theorem slices_Index_Lstring_vc0 (x0 : Int) (x1 : Int) (x2 : Int) (x3 : (List (List UInt8))) (x4 : (List UInt8)) (rec : List It → St → Prop) (K : V → List Blk → Prop) : segD Γ_slices_Index_Lstring tab fn_slices_Index_Lstring 0 K rec (.code (Code.sub (bodyOf fn_slices_Index_Lstring) [1, 0, 1, 0, 0]) :: slices_Index_Lstring_L0) (slices_Index_Lstring_S0 x0 x1 x2 x3 x4) = (
    br (lti x0 x1)
     ((((0 : Int) ≤ x0) ∧ (x0 < (((len x3) : Nat) : Int))) ∧
      (br (eqs x4 (nth x3 (Int.toNat x0) (Ty.dflt Ty.str)))
       (K (.one (.dat Ty.int x0)) [])
       (rec slices_Index_Lstring_L0 (slices_Index_Lstring_S0 (w64 (x0 + (1 : Int))) x1 x2 x3 x4))))
     (K (.one (.dat Ty.int (-(1 : Int)))) [])) := by kernel_rfl
theorem slices_Index_Lstring_w0 (x0 : Int) (x1 : Int) (x2 : Int) (x3 : (List (List UInt8))) (x4 : (List UInt8)) (m : Nat) (K : V → List Blk → Prop) : goD Γ_slices_Index_Lstring tab fn_slices_Index_Lstring 0 K (m + 1) slices_Index_Lstring_L0 (slices_Index_Lstring_S0 x0 x1 x2 x3 x4) = segD Γ_slices_Index_Lstring tab fn_slices_Index_Lstring 0 K (goD Γ_slices_Index_Lstring tab fn_slices_Index_Lstring 0 K m) (.code (Code.sub (bodyOf fn_slices_Index_Lstring) [1, 0, 1, 0, 0]) :: slices_Index_Lstring_L0) (slices_Index_Lstring_S0 x0 x1 x2 x3 x4) := rfl

theorem loop_slices_Index_Lstring (l : List (List UInt8)) (s : List UInt8) (hl : l.length ≤ 140737488355328) (K : V → List Blk → Prop) : ∀ (d k : Nat), k + d = l.length → K (.one (.dat .int (indexFrom k s (l.drop k)))) [] →
    goD Γ_slices_Index_Lstring tab fn_slices_Index_Lstring 0 K (d + 1) slices_Index_Lstring_L0 (slices_Index_Lstring_S0 (k : Int) (((len l) : Nat) : Int) 0 l s)
  | 0, k, hk, hK => by
    rw [slices_Index_Lstring_w0, slices_Index_Lstring_vc0 _ _ _ _ _ _ _]
    rw [List.drop_of_length_le (by omega)] at hK
    exact lt_f (by simp only [len]; omega) hK
  | d + 1, k, hk, hK => by
    rw [slices_Index_Lstring_w0, slices_Index_Lstring_vc0 _ _ _ _ _ _ _, toNat_nat]
    rw [drop_step (by omega) (Ty.dflt Ty.str)] at hK
    simp only [indexFrom] at hK
    refine lt_t (by simp only [len]; omega) ⟨⟨by omega, by simp only [len]; omega⟩, br_split (fun h => ?_) (fun h => ?_)⟩
    · rw [eqs_true] at h
      rw [if_pos h.symm] at hK; exact hK
    · rw [eqs_false] at h
      rw [if_neg (fun e => h e.symm)] at hK
      rw [w64_succ (by omega)]
      exact loop_slices_Index_Lstring l s hl K d (k + 1) (by omega) hK
set_option maxHeartbeats 4000000 in
theorem run_slices_Index_Lstring (l : List (List UInt8)) (s : List UInt8) (hp : l.length ≤ 140737488355328) (K : V → List Blk → Prop) (hK : K (.one (.dat .int (indexS s l))) []) : ∃ m, goD Γ_slices_Index_Lstring tab fn_slices_Index_Lstring 0 K m [.code (bodyOf fn_slices_Index_Lstring)] (initSt [.one (.dat (.list .str) l), .one (.dat .str s)] []) := by
  refine ⟨l.length + 2, ?_⟩
  rw [slices_Index_Lstring_w, slices_Index_Lstring_vc _ _ _ _]
  exact loop_slices_Index_Lstring l s hp K l.length 0 (by omega) hK
theorem sound_slices_Index_Lstring : SoundC Tryd.prog tab n_slices_Index_Lstring c_slices_Index_Lstring := soundC_of ok_slices_Index_Lstring hf_slices_Index_Lstring hB_slices_Index_Lstring (by
  intro vs bs p v bs' h hp
  unfold c_slices_Index_Lstring at h
  split at h
  · cases h
    exact ⟨by kernel_rfl, rfl, .inl (run_slices_Index_Lstring _ _ hp.1 _ ⟨rfl, rfl⟩)⟩
  · cases h)

def c_slices_Contains_Lstring : Contract := fun vs bs => match vs, bs with
  | [.one (.dat (.list .str) l), .one (.dat .str s)], [] => some (some (l.length ≤ 140737488355328), .one (.dat .bool (hasS s l)), [])
  | _, _ => none
def Γ_slices_Contains_Lstring : Ctx := [(n_slices_Index_Lstring, c_slices_Index_Lstring)]
theorem ok_slices_Contains_Lstring : Ok Tryd.prog tab Γ_slices_Contains_Lstring := (ok_nil.consC hf_slices_Index_Lstring hB_slices_Index_Lstring sound_slices_Index_Lstring)
theorem slices_Contains_Lstring_vc (l : List (List UInt8)) (s : List UInt8) (rec : List It → St → Prop) (K : V → List Blk → Prop) v0 (hv0 : v0 = (indexS s l)) : segD Γ_slices_Contains_Lstring tab fn_slices_Contains_Lstring 0 K rec [.code (bodyOf fn_slices_Contains_Lstring)] (initSt [.one (.dat (Ty.list Ty.str) l), .one (.dat Ty.str s)] []) = (
    ((List.length l) ≤ 140737488355328) ∧
    (K (.one (.dat Ty.bool (lei (0 : Int) v0))) [])) := by subst hv0; kernel_rfl
theorem slices_Contains_Lstring_w (l : List (List UInt8)) (s : List UInt8) (m : Nat) (K : V → List Blk → Prop) : goD Γ_slices_Contains_Lstring tab fn_slices_Contains_Lstring 0 K (m + 1) [.code (bodyOf fn_slices_Contains_Lstring)] (initSt [.one (.dat (Ty.list Ty.str) l), .one (.dat Ty.str s)] []) = segD Γ_slices_Contains_Lstring tab fn_slices_Contains_Lstring 0 K (goD Γ_slices_Contains_Lstring tab fn_slices_Contains_Lstring 0 K m) [.code (bodyOf fn_slices_Contains_Lstring)] (initSt [.one (.dat (Ty.list Ty.str) l), .one (.dat Ty.str s)] []) := rfl

set_option maxHeartbeats 4000000 in
theorem run_slices_Contains_Lstring (l : List (List UInt8)) (s : List UInt8) (hp : l.length ≤ 140737488355328) (K : V → List Blk → Prop) (hK : K (.one (.dat .bool (hasS s l))) []) : ∃ m, goD Γ_slices_Contains_Lstring tab fn_slices_Contains_Lstring 0 K m [.code (bodyOf fn_slices_Contains_Lstring)] (initSt [.one (.dat (.list .str) l), .one (.dat .str s)] []) := by
  refine ⟨1, ?_⟩
  rw [slices_Contains_Lstring_w, slices_Contains_Lstring_vc _ _ _ _ _ rfl]
  rw [show lei 0 (indexS s l) = hasS s l from indexS_has s l]
  exact ⟨hp, hK⟩
theorem sound_slices_Contains_Lstring : SoundC Tryd.prog tab n_slices_Contains_Lstring c_slices_Contains_Lstring := soundC_of ok_slices_Contains_Lstring hf_slices_Contains_Lstring hB_slices_Contains_Lstring (by
  intro vs bs p v bs' h hp
  unfold c_slices_Contains_Lstring at h
  split at h
  · cases h
    exact ⟨by kernel_rfl, rfl, .inl (run_slices_Contains_Lstring _ _ hp.1 _ ⟨rfl, rfl⟩)⟩
  · cases h)

def c_meta_CheckBook : Contract := fun vs bs => match vs, bs with
  | [.agg [.dat (.list .str) l]], [] => some (none, .one (.dat .int (checkBook l)), [])
  | _, _ => none
def Γ_meta_CheckBook : Ctx := [(n_slices_Contains_Lstring, c_slices_Contains_Lstring)]
theorem ok_meta_CheckBook : Ok Tryd.prog tab Γ_meta_CheckBook := (ok_nil.consC hf_slices_Contains_Lstring hB_slices_Contains_Lstring sound_slices_Contains_Lstring)
noncomputable def meta_CheckBook_L0 : List It := [.inLoop [12, 11, 10, 2, 1] (Code.sub (bodyOf fn_meta_CheckBook) [1, 1, 0, 1, 0, 0]), .inBlock 0, .code (Code.sub (bodyOf fn_meta_CheckBook) [1, 1, 1])]
def meta_CheckBook_S0 (x0 : Int) (x1 : Int) (x2 : (List (List UInt8))) (x3 : Int) (x4 : (List (List UInt8))) : St := ⟨[(12, .one (.dat Ty.int x0)), (11, .one (.dat Ty.int x1)), (10, .one (.dat (Ty.list Ty.str) x2)), (2, .one (.dat Ty.int x3)), (1, .one (.ptr 0 0))], [(0, .box [.dat (Ty.list Ty.str) x4])], 1⟩
theorem meta_CheckBook_vc (l : List (List UInt8)) (rec : List It → St → Prop) (K : V → List Blk → Prop) : segD Γ_meta_CheckBook tab fn_meta_CheckBook 0 K rec [.code (bodyOf fn_meta_CheckBook)] (initSt [.agg [.dat (Ty.list Ty.str) l]] []) = (
    br (lti (60 : Int) (((len l) : Nat) : Int))
     (K (.one (.dat Ty.int (2 : Int))) [])
     (rec meta_CheckBook_L0 (meta_CheckBook_S0 (0 : Int) (((len l) : Nat) : Int) l (0 : Int) l))) := by kernel_rfl
theorem meta_CheckBook_w (l : List (List UInt8)) (m : Nat) (K : V → List Blk → Prop) : goD Γ_meta_CheckBook tab fn_meta_CheckBook 0 K (m + 1) [.code (bodyOf fn_meta_CheckBook)] (initSt [.agg [.dat (Ty.list Ty.str) l]] []) = segD Γ_meta_CheckBook tab fn_meta_CheckBook 0 K (goD Γ_meta_CheckBook tab fn_meta_CheckBook 0 K m) [.code (bodyOf fn_meta_CheckBook)] (initSt [.agg [.dat (Ty.list Ty.str) l]] []) := rfl
theorem meta_CheckBook_vc0 (x0 : Int) (x1 : Int) (x2 : (List (List UInt8))) (x3 : Int) (x4 : (List (List UInt8))) (rec : List It → St → Prop) (K : V → List Blk → Prop) v0 (hv0 : v0 = (hasS (nth x2 (Int.toNat x0) (Ty.dflt Ty.str)) (slc x4 (Int.toNat (0 : Int)) (Int.toNat x0)))) : segD Γ_meta_CheckBook tab fn_meta_CheckBook 0 K rec (.code (Code.sub (bodyOf fn_meta_CheckBook) [1, 1, 0, 1, 0, 0]) :: meta_CheckBook_L0) (meta_CheckBook_S0 x0 x1 x2 x3 x4) = (
    br (lti x0 x1)
     ((((0 : Int) ≤ x0) ∧ (x0 < (((len x2) : Nat) : Int))) ∧
      (br (lti (2000 : Int) (((len (nth x2 (Int.toNat x0) (Ty.dflt Ty.str))) : Nat) : Int))
       (K (.one (.dat Ty.int (2 : Int))) [])
       ((((0 : Int) ≤ (0 : Int)) ∧ (((0 : Int) ≤ x0) ∧ (x0 ≤ (((len x4) : Nat) : Int)))) ∧
        (((List.length (slc x4 (Int.toNat (0 : Int)) (Int.toNat x0))) ≤ 140737488355328) ∧
        (br v0
         (K (.one (.dat Ty.int (6 : Int))) [])
         (rec meta_CheckBook_L0 (meta_CheckBook_S0 (w64 (x0 + (1 : Int))) x1 x2 x3 x4)))))))
     (K (.one (.dat Ty.int (0 : Int))) [])) := by subst hv0; kernel_rfl
theorem meta_CheckBook_w0 (x0 : Int) (x1 : Int) (x2 : (List (List UInt8))) (x3 : Int) (x4 : (List (List UInt8))) (m : Nat) (K : V → List Blk → Prop) : goD Γ_meta_CheckBook tab fn_meta_CheckBook 0 K (m + 1) meta_CheckBook_L0 (meta_CheckBook_S0 x0 x1 x2 x3 x4) = segD Γ_meta_CheckBook tab fn_meta_CheckBook 0 K (goD Γ_meta_CheckBook tab fn_meta_CheckBook 0 K m) (.code (Code.sub (bodyOf fn_meta_CheckBook) [1, 1, 0, 1, 0, 0]) :: meta_CheckBook_L0) (meta_CheckBook_S0 x0 x1 x2 x3 x4) := rfl

theorem loop_meta_CheckBook (l : List (List UInt8)) (hl : l.length ≤ 60) (K : V → List Blk → Prop) : ∀ (d k : Nat), k + d = l.length → K (.one (.dat .int (bookFrom (l.take k) (l.drop k)))) [] →
    goD Γ_meta_CheckBook tab fn_meta_CheckBook 0 K (d + 1) meta_CheckBook_L0 (meta_CheckBook_S0 (k : Int) (((len l) : Nat) : Int) l 0 l)
  | 0, k, hk, hK => by
    rw [meta_CheckBook_w0, meta_CheckBook_vc0 _ _ _ _ _ _ _ _ rfl]
    rw [List.drop_of_length_le (by omega)] at hK
    exact lt_f (by simp only [len]; omega) hK
  | d + 1, k, hk, hK => by
    rw [meta_CheckBook_w0, meta_CheckBook_vc0 _ _ _ _ _ _ _ _ rfl, toNat_nat, show Int.toNat (0 : Int) = 0 from rfl, slc_take]
    rw [drop_step (by omega) (Ty.dflt Ty.str)] at hK
    simp only [bookFrom] at hK
    refine lt_t (by simp only [len]; omega) ⟨⟨by omega, by simp only [len]; omega⟩, lt_s (fun h => ?_) (fun h => ⟨⟨by omega, by omega, by simp only [len]; omega⟩, by rw [List.length_take]; omega, br_split (fun h2 => ?_) (fun h2 => ?_)⟩)⟩
    · rw [if_pos (by simp only [len] at h; omega)] at hK; exact hK
    · rw [if_neg (by simp only [len] at h; omega), if_pos h2] at hK; exact hK
    · rw [if_neg (by simp only [len] at h; omega), if_neg (by rw [h2]; simp)] at hK
      rw [w64_succ (by omega)]
      rw [← take_step (by omega) (Ty.dflt Ty.str)] at hK
      exact loop_meta_CheckBook l hl K d (k + 1) (by omega) hK
set_option maxHeartbeats 4000000 in
theorem run_meta_CheckBook (l : List (List UInt8)) (K : V → List Blk → Prop) (hK : K (.one (.dat .int (checkBook l))) []) : ∃ m, goD Γ_meta_CheckBook tab fn_meta_CheckBook 0 K m [.code (bodyOf fn_meta_CheckBook)] (initSt [.agg [.dat (.list .str) l]] []) := by
  refine ⟨l.length + 2, ?_⟩
  rw [meta_CheckBook_w, meta_CheckBook_vc _ _ _]
  unfold checkBook at hK
  refine lt_s (fun h => ?_) (fun h => ?_)
  · rw [if_pos (by simp only [len] at h; omega)] at hK; exact hK
  · rw [if_neg (by simp only [len] at h; omega)] at hK
    exact loop_meta_CheckBook l (by simp only [len] at h; omega) K l.length 0 (by omega) hK
theorem sound_meta_CheckBook : SoundC Tryd.prog tab n_meta_CheckBook c_meta_CheckBook := soundC_of ok_meta_CheckBook hf_meta_CheckBook hB_meta_CheckBook (by
  intro vs bs p v bs' h hp
  unfold c_meta_CheckBook at h
  split at h
  · cases h
    exact ⟨by kernel_rfl, rfl, .inl (run_meta_CheckBook _ _ ⟨rfl, rfl⟩)⟩
  · cases h)

def c_meta_Name : Contract := fun vs bs => match vs, bs with
  | [.agg [.dat (.list .str) l], .one (.dat .str s)], [] => some (some (l.length ≤ 140737488355328), .tup [.one (.dat .int (nameB l s).1), .one (.dat .int (nameB l s).2)], [])
  | _, _ => none
def Γ_meta_Name : Ctx := [(n_meta_CheckBook, c_meta_CheckBook), (n_slices_Index_Lstring, c_slices_Index_Lstring)]
theorem ok_meta_Name : Ok Tryd.prog tab Γ_meta_Name := ((ok_nil.consC hf_slices_Index_Lstring hB_slices_Index_Lstring sound_slices_Index_Lstring).consC hf_meta_CheckBook hB_meta_CheckBook sound_meta_CheckBook)
theorem meta_Name_vc (l : List (List UInt8)) (s : List UInt8) (rec : List It → St → Prop) (K : V → List Blk → Prop) v0 (hv0 : v0 = (checkBook l)) v1 (hv1 : v1 = (indexS s l)) : segD Γ_meta_Name tab fn_meta_Name 0 K rec [.code (bodyOf fn_meta_Name)] (initSt [.agg [.dat (Ty.list Ty.str) l], .one (.dat Ty.str s)] []) = (
    br (!(eqi v0 (0 : Int)))
     (K (.tup [.one (.dat Ty.int (0 : Int)), .one (.dat Ty.int v0)]) [])
     (((List.length l) ≤ 140737488355328) ∧
      (K (.tup [.one (.dat Ty.int (w64 (v1 + (1 : Int)))), .one (.dat Ty.int (0 : Int))]) []))) := by subst hv1; subst hv0; kernel_rfl
theorem meta_Name_w (l : List (List UInt8)) (s : List UInt8) (m : Nat) (K : V → List Blk → Prop) : goD Γ_meta_Name tab fn_meta_Name 0 K (m + 1) [.code (bodyOf fn_meta_Name)] (initSt [.agg [.dat (Ty.list Ty.str) l], .one (.dat Ty.str s)] []) = segD Γ_meta_Name tab fn_meta_Name 0 K (goD Γ_meta_Name tab fn_meta_Name 0 K m) [.code (bodyOf fn_meta_Name)] (initSt [.agg [.dat (Ty.list Ty.str) l], .one (.dat Ty.str s)] []) := rfl

set_option maxHeartbeats 4000000 in
theorem run_meta_Name (l : List (List UInt8)) (s : List UInt8) (hp : l.length ≤ 140737488355328) (K : V → List Blk → Prop) (hK : K (.tup [.one (.dat .int (nameB l s).1), .one (.dat .int (nameB l s).2)]) []) : ∃ m, goD Γ_meta_Name tab fn_meta_Name 0 K m [.code (bodyOf fn_meta_Name)] (initSt [.agg [.dat (.list .str) l], .one (.dat .str s)] []) := by
  refine ⟨1, ?_⟩
  rw [meta_Name_w, meta_Name_vc _ _ _ _ _ rfl _ rfl]
  unfold nameB at hK
  refine ne_s (fun h => ?_) (fun h => ⟨hp, ?_⟩)
  · rw [if_neg h] at hK; exact hK
  · rw [if_pos h] at hK
    have := indexFrom_range s l 0 (by omega)
    rw [w64_id (by unfold indexS; omega) (by unfold indexS; omega)]
    exact hK
theorem sound_meta_Name : SoundC Tryd.prog tab n_meta_Name c_meta_Name := soundC_of ok_meta_Name hf_meta_Name hB_meta_Name (by
  intro vs bs p v bs' h hp
  unfold c_meta_Name at h
  split at h
  · cases h
    exact ⟨by kernel_rfl, rfl, .inl (run_meta_Name _ _ hp.1 _ ⟨rfl, rfl⟩)⟩
  · cases h)

def c_meta_ImageName : Contract := fun vs bs => match vs, bs with
  | [.agg [.dat (.list .str) l], .one (.dat (.list .int) ws)], [] => some (some (l.length ≤ 140737488355328), .tup [.one (.dat .int (imageName l ws).1), .one (.dat .int (imageName l ws).2)], [])
  | _, _ => none
def Γ_meta_ImageName : Ctx := [(n_meta_ImageText, c_meta_ImageText), (n_meta_Name, c_meta_Name)]
theorem ok_meta_ImageName : Ok Tryd.prog tab Γ_meta_ImageName := ((ok_nil.consC hf_meta_Name hB_meta_Name sound_meta_Name).consC hf_meta_ImageText hB_meta_ImageText sound_meta_ImageText)
theorem meta_ImageName_vc (l : List (List UInt8)) (ws : List Int) (rec : List It → St → Prop) (K : V → List Blk → Prop) v0 (hv0 : v0 = (imageTextE ws)) v1 (hv1 : v1 = (nameB l (v0).fst)) : segD Γ_meta_ImageName tab fn_meta_ImageName 0 K rec [.code (bodyOf fn_meta_ImageName)] (initSt [.agg [.dat (Ty.list Ty.str) l], .one (.dat (Ty.list Ty.int) ws)] []) = (
    br (!(eqi (v0).snd (0 : Int)))
     (K (.tup [.one (.dat Ty.int (0 : Int)), .one (.dat Ty.int (v0).snd)]) [])
     (((List.length l) ≤ 140737488355328) ∧
      (K (.tup [.one (.dat Ty.int (v1).fst), .one (.dat Ty.int (v1).snd)]) []))) := by subst hv1; subst hv0; kernel_rfl
theorem meta_ImageName_w (l : List (List UInt8)) (ws : List Int) (m : Nat) (K : V → List Blk → Prop) : goD Γ_meta_ImageName tab fn_meta_ImageName 0 K (m + 1) [.code (bodyOf fn_meta_ImageName)] (initSt [.agg [.dat (Ty.list Ty.str) l], .one (.dat (Ty.list Ty.int) ws)] []) = segD Γ_meta_ImageName tab fn_meta_ImageName 0 K (goD Γ_meta_ImageName tab fn_meta_ImageName 0 K m) [.code (bodyOf fn_meta_ImageName)] (initSt [.agg [.dat (Ty.list Ty.str) l], .one (.dat (Ty.list Ty.int) ws)] []) := rfl

set_option maxHeartbeats 4000000 in
theorem run_meta_ImageName (l : List (List UInt8)) (ws : List Int) (hp : l.length ≤ 140737488355328) (K : V → List Blk → Prop) (hK : K (.tup [.one (.dat .int (imageName l ws).1), .one (.dat .int (imageName l ws).2)]) []) : ∃ m, goD Γ_meta_ImageName tab fn_meta_ImageName 0 K m [.code (bodyOf fn_meta_ImageName)] (initSt [.agg [.dat (.list .str) l], .one (.dat (.list .int) ws)] []) := by
  refine ⟨1, ?_⟩
  rw [meta_ImageName_w, meta_ImageName_vc _ _ _ _ _ rfl _ rfl]
  unfold imageName at hK
  by_cases h : checkImage ws = 0
  · rw [if_pos h] at hK
    rw [show imageTextE ws = (imageText ws, 0) from if_pos h]
    exact ne_f rfl ⟨hp, hK⟩
  · rw [if_neg h] at hK
    rw [show imageTextE ws = ([], checkImage ws) from if_neg h]
    exact ne_t h hK
theorem sound_meta_ImageName : SoundC Tryd.prog tab n_meta_ImageName c_meta_ImageName := soundC_of ok_meta_ImageName hf_meta_ImageName hB_meta_ImageName (by
  intro vs bs p v bs' h hp
  unfold c_meta_ImageName at h
  split at h
  · cases h
    exact ⟨by kernel_rfl, rfl, .inl (run_meta_ImageName _ _ hp.1 _ ⟨rfl, rfl⟩)⟩
  · cases h)

def c_law_simple : Contract := fun vs bs => match vs, bs with
  | [], [] => some (none, .tup [.agg [.dat (.list .str) simpleB], .one (.dat (.list .signed) simpleL), .agg [.dat .int 1, .dat (.list .int) [3], .dat .int 1, .dat .int 0], .agg [.dat (.list .root) [], .dat (.list (.list .int)) [], .dat .int 1, .dat .int 5, .dat (.list .target) [⟨0, 2, 2⟩], .dat (.list .int) [3], .dat (.list (.list .int)) [[8, 8]]]], [])
  | _, _ => none
def Γ_law_simple : Ctx := []
theorem ok_law_simple : Ok Tryd.prog tab Γ_law_simple := ok_nil
theorem law_simple_vc (rec : List It → St → Prop) (K : V → List Blk → Prop) : segD Γ_law_simple tab fn_law_simple 0 K rec [.code (bodyOf fn_law_simple)] (initSt [] []) = (
    K (.tup [.agg [.dat (Ty.list Ty.str) (((105 : UInt8) :: ((109 : UInt8) :: ((97 : UInt8) :: ((103 : UInt8) :: ((101 : UInt8) :: ((32 : UInt8) :: ((55 : UInt8) :: []))))))) :: (((105 : UInt8) :: ((109 : UInt8) :: ((97 : UInt8) :: ((103 : UInt8) :: ((101 : UInt8) :: ((32 : UInt8) :: ((56 : UInt8) :: ((32 : UInt8) :: ((56 : UInt8) :: []))))))))) :: (((114 : UInt8) :: ((101 : UInt8) :: ((108 : UInt8) :: ((101 : UInt8) :: ((97 : UInt8) :: ((115 : UInt8) :: ((101 : UInt8) :: ((32 : UInt8) :: ((49 : UInt8) :: ((32 : UInt8) :: ((117 : UInt8) :: ((110 : UInt8) :: ((116 : UInt8) :: ((105 : UInt8) :: ((108 : UInt8) :: ((32 : UInt8) :: ((53 : UInt8) :: ((59 : UInt8) :: ((32 : UInt8) :: ((48 : UInt8) :: ((32 : UInt8) :: ((50 : UInt8) :: ((32 : UInt8) :: ((50 : UInt8) :: [])))))))))))))))))))))))) :: (((114 : UInt8) :: ((111 : UInt8) :: ((111 : UInt8) :: ((116 : UInt8) :: ((32 : UInt8) :: ((50 : UInt8) :: ((32 : UInt8) :: ((49 : UInt8) :: ((32 : UInt8) :: ((111 : UInt8) :: ((102 : UInt8) :: ((32 : UInt8) :: ((52 : UInt8) :: []))))))))))))) :: []))))], .one (.dat (Ty.list Ty.signed) ((⟨(3 : Int), (3 : Int)⟩ : Vm.Signed) :: ((⟨(3 : Int), (4 : Int)⟩ : Vm.Signed) :: ((⟨(4 : Int), (4 : Int)⟩ : Vm.Signed) :: ((⟨(4 : Int), (3 : Int)⟩ : Vm.Signed) :: []))))), .agg [.dat Ty.int (1 : Int), .dat (Ty.list Ty.int) ((3 : Int) :: []), .dat Ty.int (1 : Int), .dat Ty.int (0 : Int)], .agg [.dat (Ty.list Ty.root) [], .dat (Ty.list (Ty.list Ty.int)) [], .dat Ty.int (1 : Int), .dat Ty.int (5 : Int), .dat (Ty.list Ty.target) ((⟨(0 : Int), (2 : Int), (2 : Int)⟩ : Vm.Target) :: []), .dat (Ty.list Ty.int) ((3 : Int) :: []), .dat (Ty.list (Ty.list Ty.int)) (((8 : Int) :: ((8 : Int) :: [])) :: [])]]) []) := by kernel_rfl
theorem law_simple_w (m : Nat) (K : V → List Blk → Prop) : goD Γ_law_simple tab fn_law_simple 0 K (m + 1) [.code (bodyOf fn_law_simple)] (initSt [] []) = segD Γ_law_simple tab fn_law_simple 0 K (goD Γ_law_simple tab fn_law_simple 0 K m) [.code (bodyOf fn_law_simple)] (initSt [] []) := rfl

set_option maxHeartbeats 4000000 in
theorem run_law_simple  (K : V → List Blk → Prop) (hK : K (.tup [.agg [.dat (.list .str) simpleB], .one (.dat (.list .signed) simpleL), .agg [.dat .int 1, .dat (.list .int) [3], .dat .int 1, .dat .int 0], .agg [.dat (.list .root) [], .dat (.list (.list .int)) [], .dat .int 1, .dat .int 5, .dat (.list .target) [⟨0, 2, 2⟩], .dat (.list .int) [3], .dat (.list (.list .int)) [[8, 8]]]]) []) : ∃ m, goD Γ_law_simple tab fn_law_simple 0 K m [.code (bodyOf fn_law_simple)] (initSt [] []) := by
  refine ⟨1, ?_⟩
  rw [law_simple_w, law_simple_vc _ _]
  exact hK
theorem sound_law_simple : SoundC Tryd.prog tab n_law_simple c_law_simple := soundC_of ok_law_simple hf_law_simple hB_law_simple (by
  intro vs bs p v bs' h hp
  unfold c_law_simple at h
  split at h
  · cases h
    exact ⟨by kernel_rfl, rfl, .inl (run_law_simple  _ ⟨rfl, rfl⟩)⟩
  · cases h)

def c_slices_Repeat_Lint : Contract := fun vs bs => match vs, bs with
  | [.one (.dat (.list .int) [x]), .one (.dat .int n)], [] => some (some (0 ≤ n ∧ n ≤ 1000000), .one (.dat (.list .int) (zeros n.toNat x)), [])
  | _, _ => none
def Γ_slices_Repeat_Lint : Ctx := [(n_math_bits_Mul, c_math_bits_Mul)]
theorem ok_slices_Repeat_Lint : Ok Tryd.prog tab Γ_slices_Repeat_Lint := (ok_nil.consC hf_math_bits_Mul hB_math_bits_Mul sound_math_bits_Mul)
noncomputable def slices_Repeat_Lint_L0 : List It := [.inLoop [8, 7, 4] (Code.sub (bodyOf fn_slices_Repeat_Lint) [1, 1, 1, 1, 1, 1, 0, 0, 0]), .inBlock 0, .code (Code.sub (bodyOf fn_slices_Repeat_Lint) [1, 1, 1, 1, 1, 1, 1])]
def slices_Repeat_Lint_S0 (x0 : Int) (x1 : (List Int)) (x2 : (List Int)) : St := ⟨[(8, .one (.dat Ty.int x0)), (7, .one (.own 0)), (4, .one (.own 1))], [(0, .arr Ty.int x1), (1, .arr Ty.int x2)], 2⟩
theorem slices_Repeat_Lint_vc (x : Int) (n : Int) (rec : List It → St → Prop) (K : V → List Blk → Prop) v0 (hv0 : v0 = (u64w (((len (x :: [])) : Nat) : Int))) v1 (hv1 : v1 = (inU64 v0)) v2 (hv2 : v2 = (u64w n)) v3 (hv3 : v3 = (inU64 v2)) : segD Γ_slices_Repeat_Lint tab fn_slices_Repeat_Lint 0 K rec [.code (bodyOf fn_slices_Repeat_Lint)] (initSt [.one (.dat (Ty.list Ty.int) (x :: [])), .one (.dat Ty.int n)] []) = (
    br (lti n (0 : Int))
     (False)
     (((v1 = true) ∧ (v3 = true)) ∧
      (br (lti (0 : Int) ((v0 * v2) / two64))
       (False)
       (br (lti (9223372036854775807 : Int) ((v0 * v2) % two64))
         (False)
         ((((0 : Int) ≤ (w64 ((v0 * v2) % two64))) ∧ ((((w64 ((v0 * v2) % two64)) * ((8 : Nat) : Int)) ≤ (140737488355328 : Int)) ∧ ((w64 ((v0 * v2) % two64)) ≤ (140737488355328 : Int)))) ∧
          (rec slices_Repeat_Lint_L0 (slices_Repeat_Lint_S0 (((min (len (zeros (Int.toNat (w64 ((v0 * v2) % two64))) (Ty.dflt Ty.int))) (len (x :: []))) : Nat) : Int) (put (zeros (Int.toNat (w64 ((v0 * v2) % two64))) (Ty.dflt Ty.int)) 0 (slc (x :: []) 0 (min (len (zeros (Int.toNat (w64 ((v0 * v2) % two64))) (Ty.dflt Ty.int))) (len (x :: []))))) []))))))) := by subst hv3; subst hv2; subst hv1; subst hv0; kernel_rfl
theorem slices_Repeat_Lint_w (x : Int) (n : Int) (m : Nat) (K : V → List Blk → Prop) : goD Γ_slices_Repeat_Lint tab fn_slices_Repeat_Lint 0 K (m + 1) [.code (bodyOf fn_slices_Repeat_Lint)] (initSt [.one (.dat (Ty.list Ty.int) (x :: [])), .one (.dat Ty.int n)] []) = segD Γ_slices_Repeat_Lint tab fn_slices_Repeat_Lint 0 K (goD Γ_slices_Repeat_Lint tab fn_slices_Repeat_Lint 0 K m) [.code (bodyOf fn_slices_Repeat_Lint)] (initSt [.one (.dat (Ty.list Ty.int) (x :: [])), .one (.dat Ty.int n)] []) := rfl
theorem slices_Repeat_Lint_vc0 (x0 : Int) (x1 : (List Int)) (x2 : (List Int)) (rec : List It → St → Prop) (K : V → List Blk → Prop) : segD Γ_slices_Repeat_Lint tab fn_slices_Repeat_Lint 0 K rec (.code (Code.sub (bodyOf fn_slices_Repeat_Lint) [1, 1, 1, 1, 1, 1, 0, 0, 0]) :: slices_Repeat_Lint_L0) (slices_Repeat_Lint_S0 x0 x1 x2) = (
    br (lti x0 (((len x1) : Nat) : Int))
     ((((0 : Int) ≤ x0) ∧ ((x0 ≤ (((len x1) : Nat) : Int)) ∧ ((((len x1) : Nat) : Int) ≤ (((len x1) : Nat) : Int)))) ∧
      ((((0 : Int) ≤ (0 : Int)) ∧ (((0 : Int) ≤ x0) ∧ (x0 ≤ (((len x1) : Nat) : Int)))) ∧
      (((((Int.toNat (0 : Int)) + (Int.toNat (x0 - (0 : Int)))) ≤ (len x1)) ∧ (((Int.toNat x0) + (Int.toNat ((((len x1) : Nat) : Int) - x0))) ≤ (len x1))) ∧
      (rec slices_Repeat_Lint_L0 (slices_Repeat_Lint_S0 (w64 (x0 + (((min (Int.toNat ((((len x1) : Nat) : Int) - x0)) (len (slc x1 (Int.toNat (0 : Int)) ((Int.toNat (0 : Int)) + (Int.toNat (x0 - (0 : Int))))))) : Nat) : Int))) (put x1 (Int.toNat x0) (slc (slc x1 (Int.toNat (0 : Int)) ((Int.toNat (0 : Int)) + (Int.toNat (x0 - (0 : Int))))) 0 (min (Int.toNat ((((len x1) : Nat) : Int) - x0)) (len (slc x1 (Int.toNat (0 : Int)) ((Int.toNat (0 : Int)) + (Int.toNat (x0 - (0 : Int))))))))) x2)))))
     (K (.one (.dat (Ty.list Ty.int) x1)) [])) := by kernel_rfl
theorem slices_Repeat_Lint_w0 (x0 : Int) (x1 : (List Int)) (x2 : (List Int)) (m : Nat) (K : V → List Blk → Prop) : goD Γ_slices_Repeat_Lint tab fn_slices_Repeat_Lint 0 K (m + 1) slices_Repeat_Lint_L0 (slices_Repeat_Lint_S0 x0 x1 x2) = segD Γ_slices_Repeat_Lint tab fn_slices_Repeat_Lint 0 K (goD Γ_slices_Repeat_Lint tab fn_slices_Repeat_Lint 0 K m) (.code (Code.sub (bodyOf fn_slices_Repeat_Lint) [1, 1, 1, 1, 1, 1, 0, 0, 0]) :: slices_Repeat_Lint_L0) (slices_Repeat_Lint_S0 x0 x1 x2) := rfl

theorem u64w_id {n : Int} (h1 : 0 ≤ n) (h2 : n < 18446744073709551616) : u64w n = n := by
  unfold u64w; rw [IntKind.wrap_u64]; omega
theorem inU64_of {n : Int} (h1 : 0 ≤ n) (h2 : n < 18446744073709551616) : inU64 n = true := by simp [inU64, h1, h2]
theorem put_rep (x : Int) (n k j : Nat) : put (List.replicate k x ++ List.replicate (n - k) 0) k (List.replicate j x) = List.replicate (k + j) x ++ List.replicate (n - (k + j)) 0 := by
  unfold put
  rw [List.take_left' (by simp), List.length_replicate]
  rw [show List.drop (k + j) (List.replicate k x ++ List.replicate (n - k) (0 : Int)) = List.replicate (n - (k + j)) 0 from by
    rw [List.drop_append, List.drop_of_length_le (by simp)]
    simp
    omega]
  rw [List.replicate_append_replicate]
theorem loop_slices_Repeat_Lint (x : Int) (n : Nat) (hn : n ≤ 1000000) (K : V → List Blk → Prop) (hK : K (.one (.dat (.list .int) (zeros n x))) []) : ∀ (d k : Nat), n ≤ k + d → k ≤ n → (0 < n → 0 < k) →
    goD Γ_slices_Repeat_Lint tab fn_slices_Repeat_Lint 0 K (d + 1) slices_Repeat_Lint_L0 (slices_Repeat_Lint_S0 (k : Int) (List.replicate k x ++ List.replicate (n - k) 0) [])
  | 0, k, hd, hk, hp => by
    rw [slices_Repeat_Lint_w0, slices_Repeat_Lint_vc0 _ _ _ _ _]
    have e : k = n := by omega
    subst e
    refine lt_f (by simp [len]) ?_
    simpa [zeros] using hK
  | d + 1, k, hd, hk, hp => by
    rw [slices_Repeat_Lint_w0, slices_Repeat_Lint_vc0 _ _ _ _ _]
    have hl : len (List.replicate k x ++ List.replicate (n - k) (0 : Int)) = n := by simp [len]; omega
    rw [hl]
    by_cases c : k < n
    · refine lt_t (by omega) ⟨⟨by omega, by omega, by omega⟩, ⟨by omega, by omega, by omega⟩, ⟨by omega, by omega⟩, ?_⟩
      have e1 : slc (List.replicate k x ++ List.replicate (n - k) (0 : Int)) (Int.toNat 0) (Int.toNat 0 + Int.toNat ((k : Int) - 0)) = List.replicate k x := by
        rw [show Int.toNat 0 + Int.toNat ((k : Int) - 0) = k by omega]
        unfold slc
        rw [List.take_left' (by simp)]
        simp
      rw [e1]
      have e2 : len (List.replicate k x) = k := by simp [len]
      rw [e2]
      generalize hj : min (Int.toNat ((n : Int) - (k : Int))) k = j
      have hj' : j = min (n - k) k := by omega
      have e3 : slc (List.replicate k x) 0 j = List.replicate j x := by
        unfold slc
        rw [List.take_replicate]
        simp
        omega
      rw [e3, toNat_nat, put_rep x n k j, w64_id (by omega) (by omega), show (k : Int) + (j : Int) = ((k + j : Nat) : Int) by omega]
      exact loop_slices_Repeat_Lint x n hn K hK d (k + j) (by have := hp (by omega); omega) (by omega) (fun h => by have := hp h; omega)
    · have e : k = n := by omega
      subst e
      refine lt_f (by omega) ?_
      simpa [zeros] using hK
set_option maxHeartbeats 4000000 in
theorem run_slices_Repeat_Lint (x n : Int) (hp : 0 ≤ n ∧ n ≤ 1000000) (K : V → List Blk → Prop) (hK : K (.one (.dat (.list .int) (zeros n.toNat x))) []) : ∃ m, goD Γ_slices_Repeat_Lint tab fn_slices_Repeat_Lint 0 K m [.code (bodyOf fn_slices_Repeat_Lint)] (initSt [.one (.dat (.list .int) [x]), .one (.dat .int n)] []) := by
  obtain ⟨h1, h2⟩ := hp
  refine ⟨n.toNat + 2, ?_⟩
  rw [slices_Repeat_Lint_w, slices_Repeat_Lint_vc _ _ _ _ _ rfl _ rfl _ rfl _ rfl]
  have e1 : u64w (((len (x :: [])) : Nat) : Int) = 1 := by simp only [len, List.length_cons, List.length_nil]; exact u64w_id (by omega) (by omega)
  rw [e1, u64w_id (n := n) h1 (by omega), Int.one_mul]
  have e2 : n / two64 = 0 := by unfold two64; omega
  have e3 : n % two64 = n := by unfold two64; omega
  rw [e2, e3, w64_id (by omega) (by omega)]
  refine lt_f h1 ⟨⟨inU64_of (by omega) (by omega), inU64_of h1 (by omega)⟩, lt_f (by omega) (lt_f (by omega) ⟨⟨h1, by omega, by omega⟩, ?_⟩)⟩
  obtain ⟨k, rfl⟩ := Int.eq_ofNat_of_zero_le h1
  rw [toNat_nat] at hK ⊢
  have e4 : len (zeros k (Ty.dflt Ty.int)) = k := by simp [len, zeros]
  rw [e4]
  have := loop_slices_Repeat_Lint x k (by omega) K hK k (min k 1) (by omega) (by omega) (by omega)
  have e5 : put (zeros k (Ty.dflt Ty.int)) 0 (slc (x :: []) 0 (min k (len (x :: [])))) = List.replicate (min k 1) x ++ List.replicate (k - min k 1) 0 := by
    have h := put_rep x k 0 (min k 1)
    rw [Nat.zero_add] at h
    rw [← h]
    have : slc (x :: []) 0 (min k (len (x :: []))) = List.replicate (min k 1) x := by
      simp only [len, List.length_cons, List.length_nil, slc]
      cases k with
      | zero => simp
      | succ k => rw [show min (k + 1) (0 + 1) = 1 by omega]; rfl
    rw [this]
    rfl
  rw [e5, show min k (len (x :: [])) = min k 1 from rfl]
  exact this
theorem sound_slices_Repeat_Lint : SoundC Tryd.prog tab n_slices_Repeat_Lint c_slices_Repeat_Lint := soundC_of ok_slices_Repeat_Lint hf_slices_Repeat_Lint hB_slices_Repeat_Lint (by
  intro vs bs p v bs' h hp
  unfold c_slices_Repeat_Lint at h
  split at h
  · cases h
    exact ⟨by kernel_rfl, rfl, .inl (run_slices_Repeat_Lint _ _ hp.1 _ ⟨rfl, rfl⟩)⟩
  · cases h)

def c_flash_New : Contract := fun vs bs => match vs, bs with
  | [.one (.dat .int n)], [] => some (none, .tup [.agg [.dat (.list .int) (newFlash n).1.words, .dat .int (newFlash n).1.fuel], .one (.dat .int (newFlash n).2)], [])
  | _, _ => none
def Γ_flash_New : Ctx := [(n_slices_Repeat_Lint, c_slices_Repeat_Lint)]
theorem ok_flash_New : Ok Tryd.prog tab Γ_flash_New := (ok_nil.consC hf_slices_Repeat_Lint hB_slices_Repeat_Lint sound_slices_Repeat_Lint)
theorem flash_New_vc (n : Int) (rec : List It → St → Prop) (K : V → List Blk → Prop) : segD Γ_flash_New tab fn_flash_New 0 K rec [.code (bodyOf fn_flash_New)] (initSt [.one (.dat Ty.int n)] []) = (
    br (lti n (1 : Int))
     (K (.tup [.agg [.dat (Ty.list Ty.int) [], .dat Ty.int (0 : Int)], .one (.dat Ty.int (3 : Int))]) [])
     (br (lti (6 : Int) n)
       (K (.tup [.agg [.dat (Ty.list Ty.int) [], .dat Ty.int (0 : Int)], .one (.dat Ty.int (3 : Int))]) [])
       ((((0 : Int) ≤ (w64 (n * (32 : Int)))) ∧ ((w64 (n * (32 : Int))) ≤ (1000000 : Int))) ∧
        (K (.tup [.agg [.dat (Ty.list Ty.int) (zeros (Int.toNat (w64 (n * (32 : Int)))) (65535 : Int)), .dat Ty.int (-(1 : Int))], .one (.dat Ty.int (0 : Int))]) [])))) := by kernel_rfl
theorem flash_New_w (n : Int) (m : Nat) (K : V → List Blk → Prop) : goD Γ_flash_New tab fn_flash_New 0 K (m + 1) [.code (bodyOf fn_flash_New)] (initSt [.one (.dat Ty.int n)] []) = segD Γ_flash_New tab fn_flash_New 0 K (goD Γ_flash_New tab fn_flash_New 0 K m) [.code (bodyOf fn_flash_New)] (initSt [.one (.dat Ty.int n)] []) := rfl

set_option maxHeartbeats 4000000 in
theorem run_flash_New (n : Int) (K : V → List Blk → Prop) (hK : K (.tup [.agg [.dat (.list .int) (newFlash n).1.words, .dat .int (newFlash n).1.fuel], .one (.dat .int (newFlash n).2)]) []) : ∃ m, goD Γ_flash_New tab fn_flash_New 0 K m [.code (bodyOf fn_flash_New)] (initSt [.one (.dat .int n)] []) := by
  refine ⟨1, ?_⟩
  rw [flash_New_w, flash_New_vc _ _ _]
  unfold newFlash at hK
  refine lt_s (fun h => ?_) (fun h => lt_s (fun h2 => ?_) (fun h2 => ?_))
  · rw [if_neg (by omega)] at hK; exact hK
  · rw [if_neg (by omega)] at hK; exact hK
  · rw [if_pos ⟨h, h2⟩] at hK
    rw [w64_id (by omega) (by omega)]
    exact ⟨⟨by omega, by omega⟩, hK⟩
theorem sound_flash_New : SoundC Tryd.prog tab n_flash_New c_flash_New := soundC_of ok_flash_New hf_flash_New hB_flash_New (by
  intro vs bs p v bs' h hp
  unfold c_flash_New at h
  split at h
  · cases h
    exact ⟨by kernel_rfl, rfl, .inl (run_flash_New _ _ ⟨rfl, rfl⟩)⟩
  · cases h)

def c_slices_Clone_Lint : Contract := fun vs bs => match vs, bs with
  | [.one (.dat (.list .int) l)], [] => some (some (len l * 8 ≤ 140737488355328), .one (.own 0), [.arr .int l])
  | _, _ => none
def Γ_slices_Clone_Lint : Ctx := []
theorem ok_slices_Clone_Lint : Ok Tryd.prog tab Γ_slices_Clone_Lint := ok_nil
theorem slices_Clone_Lint_vc (l : List Int) (rec : List It → St → Prop) (K : V → List Blk → Prop) : segO Γ_slices_Clone_Lint tab fn_slices_Clone_Lint 0 K rec [.code (bodyOf fn_slices_Clone_Lint)] (initSt [.one (.dat (Ty.list Ty.int) l)] []) = (
    (∀ bn : Bool, (((bn = true) → ((len l) = 0)) → br bn
       (K (.one (.own 0)) [.arr Ty.int []])
       ((((0 + (len l)) * 8) ≤ 140737488355328) ∧
        (K (.one (.own 0)) [.arr Ty.int (cat [] l)]))))) := by kernel_rfl
theorem slices_Clone_Lint_w (l : List Int) (m : Nat) (K : V → List Blk → Prop) : goO Γ_slices_Clone_Lint tab fn_slices_Clone_Lint 0 K (m + 1) [.code (bodyOf fn_slices_Clone_Lint)] (initSt [.one (.dat (Ty.list Ty.int) l)] []) = segO Γ_slices_Clone_Lint tab fn_slices_Clone_Lint 0 K (goO Γ_slices_Clone_Lint tab fn_slices_Clone_Lint 0 K m) [.code (bodyOf fn_slices_Clone_Lint)] (initSt [.one (.dat (Ty.list Ty.int) l)] []) := rfl

set_option maxHeartbeats 4000000 in
theorem run_slices_Clone_Lint (l : List Int) (hp : len l * 8 ≤ 140737488355328) (K : V → List Blk → Prop) (hK : K (.one (.own 0)) [.arr .int l]) : ∃ m, goO Γ_slices_Clone_Lint tab fn_slices_Clone_Lint 0 K m [.code (bodyOf fn_slices_Clone_Lint)] (initSt [.one (.dat (.list .int) l)] []) := by
  refine ⟨1, ?_⟩
  rw [slices_Clone_Lint_w, slices_Clone_Lint_vc _ _ _]
  intro bn hb
  refine br_split (fun h => ?_) (fun h => ⟨by simp only [len] at hp ⊢; omega, hK⟩)
  have : l = [] := List.length_eq_zero_iff.1 (hb h)
  subst this
  exact hK
theorem sound_slices_Clone_Lint : SoundC Tryd.prog tab n_slices_Clone_Lint c_slices_Clone_Lint := soundC_of ok_slices_Clone_Lint hf_slices_Clone_Lint hB_slices_Clone_Lint (by
  intro vs bs p v bs' h hp
  unfold c_slices_Clone_Lint at h
  split at h
  · cases h
    exact ⟨by kernel_rfl, rfl, .inr (run_slices_Clone_Lint _ hp.1 _ ⟨rfl, rfl⟩)⟩
  · cases h)

def c_flash_Copy : Contract := fun vs bs => match vs, bs with
  | [.agg [.dat (.list .int) ws, .dat .int fu]], [] => some (some (len ws * 8 ≤ 140737488355328), .agg [.own 0, .dat .int fu], [.arr .int ws])
  | _, _ => none
def Γ_flash_Copy : Ctx := [(n_slices_Clone_Lint, c_slices_Clone_Lint)]
theorem ok_flash_Copy : Ok Tryd.prog tab Γ_flash_Copy := (ok_nil.consC hf_slices_Clone_Lint hB_slices_Clone_Lint sound_slices_Clone_Lint)
theorem flash_Copy_vc (ws : List Int) (fu : Int) (rec : List It → St → Prop) (K : V → List Blk → Prop) : segO Γ_flash_Copy tab fn_flash_Copy 0 K rec [.code (bodyOf fn_flash_Copy)] (initSt [.agg [.dat (Ty.list Ty.int) ws, .dat Ty.int fu]] []) = (
    (((len ws) * 8) ≤ 140737488355328) ∧
    (K (.agg [.own 0, .dat Ty.int fu]) [.arr Ty.int ws])) := by kernel_rfl
theorem flash_Copy_w (ws : List Int) (fu : Int) (m : Nat) (K : V → List Blk → Prop) : goO Γ_flash_Copy tab fn_flash_Copy 0 K (m + 1) [.code (bodyOf fn_flash_Copy)] (initSt [.agg [.dat (Ty.list Ty.int) ws, .dat Ty.int fu]] []) = segO Γ_flash_Copy tab fn_flash_Copy 0 K (goO Γ_flash_Copy tab fn_flash_Copy 0 K m) [.code (bodyOf fn_flash_Copy)] (initSt [.agg [.dat (Ty.list Ty.int) ws, .dat Ty.int fu]] []) := rfl

set_option maxHeartbeats 4000000 in
theorem run_flash_Copy (ws : List Int) (fu : Int) (hp : len ws * 8 ≤ 140737488355328) (K : V → List Blk → Prop) (hK : K (.agg [.own 0, .dat .int fu]) [.arr .int ws]) : ∃ m, goO Γ_flash_Copy tab fn_flash_Copy 0 K m [.code (bodyOf fn_flash_Copy)] (initSt [.agg [.dat (.list .int) ws, .dat .int fu]] []) := by
  refine ⟨1, ?_⟩
  rw [flash_Copy_w, flash_Copy_vc _ _ _ _]
  exact ⟨hp, hK⟩
theorem sound_flash_Copy : SoundC Tryd.prog tab n_flash_Copy c_flash_Copy := soundC_of ok_flash_Copy hf_flash_Copy hB_flash_Copy (by
  intro vs bs p v bs' h hp
  unfold c_flash_Copy at h
  split at h
  · cases h
    exact ⟨by kernel_rfl, rfl, .inr (run_flash_Copy _ _ hp.1 _ ⟨rfl, rfl⟩)⟩
  · cases h)

def c_flash_burn : Contract := fun vs bs => match vs, bs with
  | [.one (.ptr 0 0)], [.box [.own 1, .dat .int fu], .arr .int ws] => some (some (fu ≤ 100000), .one (.dat .bool (!eqi fu 0)), [.box [.own 1, .dat .int (burnFuel fu)], .arr .int ws])
  | _, _ => none
def Γ_flash_burn : Ctx := []
theorem ok_flash_burn : Ok Tryd.prog tab Γ_flash_burn := ok_nil
theorem flash_burn_vc (ws : List Int) (fu : Int) (rec : List It → St → Prop) (K : V → List Blk → Prop) : segD Γ_flash_burn tab fn_flash_burn 2 K rec [.code (bodyOf fn_flash_burn)] (initSt [.one (.ptr 0 0)] [.box [.own 1, .dat Ty.int fu], .arr Ty.int ws]) = (
    br (eqi fu (0 : Int))
     (K (.one (.dat Ty.bool false)) [.box [.own 1, .dat Ty.int fu], .arr Ty.int ws])
     (br (lti (0 : Int) fu)
       (K (.one (.dat Ty.bool true)) [.box [.own 1, .dat Ty.int (w64 (fu - (1 : Int)))], .arr Ty.int ws])
       (K (.one (.dat Ty.bool true)) [.box [.own 1, .dat Ty.int fu], .arr Ty.int ws]))) := by kernel_rfl
theorem flash_burn_w (ws : List Int) (fu : Int) (m : Nat) (K : V → List Blk → Prop) : goD Γ_flash_burn tab fn_flash_burn 2 K (m + 1) [.code (bodyOf fn_flash_burn)] (initSt [.one (.ptr 0 0)] [.box [.own 1, .dat Ty.int fu], .arr Ty.int ws]) = segD Γ_flash_burn tab fn_flash_burn 2 K (goD Γ_flash_burn tab fn_flash_burn 2 K m) [.code (bodyOf fn_flash_burn)] (initSt [.one (.ptr 0 0)] [.box [.own 1, .dat Ty.int fu], .arr Ty.int ws]) := rfl

set_option maxHeartbeats 4000000 in
theorem run_flash_burn (ws : List Int) (fu : Int) (hp : fu ≤ 100000) (K : V → List Blk → Prop) (hK : K (.one (.dat .bool (!eqi fu 0))) [.box [.own 1, .dat .int (burnFuel fu)], .arr .int ws]) : ∃ m, goD Γ_flash_burn tab fn_flash_burn 2 K m [.code (bodyOf fn_flash_burn)] (initSt [.one (.ptr 0 0)] [.box [.own 1, .dat .int fu], .arr .int ws]) := by
  refine ⟨1, ?_⟩
  rw [flash_burn_w, flash_burn_vc _ _ _ _]
  refine eq_s (fun h => ?_) (fun h => lt_s (fun h2 => ?_) (fun h2 => ?_))
  · rw [show (!eqi fu 0) = false from by simp [eqi, h], show burnFuel fu = fu from by simp [burnFuel, h]] at hK; exact hK
  · rw [show (!eqi fu 0) = true from by simp [eqi, h], show burnFuel fu = fu - 1 from by simp [burnFuel, h2]] at hK
    rw [w64_id (by omega) (by omega)]; exact hK
  · rw [show (!eqi fu 0) = true from by simp [eqi, h], show burnFuel fu = fu from by simp only [burnFuel]; rw [if_neg (by omega)]] at hK; exact hK
theorem sound_flash_burn : SoundC Tryd.prog tab n_flash_burn c_flash_burn := soundC_of ok_flash_burn hf_flash_burn hB_flash_burn (by
  intro vs bs p v bs' h hp
  unfold c_flash_burn at h
  split at h
  · cases h
    exact ⟨by kernel_rfl, rfl, .inl (run_flash_burn _ _ hp.1 _ ⟨rfl, rfl⟩)⟩
  · cases h)

def c_flash_Wipe : Contract := fun vs bs => match vs, bs with
  | [.one (.ptr 0 0), .one (.dat .int sector)], [.box [.own 1, .dat .int fu], .arr .int ws] => some (some (-1 ≤ fu ∧ fu ≤ 100000 ∧ 0 ≤ sector ∧ (sector + 1) * 32 ≤ (len ws : Nat) ∧ len ws ≤ 192), .one (.dat .bool (doCh ⟨ws, fu⟩ (wipeCh sector)).2), [.box [.own 1, .dat .int (doCh ⟨ws, fu⟩ (wipeCh sector)).1.fuel], .arr .int (doCh ⟨ws, fu⟩ (wipeCh sector)).1.words])
  | _, _ => none
def Γ_flash_Wipe : Ctx := [(n_flash_burn, c_flash_burn)]
theorem ok_flash_Wipe : Ok Tryd.prog tab Γ_flash_Wipe := (ok_nil.consC hf_flash_burn hB_flash_burn sound_flash_burn)
noncomputable def flash_Wipe_L0 : List It := [.inLoop [6, 4, 0, 1] (Code.sub (bodyOf fn_flash_Wipe) [1, 0, 1, 0, 0]), .inBlock 0, .code (Code.sub (bodyOf fn_flash_Wipe) [1, 1])]
def flash_Wipe_S0 (x0 : Int) (x1 : Bool) (x2 : Int) (x3 : Int) (x4 : (List Int)) : St := ⟨[(6, .one (.dat Ty.int x0)), (4, .one (.dat Ty.bool x1)), (0, .one (.ptr 0 0)), (1, .one (.dat Ty.int x2))], [(0, .box [.own 1, .dat Ty.int x3]), (1, .arr Ty.int x4)], 2⟩
theorem flash_Wipe_vc (ws : List Int) (fu : Int) (sector : Int) (rec : List It → St → Prop) (K : V → List Blk → Prop) : segD Γ_flash_Wipe tab fn_flash_Wipe 2 K rec [.code (bodyOf fn_flash_Wipe)] (initSt [.one (.ptr 0 0), .one (.dat Ty.int sector)] [.box [.own 1, .dat Ty.int fu], .arr Ty.int ws]) = (
    rec flash_Wipe_L0 (flash_Wipe_S0 (0 : Int) false sector fu ws)) := by kernel_rfl
theorem flash_Wipe_w (ws : List Int) (fu : Int) (sector : Int) (m : Nat) (K : V → List Blk → Prop) : goD Γ_flash_Wipe tab fn_flash_Wipe 2 K (m + 1) [.code (bodyOf fn_flash_Wipe)] (initSt [.one (.ptr 0 0), .one (.dat Ty.int sector)] [.box [.own 1, .dat Ty.int fu], .arr Ty.int ws]) = segD Γ_flash_Wipe tab fn_flash_Wipe 2 K (goD Γ_flash_Wipe tab fn_flash_Wipe 2 K m) [.code (bodyOf fn_flash_Wipe)] (initSt [.one (.ptr 0 0), .one (.dat Ty.int sector)] [.box [.own 1, .dat Ty.int fu], .arr Ty.int ws]) := rfl
theorem flash_Wipe_vc0 (x0 : Int) (x1 : Bool) (x2 : Int) (x3 : Int) (x4 : (List Int)) (rec : List It → St → Prop) (K : V → List Blk → Prop) v0 (hv0 : v0 = (burnFuel x3)) : segD Γ_flash_Wipe tab fn_flash_Wipe 2 K rec (.code (Code.sub (bodyOf fn_flash_Wipe) [1, 0, 1, 0, 0]) :: flash_Wipe_L0) (flash_Wipe_S0 x0 x1 x2 x3 x4) = (
    br (lti x0 (32 : Int))
     ((x3 ≤ (100000 : Int)) ∧
      (br (!(!(eqi x3 (0 : Int))))
       (K (.one (.dat Ty.bool false)) [.box [.own 1, .dat Ty.int v0], .arr Ty.int x4])
       ((((0 : Int) ≤ (w64 ((w64 (x2 * (32 : Int))) + x0))) ∧ ((w64 ((w64 (x2 * (32 : Int))) + x0)) < (((len x4) : Nat) : Int))) ∧
        (((Int.toNat (w64 ((w64 (x2 * (32 : Int))) + x0))) < (len x4)) ∧
        (rec flash_Wipe_L0 (flash_Wipe_S0 (w64 (x0 + (1 : Int))) x1 x2 v0 (setAt x4 (Int.toNat (w64 ((w64 (x2 * (32 : Int))) + x0))) (65535 : Int))))))))
     (K (.one (.dat Ty.bool true)) [.box [.own 1, .dat Ty.int x3], .arr Ty.int x4])) := by subst hv0; kernel_rfl
theorem flash_Wipe_w0 (x0 : Int) (x1 : Bool) (x2 : Int) (x3 : Int) (x4 : (List Int)) (m : Nat) (K : V → List Blk → Prop) : goD Γ_flash_Wipe tab fn_flash_Wipe 2 K (m + 1) flash_Wipe_L0 (flash_Wipe_S0 x0 x1 x2 x3 x4) = segD Γ_flash_Wipe tab fn_flash_Wipe 2 K (goD Γ_flash_Wipe tab fn_flash_Wipe 2 K m) (.code (Code.sub (bodyOf fn_flash_Wipe) [1, 0, 1, 0, 0]) :: flash_Wipe_L0) (flash_Wipe_S0 x0 x1 x2 x3 x4) := rfl

theorem loop_flash_Wipe (sector : Int) (hs : 0 ≤ sector) (K : V → List Blk → Prop) : ∀ (n : Nat) (ws : List Int) (fu : Int), n ≤ 32 → -1 ≤ fu → fu ≤ 100000 → (sector + 1) * 32 ≤ (ws.length : Nat) → ws.length ≤ 192 →
    K (.one (.dat .bool (doCh ⟨ws, fu⟩ (wipeFrom (32 * sector + (32 - n)) n)).2)) [.box [.own 1, .dat .int (doCh ⟨ws, fu⟩ (wipeFrom (32 * sector + (32 - n)) n)).1.fuel], .arr .int (doCh ⟨ws, fu⟩ (wipeFrom (32 * sector + (32 - n)) n)).1.words] →
    goD Γ_flash_Wipe tab fn_flash_Wipe 2 K (n + 1) flash_Wipe_L0 (flash_Wipe_S0 (32 - n) false sector fu ws)
  | 0, ws, fu, hn, h1, h2, h3, h4, hK => by
    rw [flash_Wipe_w0, flash_Wipe_vc0 _ _ _ _ _ _ _ _ rfl]
    refine lt_f (by omega) ?_
    simp only [wipeFrom, doCh_nil] at hK
    exact hK
  | n + 1, ws, fu, hn, h1, h2, h3, h4, hK => by
    rw [flash_Wipe_w0, flash_Wipe_vc0 _ _ _ _ _ _ _ _ rfl]
    have e1 : w64 ((w64 (sector * 32)) + (32 - ((n + 1 : Nat) : Int))) = 32 * sector + (32 - ((n + 1 : Nat) : Int)) := by
      rw [w64_id (n := sector * 32) (by omega) (by omega), w64_id (by omega) (by omega)]; omega
    rw [e1]
    simp only [wipeFrom, doCh_cons] at hK
    refine lt_t (by omega) ⟨h2, ?_⟩
    by_cases h0 : fu = 0
    · subst h0
      refine br_t (by simp [eqi]) ?_
      simp only [if_true] at hK
      exact hK
    · rw [if_neg h0] at hK
      refine br_f (by simp [eqi, h0]) ⟨⟨by omega, by simp only [len]; omega⟩, by simp only [len]; omega, ?_⟩
      rw [w64_id (by omega) (by omega), show (32 - ((n + 1 : Nat) : Int)) + 1 = 32 - (n : Int) by omega]
      refine loop_flash_Wipe sector hs K n _ _ (by omega) ?_ ?_ (by simp [setAt]; omega) (by simpa [setAt] using h4) ?_
      · unfold burnFuel; split <;> omega
      · unfold burnFuel; split <;> omega
      · rw [show (32 * sector + (32 - ((n + 1 : Nat) : Int))) + 1 = 32 * sector + (32 - (n : Int)) by omega] at hK
        exact hK
set_option maxHeartbeats 4000000 in
theorem run_flash_Wipe (ws : List Int) (fu sector : Int) (hp : -1 ≤ fu ∧ fu ≤ 100000 ∧ 0 ≤ sector ∧ (sector + 1) * 32 ≤ (len ws : Nat) ∧ len ws ≤ 192) (K : V → List Blk → Prop) (hK : K (.one (.dat .bool (doCh ⟨ws, fu⟩ (wipeCh sector)).2)) [.box [.own 1, .dat .int (doCh ⟨ws, fu⟩ (wipeCh sector)).1.fuel], .arr .int (doCh ⟨ws, fu⟩ (wipeCh sector)).1.words]) : ∃ m, goD Γ_flash_Wipe tab fn_flash_Wipe 2 K m [.code (bodyOf fn_flash_Wipe)] (initSt [.one (.ptr 0 0), .one (.dat .int sector)] [.box [.own 1, .dat .int fu], .arr .int ws]) := by
  obtain ⟨h1, h2, h3, h4, h5⟩ := hp
  refine ⟨34, ?_⟩
  rw [flash_Wipe_w, flash_Wipe_vc _ _ _ _ _]
  exact loop_flash_Wipe sector h3 K 32 ws fu (by omega) h1 h2 (by simpa [len] using h4) h5 (by simpa [wipeCh] using hK)
theorem sound_flash_Wipe : SoundC Tryd.prog tab n_flash_Wipe c_flash_Wipe := soundC_of ok_flash_Wipe hf_flash_Wipe hB_flash_Wipe (by
  intro vs bs p v bs' h hp
  unfold c_flash_Wipe at h
  split at h
  · cases h
    exact ⟨by kernel_rfl, rfl, .inl (run_flash_Wipe _ _ _ hp.1 _ ⟨rfl, rfl⟩)⟩
  · cases h)

abbrev n_flash_Burn_b : Nat := n_flash_Burn
noncomputable abbrev fn_flash_Burn_b : Func := fn_flash_Burn
theorem hf_flash_Burn_b : Tryd.prog.funcs[n_flash_Burn_b]? = some fn_flash_Burn_b := hf_flash_Burn
theorem hB_flash_Burn_b : fnB fn_flash_Burn_b = true := hB_flash_Burn
def c_flash_Burn_b : Contract := fun vs bs => match vs, bs with
  | [.one (.ptr 0 0), .one (.dat .int at_), .one (.own 1)], [.box [.own 2, .dat .int fu], .arr .int l, .arr .int ws] => some (some (-1 ≤ fu ∧ fu ≤ 100000 ∧ 0 ≤ at_ ∧ at_ + (len l : Nat) ≤ (len ws : Nat) ∧ len ws ≤ 192), .one (.dat .bool (doCh ⟨ws, fu⟩ (burnCh at_ l)).2), [.box [.own 2, .dat .int (doCh ⟨ws, fu⟩ (burnCh at_ l)).1.fuel], .arr .int l, .arr .int (doCh ⟨ws, fu⟩ (burnCh at_ l)).1.words])
  | _, _ => none
def Γ_flash_Burn_b : Ctx := [(n_flash_burn, c_flash_burn)]
theorem ok_flash_Burn_b : Ok Tryd.prog tab Γ_flash_Burn_b := (ok_nil.consC hf_flash_burn hB_flash_burn sound_flash_burn)
noncomputable def flash_Burn_b_L0 : List It := [.inLoop [11, 10, 9, 6, 0, 1] (Code.sub (bodyOf fn_flash_Burn_b) [1, 0, 1, 0, 0]), .inBlock 0, .code (Code.sub (bodyOf fn_flash_Burn_b) [1, 1])]
def flash_Burn_b_S0 (x0 : Int) (x1 : Int) (x2 : Bool) (x3 : Int) (x4 : Int) (x5 : (List Int)) (x6 : (List Int)) : St := ⟨[(11, .one (.dat Ty.int x0)), (10, .one (.dat Ty.int x1)), (9, .one (.own 1)), (6, .one (.dat Ty.bool x2)), (0, .one (.ptr 0 0)), (1, .one (.dat Ty.int x3))], [(0, .box [.own 2, .dat Ty.int x4]), (1, .arr Ty.int x5), (2, .arr Ty.int x6)], 3⟩
theorem flash_Burn_b_vc (ws : List Int) (fu : Int) (at_ : Int) (l : List Int) (rec : List It → St → Prop) (K : V → List Blk → Prop) : segD Γ_flash_Burn_b tab fn_flash_Burn_b 3 K rec [.code (bodyOf fn_flash_Burn_b)] (initSt [.one (.ptr 0 0), .one (.dat Ty.int at_), .one (.own 1)] [.box [.own 2, .dat Ty.int fu], .arr Ty.int l, .arr Ty.int ws]) = (
    rec flash_Burn_b_L0 (flash_Burn_b_S0 (0 : Int) (((len l) : Nat) : Int) false at_ fu l ws)) := by kernel_rfl
theorem flash_Burn_b_w (ws : List Int) (fu : Int) (at_ : Int) (l : List Int) (m : Nat) (K : V → List Blk → Prop) : goD Γ_flash_Burn_b tab fn_flash_Burn_b 3 K (m + 1) [.code (bodyOf fn_flash_Burn_b)] (initSt [.one (.ptr 0 0), .one (.dat Ty.int at_), .one (.own 1)] [.box [.own 2, .dat Ty.int fu], .arr Ty.int l, .arr Ty.int ws]) = segD Γ_flash_Burn_b tab fn_flash_Burn_b 3 K (goD Γ_flash_Burn_b tab fn_flash_Burn_b 3 K m) [.code (bodyOf fn_flash_Burn_b)] (initSt [.one (.ptr 0 0), .one (.dat Ty.int at_), .one (.own 1)] [.box [.own 2, .dat Ty.int fu], .arr Ty.int l, .arr Ty.int ws]) := rfl
theorem flash_Burn_b_vc0 (x0 : Int) (x1 : Int) (x2 : Bool) (x3 : Int) (x4 : Int) (x5 : (List Int)) (x6 : (List Int)) (rec : List It → St → Prop) (K : V → List Blk → Prop) v0 (hv0 : v0 = (burnFuel x4)) : segD Γ_flash_Burn_b tab fn_flash_Burn_b 3 K rec (.code (Code.sub (bodyOf fn_flash_Burn_b) [1, 0, 1, 0, 0]) :: flash_Burn_b_L0) (flash_Burn_b_S0 x0 x1 x2 x3 x4 x5 x6) = (
    br (lti x0 x1)
     ((((0 : Int) ≤ x0) ∧ (x0 < (((len x5) : Nat) : Int))) ∧
      (((Int.toNat x0) < (len x5)) ∧
      ((x4 ≤ (100000 : Int)) ∧
      (br (!(!(eqi x4 (0 : Int))))
       (K (.one (.dat Ty.bool false)) [.box [.own 2, .dat Ty.int v0], .arr Ty.int x5, .arr Ty.int x6])
       ((((0 : Int) ≤ (w64 (x3 + x0))) ∧ ((w64 (x3 + x0)) < (((len x6) : Nat) : Int))) ∧
        (((Int.toNat (w64 (x3 + x0))) < (len x6)) ∧
        ((((0 : Int) ≤ (w64 (x3 + x0))) ∧ ((w64 (x3 + x0)) < (((len x6) : Nat) : Int))) ∧
        (((Int.toNat (w64 (x3 + x0))) < (len x6)) ∧
        (rec flash_Burn_b_L0 (flash_Burn_b_S0 (w64 (x0 + (1 : Int))) x1 x2 x3 v0 x5 (setAt x6 (Int.toNat (w64 (x3 + x0))) (andi (nth x6 (Int.toNat (w64 (x3 + x0))) (Ty.dflt Ty.int)) (nth x5 (Int.toNat x0) (Ty.dflt Ty.int))))))))))))))
     (K (.one (.dat Ty.bool true)) [.box [.own 2, .dat Ty.int x4], .arr Ty.int x5, .arr Ty.int x6])) := by subst hv0; kernel_rfl
theorem flash_Burn_b_w0 (x0 : Int) (x1 : Int) (x2 : Bool) (x3 : Int) (x4 : Int) (x5 : (List Int)) (x6 : (List Int)) (m : Nat) (K : V → List Blk → Prop) : goD Γ_flash_Burn_b tab fn_flash_Burn_b 3 K (m + 1) flash_Burn_b_L0 (flash_Burn_b_S0 x0 x1 x2 x3 x4 x5 x6) = segD Γ_flash_Burn_b tab fn_flash_Burn_b 3 K (goD Γ_flash_Burn_b tab fn_flash_Burn_b 3 K m) (.code (Code.sub (bodyOf fn_flash_Burn_b) [1, 0, 1, 0, 0]) :: flash_Burn_b_L0) (flash_Burn_b_S0 x0 x1 x2 x3 x4 x5 x6) := rfl

theorem loop_flash_Burn_b (at_ : Int) (hs : 0 ≤ at_) (l : List Int) (K : V → List Blk → Prop) : ∀ (n : Nat) (k : Nat) (ws : List Int) (fu : Int), k + n = l.length → -1 ≤ fu → fu ≤ 100000 → at_ + (l.length : Nat) ≤ (ws.length : Nat) → ws.length ≤ 192 →
    K (.one (.dat .bool (doCh ⟨ws, fu⟩ (burnCh (at_ + k) (l.drop k))).2)) [.box [.own 2, .dat .int (doCh ⟨ws, fu⟩ (burnCh (at_ + k) (l.drop k))).1.fuel], .arr .int l, .arr .int (doCh ⟨ws, fu⟩ (burnCh (at_ + k) (l.drop k))).1.words] →
    goD Γ_flash_Burn_b tab fn_flash_Burn_b 3 K (n + 1) flash_Burn_b_L0 (flash_Burn_b_S0 (k : Int) (((len l) : Nat) : Int) false at_ fu l ws)
  | 0, k, ws, fu, hk, h1, h2, h3, h4, hK => by
    rw [flash_Burn_b_w0, flash_Burn_b_vc0 _ _ _ _ _ _ _ _ _ _ rfl]
    refine lt_f (by simp only [len]; omega) ?_
    rw [List.drop_of_length_le (by omega)] at hK
    simp only [burnCh, doCh_nil] at hK
    exact hK
  | n + 1, k, ws, fu, hk, h1, h2, h3, h4, hK => by
    rw [flash_Burn_b_w0, flash_Burn_b_vc0 _ _ _ _ _ _ _ _ _ _ rfl]
    rw [w64_id (n := at_ + k) (by omega) (by omega)]
    rw [drop_step (by omega) (Ty.dflt Ty.int)] at hK
    simp only [burnCh, doCh_cons] at hK
    refine lt_t (by simp only [len]; omega) ⟨⟨by omega, by simp only [len]; omega⟩, by simp only [len]; omega, h2, ?_⟩
    by_cases h0 : fu = 0
    · subst h0
      refine br_t (by simp [eqi]) ?_
      simp only [if_true] at hK
      exact hK
    · rw [if_neg h0] at hK
      refine br_f (by simp [eqi, h0]) ⟨⟨by omega, by simp only [len]; omega⟩, by simp only [len]; omega, ⟨by omega, by simp only [len]; omega⟩, by simp only [len]; omega, ?_⟩
      rw [w64_succ (by omega)]
      refine loop_flash_Burn_b at_ hs l K n (k + 1) _ _ (by omega) ?_ ?_ (by simpa [setAt] using h3) (by simpa [setAt] using h4) ?_
      · unfold burnFuel; split <;> omega
      · unfold burnFuel; split <;> omega
      · rw [show at_ + ((k + 1 : Nat) : Int) = at_ + k + 1 by omega]
        exact hK
set_option maxHeartbeats 4000000 in
theorem run_flash_Burn_b (ws : List Int) (fu at_ : Int) (l : List Int) (hp : -1 ≤ fu ∧ fu ≤ 100000 ∧ 0 ≤ at_ ∧ at_ + (len l : Nat) ≤ (len ws : Nat) ∧ len ws ≤ 192) (K : V → List Blk → Prop) (hK : K (.one (.dat .bool (doCh ⟨ws, fu⟩ (burnCh at_ l)).2)) [.box [.own 2, .dat .int (doCh ⟨ws, fu⟩ (burnCh at_ l)).1.fuel], .arr .int l, .arr .int (doCh ⟨ws, fu⟩ (burnCh at_ l)).1.words]) : ∃ m, goD Γ_flash_Burn_b tab fn_flash_Burn_b 3 K m [.code (bodyOf fn_flash_Burn_b)] (initSt [.one (.ptr 0 0), .one (.dat .int at_), .one (.own 1)] [.box [.own 2, .dat .int fu], .arr .int l, .arr .int ws]) := by
  obtain ⟨h1, h2, h3, h4, h5⟩ := hp
  refine ⟨l.length + 2, ?_⟩
  rw [flash_Burn_b_w, flash_Burn_b_vc _ _ _ _ _ _]
  exact loop_flash_Burn_b at_ h3 l K l.length 0 ws fu (by omega) h1 h2 h4 h5 (by simpa using hK)
theorem sound_flash_Burn_b : SoundC Tryd.prog tab n_flash_Burn_b c_flash_Burn_b := soundC_of ok_flash_Burn_b hf_flash_Burn_b hB_flash_Burn_b (by
  intro vs bs p v bs' h hp
  unfold c_flash_Burn_b at h
  split at h
  · cases h
    exact ⟨by kernel_rfl, rfl, .inl (run_flash_Burn_b _ _ _ _ hp.1 _ ⟨rfl, rfl⟩)⟩
  · cases h)

def c_flash_Burn : Contract := fun vs bs => match vs, bs with
  | [.one (.ptr 0 0), .one (.dat .int at_), .one (.dat (.list .int) l)], [.box [.own 1, .dat .int fu], .arr .int ws] => some (some (-1 ≤ fu ∧ fu ≤ 100000 ∧ 0 ≤ at_ ∧ at_ + (len l : Nat) ≤ (len ws : Nat) ∧ len ws ≤ 192), .one (.dat .bool (doCh ⟨ws, fu⟩ (burnCh at_ l)).2), [.box [.own 1, .dat .int (doCh ⟨ws, fu⟩ (burnCh at_ l)).1.fuel], .arr .int (doCh ⟨ws, fu⟩ (burnCh at_ l)).1.words])
  | _, _ => none
def Γ_flash_Burn : Ctx := [(n_flash_burn, c_flash_burn)]
theorem ok_flash_Burn : Ok Tryd.prog tab Γ_flash_Burn := (ok_nil.consC hf_flash_burn hB_flash_burn sound_flash_burn)
noncomputable def flash_Burn_L0 : List It := [.inLoop [11, 10, 9, 6, 0, 1] (Code.sub (bodyOf fn_flash_Burn) [1, 0, 1, 0, 0]), .inBlock 0, .code (Code.sub (bodyOf fn_flash_Burn) [1, 1])]
def flash_Burn_S0 (x0 : Int) (x1 : Int) (x2 : (List Int)) (x3 : Bool) (x4 : Int) (x5 : Int) (x6 : (List Int)) : St := ⟨[(11, .one (.dat Ty.int x0)), (10, .one (.dat Ty.int x1)), (9, .one (.dat (Ty.list Ty.int) x2)), (6, .one (.dat Ty.bool x3)), (0, .one (.ptr 0 0)), (1, .one (.dat Ty.int x4))], [(0, .box [.own 1, .dat Ty.int x5]), (1, .arr Ty.int x6)], 2⟩
theorem flash_Burn_vc (ws : List Int) (fu : Int) (at_ : Int) (l : List Int) (rec : List It → St → Prop) (K : V → List Blk → Prop) : segD Γ_flash_Burn tab fn_flash_Burn 2 K rec [.code (bodyOf fn_flash_Burn)] (initSt [.one (.ptr 0 0), .one (.dat Ty.int at_), .one (.dat (Ty.list Ty.int) l)] [.box [.own 1, .dat Ty.int fu], .arr Ty.int ws]) = (
    rec flash_Burn_L0 (flash_Burn_S0 (0 : Int) (((len l) : Nat) : Int) l false at_ fu ws)) := by kernel_rfl
theorem flash_Burn_w (ws : List Int) (fu : Int) (at_ : Int) (l : List Int) (m : Nat) (K : V → List Blk → Prop) : goD Γ_flash_Burn tab fn_flash_Burn 2 K (m + 1) [.code (bodyOf fn_flash_Burn)] (initSt [.one (.ptr 0 0), .one (.dat Ty.int at_), .one (.dat (Ty.list Ty.int) l)] [.box [.own 1, .dat Ty.int fu], .arr Ty.int ws]) = segD Γ_flash_Burn tab fn_flash_Burn 2 K (goD Γ_flash_Burn tab fn_flash_Burn 2 K m) [.code (bodyOf fn_flash_Burn)] (initSt [.one (.ptr 0 0), .one (.dat Ty.int at_), .one (.dat (Ty.list Ty.int) l)] [.box [.own 1, .dat Ty.int fu], .arr Ty.int ws]) := rfl
theorem flash_Burn_vc0 (x0 : Int) (x1 : Int) (x2 : (List Int)) (x3 : Bool) (x4 : Int) (x5 : Int) (x6 : (List Int)) (rec : List It → St → Prop) (K : V → List Blk → Prop) v0 (hv0 : v0 = (burnFuel x5)) : segD Γ_flash_Burn tab fn_flash_Burn 2 K rec (.code (Code.sub (bodyOf fn_flash_Burn) [1, 0, 1, 0, 0]) :: flash_Burn_L0) (flash_Burn_S0 x0 x1 x2 x3 x4 x5 x6) = (
    br (lti x0 x1)
     ((((0 : Int) ≤ x0) ∧ (x0 < (((len x2) : Nat) : Int))) ∧
      ((x5 ≤ (100000 : Int)) ∧
      (br (!(!(eqi x5 (0 : Int))))
       (K (.one (.dat Ty.bool false)) [.box [.own 1, .dat Ty.int v0], .arr Ty.int x6])
       ((((0 : Int) ≤ (w64 (x4 + x0))) ∧ ((w64 (x4 + x0)) < (((len x6) : Nat) : Int))) ∧
        (((Int.toNat (w64 (x4 + x0))) < (len x6)) ∧
        ((((0 : Int) ≤ (w64 (x4 + x0))) ∧ ((w64 (x4 + x0)) < (((len x6) : Nat) : Int))) ∧
        (((Int.toNat (w64 (x4 + x0))) < (len x6)) ∧
        (rec flash_Burn_L0 (flash_Burn_S0 (w64 (x0 + (1 : Int))) x1 x2 x3 x4 v0 (setAt x6 (Int.toNat (w64 (x4 + x0))) (andi (nth x6 (Int.toNat (w64 (x4 + x0))) (Ty.dflt Ty.int)) (nth x2 (Int.toNat x0) (Ty.dflt Ty.int)))))))))))))
     (K (.one (.dat Ty.bool true)) [.box [.own 1, .dat Ty.int x5], .arr Ty.int x6])) := by subst hv0; kernel_rfl
theorem flash_Burn_w0 (x0 : Int) (x1 : Int) (x2 : (List Int)) (x3 : Bool) (x4 : Int) (x5 : Int) (x6 : (List Int)) (m : Nat) (K : V → List Blk → Prop) : goD Γ_flash_Burn tab fn_flash_Burn 2 K (m + 1) flash_Burn_L0 (flash_Burn_S0 x0 x1 x2 x3 x4 x5 x6) = segD Γ_flash_Burn tab fn_flash_Burn 2 K (goD Γ_flash_Burn tab fn_flash_Burn 2 K m) (.code (Code.sub (bodyOf fn_flash_Burn) [1, 0, 1, 0, 0]) :: flash_Burn_L0) (flash_Burn_S0 x0 x1 x2 x3 x4 x5 x6) := rfl

theorem loop_flash_Burn (at_ : Int) (hs : 0 ≤ at_) (l : List Int) (K : V → List Blk → Prop) : ∀ (n : Nat) (k : Nat) (ws : List Int) (fu : Int), k + n = l.length → -1 ≤ fu → fu ≤ 100000 → at_ + (l.length : Nat) ≤ (ws.length : Nat) → ws.length ≤ 192 →
    K (.one (.dat .bool (doCh ⟨ws, fu⟩ (burnCh (at_ + k) (l.drop k))).2)) [.box [.own 1, .dat .int (doCh ⟨ws, fu⟩ (burnCh (at_ + k) (l.drop k))).1.fuel], .arr .int (doCh ⟨ws, fu⟩ (burnCh (at_ + k) (l.drop k))).1.words] →
    goD Γ_flash_Burn tab fn_flash_Burn 2 K (n + 1) flash_Burn_L0 (flash_Burn_S0 (k : Int) (((len l) : Nat) : Int) l false at_ fu ws)
  | 0, k, ws, fu, hk, h1, h2, h3, h4, hK => by
    rw [flash_Burn_w0, flash_Burn_vc0 _ _ _ _ _ _ _ _ _ _ rfl]
    refine lt_f (by simp only [len]; omega) ?_
    rw [List.drop_of_length_le (by omega)] at hK
    simp only [burnCh, doCh_nil] at hK
    exact hK
  | n + 1, k, ws, fu, hk, h1, h2, h3, h4, hK => by
    rw [flash_Burn_w0, flash_Burn_vc0 _ _ _ _ _ _ _ _ _ _ rfl]
    rw [w64_id (n := at_ + k) (by omega) (by omega)]
    rw [drop_step (by omega) (Ty.dflt Ty.int)] at hK
    simp only [burnCh, doCh_cons] at hK
    refine lt_t (by simp only [len]; omega) ⟨⟨by omega, by simp only [len]; omega⟩, h2, ?_⟩
    by_cases h0 : fu = 0
    · subst h0
      refine br_t (by simp [eqi]) ?_
      simp only [if_true] at hK
      exact hK
    · rw [if_neg h0] at hK
      refine br_f (by simp [eqi, h0]) ⟨⟨by omega, by simp only [len]; omega⟩, by simp only [len]; omega, ⟨by omega, by simp only [len]; omega⟩, by simp only [len]; omega, ?_⟩
      rw [w64_succ (by omega)]
      refine loop_flash_Burn at_ hs l K n (k + 1) _ _ (by omega) ?_ ?_ (by simpa [setAt] using h3) (by simpa [setAt] using h4) ?_
      · unfold burnFuel; split <;> omega
      · unfold burnFuel; split <;> omega
      · rw [show at_ + ((k + 1 : Nat) : Int) = at_ + k + 1 by omega]
        exact hK
set_option maxHeartbeats 4000000 in
theorem run_flash_Burn (ws : List Int) (fu at_ : Int) (l : List Int) (hp : -1 ≤ fu ∧ fu ≤ 100000 ∧ 0 ≤ at_ ∧ at_ + (len l : Nat) ≤ (len ws : Nat) ∧ len ws ≤ 192) (K : V → List Blk → Prop) (hK : K (.one (.dat .bool (doCh ⟨ws, fu⟩ (burnCh at_ l)).2)) [.box [.own 1, .dat .int (doCh ⟨ws, fu⟩ (burnCh at_ l)).1.fuel], .arr .int (doCh ⟨ws, fu⟩ (burnCh at_ l)).1.words]) : ∃ m, goD Γ_flash_Burn tab fn_flash_Burn 2 K m [.code (bodyOf fn_flash_Burn)] (initSt [.one (.ptr 0 0), .one (.dat .int at_), .one (.dat (.list .int) l)] [.box [.own 1, .dat .int fu], .arr .int ws]) := by
  obtain ⟨h1, h2, h3, h4, h5⟩ := hp
  refine ⟨l.length + 2, ?_⟩
  rw [flash_Burn_w, flash_Burn_vc _ _ _ _ _ _]
  exact loop_flash_Burn at_ h3 l K l.length 0 ws fu (by omega) h1 h2 h4 h5 (by simpa using hK)
theorem sound_flash_Burn : SoundC Tryd.prog tab n_flash_Burn c_flash_Burn := soundC_of ok_flash_Burn hf_flash_Burn hB_flash_Burn (by
  intro vs bs p v bs' h hp
  unfold c_flash_Burn at h
  split at h
  · cases h
    exact ⟨by kernel_rfl, rfl, .inl (run_flash_Burn _ _ _ _ hp.1 _ ⟨rfl, rfl⟩)⟩
  · cases h)

def c_log_Format : Contract := fun vs bs => match vs, bs with
  | [.agg [.dat (.list .int) ws, .dat .int fu]], [] => some (none, .tup [.agg [.dat (.list .int) (formatF ⟨ws, fu⟩).1.words, .dat .int (formatF ⟨ws, fu⟩).1.fuel], .one (.dat .int (formatF ⟨ws, fu⟩).2)], [])
  | _, _ => none
def Γ_log_Format : Ctx := [(n_flash_Check, c_flash_Check), (n_flash_Copy, c_flash_Copy), (n_flash_Wipe, c_flash_Wipe), (n_flash_Burn, (orC c_flash_Burn c_flash_Burn_b))]
theorem ok_log_Format : Ok Tryd.prog tab Γ_log_Format := ((((ok_nil.consC hf_flash_Burn hB_flash_Burn (soundC_or sound_flash_Burn sound_flash_Burn_b)).consC hf_flash_Wipe hB_flash_Wipe sound_flash_Wipe).consC hf_flash_Copy hB_flash_Copy sound_flash_Copy).consC hf_flash_Check hB_flash_Check sound_flash_Check)
theorem log_Format_vc (ws : List Int) (fu : Int) (rec : List It → St → Prop) (K : V → List Blk → Prop) v0 (hv0 : v0 = (checkFlash (⟨ws, fu⟩ : Flash))) v1 (hv1 : v1 = (wipeCh (1 : Int))) v2 (hv2 : v2 = (doCh (⟨ws, fu⟩ : Flash) v1)) v3 (hv3 : v3 = (wipeCh (0 : Int))) v4 (hv4 : v4 = (doCh (⟨((v2).fst).words, ((v2).fst).fuel⟩ : Flash) v3)) v5 (hv5 : v5 = (burnCh (0 : Int) ((1 : Int) :: []))) v6 (hv6 : v6 = (doCh (⟨((v4).fst).words, ((v4).fst).fuel⟩ : Flash) v5)) : segD Γ_log_Format tab fn_log_Format 0 K rec [.code (bodyOf fn_log_Format)] (initSt [.agg [.dat (Ty.list Ty.int) ws, .dat Ty.int fu]] []) = (
    br (!(eqi v0 (0 : Int)))
     (K (.tup [.agg [.dat (Ty.list Ty.int) [], .dat Ty.int (0 : Int)], .one (.dat Ty.int v0)]) [])
     (br (lti (((len ws) : Nat) : Int) (64 : Int))
       (K (.tup [.agg [.dat (Ty.list Ty.int) [], .dat Ty.int (0 : Int)], .one (.dat Ty.int (4 : Int))]) [])
       ((((len ws) * 8) ≤ 140737488355328) ∧
        ((((-(1 : Int)) ≤ fu) ∧ ((fu ≤ (100000 : Int)) ∧ (((0 : Int) ≤ (1 : Int)) ∧ (((((1 : Int) + (1 : Int)) * (32 : Int)) ≤ (((len ws) : Nat) : Int)) ∧ ((len ws) ≤ 192))))) ∧
        (br (!(v2).snd)
         (K (.tup [.agg [.dat (Ty.list Ty.int) ((v2).fst).words, .dat Ty.int ((v2).fst).fuel], .one (.dat Ty.int (7 : Int))]) [])
         ((((-(1 : Int)) ≤ ((v2).fst).fuel) ∧ ((((v2).fst).fuel ≤ (100000 : Int)) ∧ (((0 : Int) ≤ (0 : Int)) ∧ (((((0 : Int) + (1 : Int)) * (32 : Int)) ≤ (((len ((v2).fst).words) : Nat) : Int)) ∧ ((len ((v2).fst).words) ≤ 192))))) ∧
          (br (!(v4).snd)
           (K (.tup [.agg [.dat (Ty.list Ty.int) ((v4).fst).words, .dat Ty.int ((v4).fst).fuel], .one (.dat Ty.int (7 : Int))]) [])
           ((((-(1 : Int)) ≤ ((v4).fst).fuel) ∧ ((((v4).fst).fuel ≤ (100000 : Int)) ∧ (((0 : Int) ≤ (0 : Int)) ∧ ((((0 : Int) + (((len ((1 : Int) :: [])) : Nat) : Int)) ≤ (((len ((v4).fst).words) : Nat) : Int)) ∧ ((len ((v4).fst).words) ≤ 192))))) ∧
            (br (!(v6).snd)
             (K (.tup [.agg [.dat (Ty.list Ty.int) ((v6).fst).words, .dat Ty.int ((v6).fst).fuel], .one (.dat Ty.int (7 : Int))]) [])
             (K (.tup [.agg [.dat (Ty.list Ty.int) ((v6).fst).words, .dat Ty.int ((v6).fst).fuel], .one (.dat Ty.int (0 : Int))]) [])))))))))) := by subst hv6; subst hv5; subst hv4; subst hv3; subst hv2; subst hv1; subst hv0; kernel_rfl
theorem log_Format_w (ws : List Int) (fu : Int) (m : Nat) (K : V → List Blk → Prop) : goD Γ_log_Format tab fn_log_Format 0 K (m + 1) [.code (bodyOf fn_log_Format)] (initSt [.agg [.dat (Ty.list Ty.int) ws, .dat Ty.int fu]] []) = segD Γ_log_Format tab fn_log_Format 0 K (goD Γ_log_Format tab fn_log_Format 0 K m) [.code (bodyOf fn_log_Format)] (initSt [.agg [.dat (Ty.list Ty.int) ws, .dat Ty.int fu]] []) := rfl

set_option maxHeartbeats 4000000 in
theorem run_log_Format (ws : List Int) (fu : Int) (K : V → List Blk → Prop) (hK : K (.tup [.agg [.dat (.list .int) (formatF ⟨ws, fu⟩).1.words, .dat .int (formatF ⟨ws, fu⟩).1.fuel], .one (.dat .int (formatF ⟨ws, fu⟩).2)]) []) : ∃ m, goD Γ_log_Format tab fn_log_Format 0 K m [.code (bodyOf fn_log_Format)] (initSt [.agg [.dat (.list .int) ws, .dat .int fu]] []) := by
  refine ⟨1, ?_⟩
  rw [log_Format_w, log_Format_vc _ _ _ _ _ rfl _ rfl _ rfl _ rfl _ rfl _ rfl _ rfl]
  unfold formatF at hK
  refine ne_s (fun h => ?_) (fun h => ?_)
  · rw [if_neg h] at hK; exact hK
  rw [if_pos h] at hK
  obtain ⟨c1, c2, c3, c4⟩ := checkFlash_ok h
  obtain ⟨c5, c6⟩ := okLen_le c1
  simp only at c2 c3 c5 c6
  refine lt_s (fun h2 => ?_) (fun h2 => ?_)
  · rw [if_neg (by simp only [len] at h2 ⊢; omega)] at hK; exact hK
  rw [if_pos (by simp only [len] at h2 ⊢; omega)] at hK
  unfold formatCh at hK
  rw [doCh_append, doCh_append] at hK
  obtain ⟨f1, f2⟩ := doCh_fuel ⟨ws, fu⟩ (wipeCh 1) c2 c3
  have l1 := doCh_len ⟨ws, fu⟩ (wipeCh 1)
  obtain ⟨g1, g2⟩ := doCh_fuel (doCh ⟨ws, fu⟩ (wipeCh 1)).1 (wipeCh 0) f1 f2
  have l2 := doCh_len (doCh ⟨ws, fu⟩ (wipeCh 1)).1 (wipeCh 0)
  simp only [len] at h2 l1 l2 ⊢
  refine ⟨by omega, ⟨c2, c3, by omega, by omega, by omega⟩, nt_s (fun h3 => ?_) (fun h3 => ⟨⟨f1, f2, by omega, by omega, by omega⟩, nt_s (fun h4 => ?_) (fun h4 => ⟨⟨g1, g2, by omega, ?_, ?_⟩, nt_s (fun h5 => ?_) (fun h5 => ?_)⟩)⟩)⟩
  · rw [if_neg (show ¬ (doCh ⟨ws, fu⟩ (wipeCh 1)).2 = true by simp [h3]), if_neg (by simp [h3])] at hK
    simp only [power, powerE, h3] at hK; exact hK
  · rw [if_pos h3, if_neg (show ¬ (doCh (doCh ⟨ws, fu⟩ (wipeCh 1)).1 (wipeCh 0)).2 = true from by rw [show (doCh (doCh ⟨ws, fu⟩ (wipeCh 1)).1 (wipeCh 0)).2 = false from h4]; simp)] at hK
    simp only [power] at hK
    rw [show (doCh (doCh ⟨ws, fu⟩ (wipeCh 1)).1 (wipeCh 0)).2 = false from h4] at hK
    exact hK
  · show (0 : Int) + _ ≤ ((doCh (doCh ⟨ws, fu⟩ (wipeCh 1)).1 (wipeCh 0)).1.words.length : Int)
    simp only [List.length_cons, List.length_nil]; omega
  · show (doCh (doCh ⟨ws, fu⟩ (wipeCh 1)).1 (wipeCh 0)).1.words.length ≤ _
    omega
  · rw [if_pos h3, if_pos (show (doCh (doCh ⟨ws, fu⟩ (wipeCh 1)).1 (wipeCh 0)).2 = true from h4)] at hK
    simp only [power] at hK
    rw [show (doCh (doCh (doCh ⟨ws, fu⟩ (wipeCh 1)).1 (wipeCh 0)).1 (burnCh 0 [1])).2 = false from h5] at hK
    exact hK
  · rw [if_pos h3, if_pos (show (doCh (doCh ⟨ws, fu⟩ (wipeCh 1)).1 (wipeCh 0)).2 = true from h4)] at hK
    simp only [power] at hK
    rw [show (doCh (doCh (doCh ⟨ws, fu⟩ (wipeCh 1)).1 (wipeCh 0)).1 (burnCh 0 [1])).2 = true from h5] at hK
    exact hK
theorem sound_log_Format : SoundC Tryd.prog tab n_log_Format c_log_Format := soundC_of ok_log_Format hf_log_Format hB_log_Format (by
  intro vs bs p v bs' h hp
  unfold c_log_Format at h
  split at h
  · cases h
    exact ⟨by kernel_rfl, rfl, .inl (run_log_Format _ _ _ ⟨rfl, rfl⟩)⟩
  · cases h)

def c_slot_check : Contract := fun vs bs => match vs, bs with
  | [.agg [.dat (.list .int) ws, .dat .int fu], .one (.dat .int slot)], [] => some (none, .one (.dat .int (checkSlot ⟨ws, fu⟩ slot)), [])
  | _, _ => none
def Γ_slot_check : Ctx := [(n_flash_Check, c_flash_Check)]
theorem ok_slot_check : Ok Tryd.prog tab Γ_slot_check := (ok_nil.consC hf_flash_Check hB_flash_Check sound_flash_Check)
theorem slot_check_vc (ws : List Int) (fu : Int) (slot : Int) (rec : List It → St → Prop) (K : V → List Blk → Prop) v0 (hv0 : v0 = (checkFlash (⟨ws, fu⟩ : Flash))) : segD Γ_slot_check tab fn_slot_check 0 K rec [.code (bodyOf fn_slot_check)] (initSt [.agg [.dat (Ty.list Ty.int) ws, .dat Ty.int fu], .one (.dat Ty.int slot)] []) = (
    br (!(eqi v0 (0 : Int)))
     (K (.one (.dat Ty.int v0)) [])
     (br (!(eqi (((len ws) : Nat) : Int) (192 : Int)))
       (K (.one (.dat Ty.int (4 : Int))) [])
       (br (!(eqi slot (0 : Int)))
         (br (!(eqi slot (1 : Int)))
           (K (.one (.dat Ty.int (5 : Int))) [])
           (K (.one (.dat Ty.int (0 : Int))) []))
         (K (.one (.dat Ty.int (0 : Int))) [])))) := by subst hv0; kernel_rfl
theorem slot_check_w (ws : List Int) (fu : Int) (slot : Int) (m : Nat) (K : V → List Blk → Prop) : goD Γ_slot_check tab fn_slot_check 0 K (m + 1) [.code (bodyOf fn_slot_check)] (initSt [.agg [.dat (Ty.list Ty.int) ws, .dat Ty.int fu], .one (.dat Ty.int slot)] []) = segD Γ_slot_check tab fn_slot_check 0 K (goD Γ_slot_check tab fn_slot_check 0 K m) [.code (bodyOf fn_slot_check)] (initSt [.agg [.dat (Ty.list Ty.int) ws, .dat Ty.int fu], .one (.dat Ty.int slot)] []) := rfl

set_option maxHeartbeats 4000000 in
theorem run_slot_check (ws : List Int) (fu slot : Int) (K : V → List Blk → Prop) (hK : K (.one (.dat .int (checkSlot ⟨ws, fu⟩ slot))) []) : ∃ m, goD Γ_slot_check tab fn_slot_check 0 K m [.code (bodyOf fn_slot_check)] (initSt [.agg [.dat (.list .int) ws, .dat .int fu], .one (.dat .int slot)] []) := by
  refine ⟨1, ?_⟩
  rw [slot_check_w, slot_check_vc _ _ _ _ _ _ rfl]
  unfold checkSlot at hK
  refine ne_s (fun h => ?_) (fun h => ?_)
  · rw [if_neg h] at hK; exact hK
  rw [if_pos h] at hK
  refine ne_s (fun h2 => ?_) (fun h2 => ?_)
  · rw [if_neg (by simp only [len] at h2 ⊢; omega)] at hK; exact hK
  rw [if_pos (by simp only [len] at h2 ⊢; omega)] at hK
  refine ne_s (fun h3 => ne_s (fun h4 => ?_) (fun h4 => ?_)) (fun h3 => ?_)
  · rw [if_neg (by omega)] at hK; exact hK
  · rw [if_pos (by omega)] at hK; exact hK
  · rw [if_pos (by omega)] at hK; exact hK
theorem sound_slot_check : SoundC Tryd.prog tab n_slot_check c_slot_check := soundC_of ok_slot_check hf_slot_check hB_slot_check (by
  intro vs bs p v bs' h hp
  unfold c_slot_check at h
  split at h
  · cases h
    exact ⟨by kernel_rfl, rfl, .inl (run_slot_check _ _ _ _ ⟨rfl, rfl⟩)⟩
  · cases h)

def c_slot_begin : Contract := fun vs bs => match vs, bs with
  | [.one (.dat .int slot)], [] => some (some (0 ≤ slot ∧ slot ≤ 1), .one (.dat .int (64 + 64 * slot)), [])
  | _, _ => none
def Γ_slot_begin : Ctx := []
theorem ok_slot_begin : Ok Tryd.prog tab Γ_slot_begin := ok_nil
theorem slot_begin_vc (slot : Int) (rec : List It → St → Prop) (K : V → List Blk → Prop) : segD Γ_slot_begin tab fn_slot_begin 0 K rec [.code (bodyOf fn_slot_begin)] (initSt [.one (.dat Ty.int slot)] []) = (
    K (.one (.dat Ty.int (w64 ((w64 ((2 : Int) + (w64 ((2 : Int) * slot)))) * (32 : Int))))) []) := by kernel_rfl
theorem slot_begin_w (slot : Int) (m : Nat) (K : V → List Blk → Prop) : goD Γ_slot_begin tab fn_slot_begin 0 K (m + 1) [.code (bodyOf fn_slot_begin)] (initSt [.one (.dat Ty.int slot)] []) = segD Γ_slot_begin tab fn_slot_begin 0 K (goD Γ_slot_begin tab fn_slot_begin 0 K m) [.code (bodyOf fn_slot_begin)] (initSt [.one (.dat Ty.int slot)] []) := rfl

set_option maxHeartbeats 4000000 in
theorem run_slot_begin (slot : Int) (hp : 0 ≤ slot ∧ slot ≤ 1) (K : V → List Blk → Prop) (hK : K (.one (.dat .int (64 + 64 * slot))) []) : ∃ m, goD Γ_slot_begin tab fn_slot_begin 0 K m [.code (bodyOf fn_slot_begin)] (initSt [.one (.dat .int slot)] []) := by
  refine ⟨1, ?_⟩
  rw [slot_begin_w, slot_begin_vc _ _ _]
  rw [w64_id (n := 2 * slot) (by omega) (by omega), w64_id (n := 2 + 2 * slot) (by omega) (by omega), w64_id (by omega) (by omega), show (2 + 2 * slot) * 32 = 64 + 64 * slot by omega]
  exact hK
theorem sound_slot_begin : SoundC Tryd.prog tab n_slot_begin c_slot_begin := soundC_of ok_slot_begin hf_slot_begin hB_slot_begin (by
  intro vs bs p v bs' h hp
  unfold c_slot_begin at h
  split at h
  · cases h
    exact ⟨by kernel_rfl, rfl, .inl (run_slot_begin _ hp.1 _ ⟨rfl, rfl⟩)⟩
  · cases h)

def c_flash_Program_1 : Contract := fun vs bs => match vs, bs with
  | [.one (.dat .int w)], [] => some (none, .one (.dat .bool (!okWord w)), [])
  | _, _ => none
def Γ_flash_Program_1 : Ctx := []
theorem ok_flash_Program_1 : Ok Tryd.prog tab Γ_flash_Program_1 := ok_nil
theorem flash_Program_1_vc (w : Int) (rec : List It → St → Prop) (K : V → List Blk → Prop) : segD Γ_flash_Program_1 tab fn_flash_Program_1 0 K rec [.code (bodyOf fn_flash_Program_1)] (initSt [.one (.dat Ty.int w)] []) = (
    br (lti w (0 : Int))
     (K (.one (.dat Ty.bool true)) [])
     (K (.one (.dat Ty.bool (lti (65535 : Int) w))) [])) := by kernel_rfl
theorem flash_Program_1_w (w : Int) (m : Nat) (K : V → List Blk → Prop) : goD Γ_flash_Program_1 tab fn_flash_Program_1 0 K (m + 1) [.code (bodyOf fn_flash_Program_1)] (initSt [.one (.dat Ty.int w)] []) = segD Γ_flash_Program_1 tab fn_flash_Program_1 0 K (goD Γ_flash_Program_1 tab fn_flash_Program_1 0 K m) [.code (bodyOf fn_flash_Program_1)] (initSt [.one (.dat Ty.int w)] []) := rfl

set_option maxHeartbeats 4000000 in
theorem run_flash_Program_1 (w : Int) (K : V → List Blk → Prop) (hK : K (.one (.dat .bool (!okWord w))) []) : ∃ m, goD Γ_flash_Program_1 tab fn_flash_Program_1 0 K m [.code (bodyOf fn_flash_Program_1)] (initSt [.one (.dat .int w)] []) := by
  refine ⟨1, ?_⟩
  rw [flash_Program_1_w, flash_Program_1_vc _ _ _]
  refine lt_s (fun h => ?_) (fun h => ?_)
  · rw [show (!okWord w) = true from by simp [okWord]; omega] at hK; exact hK
  · rw [show (!okWord w) = lti 65535 w from by simp [okWord, lti, h]; by_cases h2 : w ≤ 65535 <;> simp [h2] <;> omega] at hK; exact hK
theorem sound_flash_Program_1 : SoundC Tryd.prog tab n_flash_Program_1 c_flash_Program_1 := soundC_of ok_flash_Program_1 hf_flash_Program_1 hB_flash_Program_1 (by
  intro vs bs p v bs' h hp
  unfold c_flash_Program_1 at h
  split at h
  · cases h
    exact ⟨by kernel_rfl, rfl, .inl (run_flash_Program_1 _ _ ⟨rfl, rfl⟩)⟩
  · cases h)

def c_ref_IsWord : Contract := fun vs bs => match vs, bs with
  | [.one (.dat .int w)], [] => some (none, .one (.dat .bool (okWord w)), [])
  | _, _ => none
def Γ_ref_IsWord : Ctx := []
theorem ok_ref_IsWord : Ok Tryd.prog tab Γ_ref_IsWord := ok_nil
theorem ref_IsWord_vc (w : Int) (rec : List It → St → Prop) (K : V → List Blk → Prop) : segD Γ_ref_IsWord tab fn_ref_IsWord 0 K rec [.code (bodyOf fn_ref_IsWord)] (initSt [.one (.dat Ty.int w)] []) = (
    br (lei (0 : Int) w)
     (K (.one (.dat Ty.bool (lei w (65535 : Int)))) [])
     (K (.one (.dat Ty.bool false)) [])) := by kernel_rfl
theorem ref_IsWord_w (w : Int) (m : Nat) (K : V → List Blk → Prop) : goD Γ_ref_IsWord tab fn_ref_IsWord 0 K (m + 1) [.code (bodyOf fn_ref_IsWord)] (initSt [.one (.dat Ty.int w)] []) = segD Γ_ref_IsWord tab fn_ref_IsWord 0 K (goD Γ_ref_IsWord tab fn_ref_IsWord 0 K m) [.code (bodyOf fn_ref_IsWord)] (initSt [.one (.dat Ty.int w)] []) := rfl

set_option maxHeartbeats 4000000 in
theorem run_ref_IsWord (w : Int) (K : V → List Blk → Prop) (hK : K (.one (.dat .bool (okWord w))) []) : ∃ m, goD Γ_ref_IsWord tab fn_ref_IsWord 0 K m [.code (bodyOf fn_ref_IsWord)] (initSt [.one (.dat .int w)] []) := by
  refine ⟨1, ?_⟩
  rw [ref_IsWord_w, ref_IsWord_vc _ _ _]
  refine br_split (fun h => ?_) (fun h => ?_)
  · rw [show okWord w = lei w 65535 from by rw [lei_true] at h; simp [okWord, lei, h]] at hK; exact hK
  · rw [show okWord w = false from by rw [lei_false] at h; simp [okWord]; omega] at hK; exact hK
theorem sound_ref_IsWord : SoundC Tryd.prog tab n_ref_IsWord c_ref_IsWord := soundC_of ok_ref_IsWord hf_ref_IsWord hB_ref_IsWord (by
  intro vs bs p v bs' h hp
  unfold c_ref_IsWord at h
  split at h
  · cases h
    exact ⟨by kernel_rfl, rfl, .inl (run_ref_IsWord _ _ ⟨rfl, rfl⟩)⟩
  · cases h)

def c_ref_allWords_1 : Contract := fun vs bs => match vs, bs with
  | [.one (.dat .int w)], [] => some (none, .one (.dat .bool (!okWord w)), [])
  | _, _ => none
def Γ_ref_allWords_1 : Ctx := [(n_ref_IsWord, c_ref_IsWord)]
theorem ok_ref_allWords_1 : Ok Tryd.prog tab Γ_ref_allWords_1 := (ok_nil.consC hf_ref_IsWord hB_ref_IsWord sound_ref_IsWord)
theorem ref_allWords_1_vc (w : Int) (rec : List It → St → Prop) (K : V → List Blk → Prop) v0 (hv0 : v0 = (okWord w)) : segD Γ_ref_allWords_1 tab fn_ref_allWords_1 0 K rec [.code (bodyOf fn_ref_allWords_1)] (initSt [.one (.dat Ty.int w)] []) = (
    K (.one (.dat Ty.bool (!v0))) []) := by subst hv0; kernel_rfl
theorem ref_allWords_1_w (w : Int) (m : Nat) (K : V → List Blk → Prop) : goD Γ_ref_allWords_1 tab fn_ref_allWords_1 0 K (m + 1) [.code (bodyOf fn_ref_allWords_1)] (initSt [.one (.dat Ty.int w)] []) = segD Γ_ref_allWords_1 tab fn_ref_allWords_1 0 K (goD Γ_ref_allWords_1 tab fn_ref_allWords_1 0 K m) [.code (bodyOf fn_ref_allWords_1)] (initSt [.one (.dat Ty.int w)] []) := rfl

set_option maxHeartbeats 4000000 in
theorem run_ref_allWords_1 (w : Int) (K : V → List Blk → Prop) (hK : K (.one (.dat .bool (!okWord w))) []) : ∃ m, goD Γ_ref_allWords_1 tab fn_ref_allWords_1 0 K m [.code (bodyOf fn_ref_allWords_1)] (initSt [.one (.dat .int w)] []) := by
  refine ⟨1, ?_⟩
  rw [ref_allWords_1_w, ref_allWords_1_vc _ _ _ _ rfl]
  exact hK
theorem sound_ref_allWords_1 : SoundC Tryd.prog tab n_ref_allWords_1 c_ref_allWords_1 := soundC_of ok_ref_allWords_1 hf_ref_allWords_1 hB_ref_allWords_1 (by
  intro vs bs p v bs' h hp
  unfold c_ref_allWords_1 at h
  split at h
  · cases h
    exact ⟨by kernel_rfl, rfl, .inl (run_ref_allWords_1 _ _ ⟨rfl, rfl⟩)⟩
  · cases h)

def c_unit_CheckMessage_1 : Contract := fun vs bs => match vs, bs with
  | [.one (.dat .int w)], [] => some (none, .one (.dat .bool (!okWord w)), [])
  | _, _ => none
def Γ_unit_CheckMessage_1 : Ctx := []
theorem ok_unit_CheckMessage_1 : Ok Tryd.prog tab Γ_unit_CheckMessage_1 := ok_nil
theorem unit_CheckMessage_1_vc (w : Int) (rec : List It → St → Prop) (K : V → List Blk → Prop) : segD Γ_unit_CheckMessage_1 tab fn_unit_CheckMessage_1 0 K rec [.code (bodyOf fn_unit_CheckMessage_1)] (initSt [.one (.dat Ty.int w)] []) = (
    br (lti w (0 : Int))
     (K (.one (.dat Ty.bool true)) [])
     (K (.one (.dat Ty.bool (lti (65535 : Int) w))) [])) := by kernel_rfl
theorem unit_CheckMessage_1_w (w : Int) (m : Nat) (K : V → List Blk → Prop) : goD Γ_unit_CheckMessage_1 tab fn_unit_CheckMessage_1 0 K (m + 1) [.code (bodyOf fn_unit_CheckMessage_1)] (initSt [.one (.dat Ty.int w)] []) = segD Γ_unit_CheckMessage_1 tab fn_unit_CheckMessage_1 0 K (goD Γ_unit_CheckMessage_1 tab fn_unit_CheckMessage_1 0 K m) [.code (bodyOf fn_unit_CheckMessage_1)] (initSt [.one (.dat Ty.int w)] []) := rfl

set_option maxHeartbeats 4000000 in
theorem run_unit_CheckMessage_1 (w : Int) (K : V → List Blk → Prop) (hK : K (.one (.dat .bool (!okWord w))) []) : ∃ m, goD Γ_unit_CheckMessage_1 tab fn_unit_CheckMessage_1 0 K m [.code (bodyOf fn_unit_CheckMessage_1)] (initSt [.one (.dat .int w)] []) := by
  refine ⟨1, ?_⟩
  rw [unit_CheckMessage_1_w, unit_CheckMessage_1_vc _ _ _]
  refine lt_s (fun h => ?_) (fun h => ?_)
  · rw [show (!okWord w) = true from by simp [okWord]; omega] at hK; exact hK
  · rw [show (!okWord w) = lti 65535 w from by simp [okWord, lti, h]; by_cases h2 : w ≤ 65535 <;> simp [h2] <;> omega] at hK; exact hK
theorem sound_unit_CheckMessage_1 : SoundC Tryd.prog tab n_unit_CheckMessage_1 c_unit_CheckMessage_1 := soundC_of ok_unit_CheckMessage_1 hf_unit_CheckMessage_1 hB_unit_CheckMessage_1 (by
  intro vs bs p v bs' h hp
  unfold c_unit_CheckMessage_1 at h
  split at h
  · cases h
    exact ⟨by kernel_rfl, rfl, .inl (run_unit_CheckMessage_1 _ _ ⟨rfl, rfl⟩)⟩
  · cases h)

def c_slices_IndexFunc_Lint : Contract := fun vs bs => match vs, bs with
  | [.one (.dat (.list .int) l), .one (.fn f [])], [] => (match Nat.beq f n_flash_Program_1 with | true => some (some (Sm l), .one (.dat .int (firstBad l)), []) | false => (match Nat.beq f n_ref_allWords_1 with | true => some (some (Sm l), .one (.dat .int (firstBad l)), []) | false => (match Nat.beq f n_unit_CheckMessage_1 with | true => some (some (Sm l), .one (.dat .int (firstBad l)), []) | false => none)))
  | _, _ => none
def Γ_slices_IndexFunc_Lint : Ctx := [(n_flash_Program_1, c_flash_Program_1), (n_ref_allWords_1, c_ref_allWords_1), (n_unit_CheckMessage_1, c_unit_CheckMessage_1)]
theorem ok_slices_IndexFunc_Lint : Ok Tryd.prog tab Γ_slices_IndexFunc_Lint := (((ok_nil.consC hf_unit_CheckMessage_1 hB_unit_CheckMessage_1 sound_unit_CheckMessage_1).consC hf_ref_allWords_1 hB_ref_allWords_1 sound_ref_allWords_1).consC hf_flash_Program_1 hB_flash_Program_1 sound_flash_Program_1)
noncomputable def slices_IndexFunc_Lint_0_L0 : List It := [.inLoop [8, 7, 4, 0, 1] (Code.sub (bodyOf fn_slices_IndexFunc_Lint) [1, 0, 1, 0, 0]), .inBlock 0, .code (Code.sub (bodyOf fn_slices_IndexFunc_Lint) [1, 1])]
def slices_IndexFunc_Lint_0_S0 (x0 : Int) (x1 : Int) (x2 : Int) (x3 : (List Int)) : St := ⟨[(8, .one (.dat Ty.int x0)), (7, .one (.dat Ty.int x1)), (4, .one (.dat Ty.int x2)), (0, .one (.dat (Ty.list Ty.int) x3)), (1, .one (.fn n_flash_Program_1 []))], [], 0⟩
theorem slices_IndexFunc_Lint_0_vc (l : List Int) (rec : List It → St → Prop) (K : V → List Blk → Prop) : segD Γ_slices_IndexFunc_Lint tab fn_slices_IndexFunc_Lint 0 K rec [.code (bodyOf fn_slices_IndexFunc_Lint)] (initSt [.one (.dat (Ty.list Ty.int) l), .one (.fn n_flash_Program_1 [])] []) = (
    rec slices_IndexFunc_Lint_0_L0 (slices_IndexFunc_Lint_0_S0 (0 : Int) (((len l) : Nat) : Int) (0 : Int) l)) := by kernel_rfl
theorem slices_IndexFunc_Lint_0_w (l : List Int) (m : Nat) (K : V → List Blk → Prop) : goD Γ_slices_IndexFunc_Lint tab fn_slices_IndexFunc_Lint 0 K (m + 1) [.code (bodyOf fn_slices_IndexFunc_Lint)] (initSt [.one (.dat (Ty.list Ty.int) l), .one (.fn n_flash_Program_1 [])] []) = segD Γ_slices_IndexFunc_Lint tab fn_slices_IndexFunc_Lint 0 K (goD Γ_slices_IndexFunc_Lint tab fn_slices_IndexFunc_Lint 0 K m) [.code (bodyOf fn_slices_IndexFunc_Lint)] (initSt [.one (.dat (Ty.list Ty.int) l), .one (.fn n_flash_Program_1 [])] []) := rfl
theorem slices_IndexFunc_Lint_0_vc0 (x0 : Int) (x1 : Int) (x2 : Int) (x3 : (List Int)) (rec : List It → St → Prop) (K : V → List Blk → Prop) v0 (hv0 : v0 = (okWord (nth x3 (Int.toNat x0) (Ty.dflt Ty.int)))) : segD Γ_slices_IndexFunc_Lint tab fn_slices_IndexFunc_Lint 0 K rec (.code (Code.sub (bodyOf fn_slices_IndexFunc_Lint) [1, 0, 1, 0, 0]) :: slices_IndexFunc_Lint_0_L0) (slices_IndexFunc_Lint_0_S0 x0 x1 x2 x3) = (
    br (lti x0 x1)
     ((((0 : Int) ≤ x0) ∧ (x0 < (((len x3) : Nat) : Int))) ∧
      (br (!v0)
       (K (.one (.dat Ty.int x0)) [])
       (rec slices_IndexFunc_Lint_0_L0 (slices_IndexFunc_Lint_0_S0 (w64 (x0 + (1 : Int))) x1 x2 x3))))
     (K (.one (.dat Ty.int (-(1 : Int)))) [])) := by subst hv0; kernel_rfl
theorem slices_IndexFunc_Lint_0_w0 (x0 : Int) (x1 : Int) (x2 : Int) (x3 : (List Int)) (m : Nat) (K : V → List Blk → Prop) : goD Γ_slices_IndexFunc_Lint tab fn_slices_IndexFunc_Lint 0 K (m + 1) slices_IndexFunc_Lint_0_L0 (slices_IndexFunc_Lint_0_S0 x0 x1 x2 x3) = segD Γ_slices_IndexFunc_Lint tab fn_slices_IndexFunc_Lint 0 K (goD Γ_slices_IndexFunc_Lint tab fn_slices_IndexFunc_Lint 0 K m) (.code (Code.sub (bodyOf fn_slices_IndexFunc_Lint) [1, 0, 1, 0, 0]) :: slices_IndexFunc_Lint_0_L0) (slices_IndexFunc_Lint_0_S0 x0 x1 x2 x3) := rfl

noncomputable def slices_IndexFunc_Lint_1_L0 : List It := [.inLoop [8, 7, 4, 0, 1] (Code.sub (bodyOf fn_slices_IndexFunc_Lint) [1, 0, 1, 0, 0]), .inBlock 0, .code (Code.sub (bodyOf fn_slices_IndexFunc_Lint) [1, 1])]
def slices_IndexFunc_Lint_1_S0 (x0 : Int) (x1 : Int) (x2 : Int) (x3 : (List Int)) : St := ⟨[(8, .one (.dat Ty.int x0)), (7, .one (.dat Ty.int x1)), (4, .one (.dat Ty.int x2)), (0, .one (.dat (Ty.list Ty.int) x3)), (1, .one (.fn n_ref_allWords_1 []))], [], 0⟩
theorem slices_IndexFunc_Lint_1_vc (l : List Int) (rec : List It → St → Prop) (K : V → List Blk → Prop) : segD Γ_slices_IndexFunc_Lint tab fn_slices_IndexFunc_Lint 0 K rec [.code (bodyOf fn_slices_IndexFunc_Lint)] (initSt [.one (.dat (Ty.list Ty.int) l), .one (.fn n_ref_allWords_1 [])] []) = (
    rec slices_IndexFunc_Lint_1_L0 (slices_IndexFunc_Lint_1_S0 (0 : Int) (((len l) : Nat) : Int) (0 : Int) l)) := by kernel_rfl
theorem slices_IndexFunc_Lint_1_w (l : List Int) (m : Nat) (K : V → List Blk → Prop) : goD Γ_slices_IndexFunc_Lint tab fn_slices_IndexFunc_Lint 0 K (m + 1) [.code (bodyOf fn_slices_IndexFunc_Lint)] (initSt [.one (.dat (Ty.list Ty.int) l), .one (.fn n_ref_allWords_1 [])] []) = segD Γ_slices_IndexFunc_Lint tab fn_slices_IndexFunc_Lint 0 K (goD Γ_slices_IndexFunc_Lint tab fn_slices_IndexFunc_Lint 0 K m) [.code (bodyOf fn_slices_IndexFunc_Lint)] (initSt [.one (.dat (Ty.list Ty.int) l), .one (.fn n_ref_allWords_1 [])] []) := rfl
theorem slices_IndexFunc_Lint_1_vc0 (x0 : Int) (x1 : Int) (x2 : Int) (x3 : (List Int)) (rec : List It → St → Prop) (K : V → List Blk → Prop) v0 (hv0 : v0 = (okWord (nth x3 (Int.toNat x0) (Ty.dflt Ty.int)))) : segD Γ_slices_IndexFunc_Lint tab fn_slices_IndexFunc_Lint 0 K rec (.code (Code.sub (bodyOf fn_slices_IndexFunc_Lint) [1, 0, 1, 0, 0]) :: slices_IndexFunc_Lint_1_L0) (slices_IndexFunc_Lint_1_S0 x0 x1 x2 x3) = (
    br (lti x0 x1)
     ((((0 : Int) ≤ x0) ∧ (x0 < (((len x3) : Nat) : Int))) ∧
      (br (!v0)
       (K (.one (.dat Ty.int x0)) [])
       (rec slices_IndexFunc_Lint_1_L0 (slices_IndexFunc_Lint_1_S0 (w64 (x0 + (1 : Int))) x1 x2 x3))))
     (K (.one (.dat Ty.int (-(1 : Int)))) [])) := by subst hv0; kernel_rfl
theorem slices_IndexFunc_Lint_1_w0 (x0 : Int) (x1 : Int) (x2 : Int) (x3 : (List Int)) (m : Nat) (K : V → List Blk → Prop) : goD Γ_slices_IndexFunc_Lint tab fn_slices_IndexFunc_Lint 0 K (m + 1) slices_IndexFunc_Lint_1_L0 (slices_IndexFunc_Lint_1_S0 x0 x1 x2 x3) = segD Γ_slices_IndexFunc_Lint tab fn_slices_IndexFunc_Lint 0 K (goD Γ_slices_IndexFunc_Lint tab fn_slices_IndexFunc_Lint 0 K m) (.code (Code.sub (bodyOf fn_slices_IndexFunc_Lint) [1, 0, 1, 0, 0]) :: slices_IndexFunc_Lint_1_L0) (slices_IndexFunc_Lint_1_S0 x0 x1 x2 x3) := rfl

noncomputable def slices_IndexFunc_Lint_2_L0 : List It := [.inLoop [8, 7, 4, 0, 1] (Code.sub (bodyOf fn_slices_IndexFunc_Lint) [1, 0, 1, 0, 0]), .inBlock 0, .code (Code.sub (bodyOf fn_slices_IndexFunc_Lint) [1, 1])]
def slices_IndexFunc_Lint_2_S0 (x0 : Int) (x1 : Int) (x2 : Int) (x3 : (List Int)) : St := ⟨[(8, .one (.dat Ty.int x0)), (7, .one (.dat Ty.int x1)), (4, .one (.dat Ty.int x2)), (0, .one (.dat (Ty.list Ty.int) x3)), (1, .one (.fn n_unit_CheckMessage_1 []))], [], 0⟩
theorem slices_IndexFunc_Lint_2_vc (l : List Int) (rec : List It → St → Prop) (K : V → List Blk → Prop) : segD Γ_slices_IndexFunc_Lint tab fn_slices_IndexFunc_Lint 0 K rec [.code (bodyOf fn_slices_IndexFunc_Lint)] (initSt [.one (.dat (Ty.list Ty.int) l), .one (.fn n_unit_CheckMessage_1 [])] []) = (
    rec slices_IndexFunc_Lint_2_L0 (slices_IndexFunc_Lint_2_S0 (0 : Int) (((len l) : Nat) : Int) (0 : Int) l)) := by kernel_rfl
theorem slices_IndexFunc_Lint_2_w (l : List Int) (m : Nat) (K : V → List Blk → Prop) : goD Γ_slices_IndexFunc_Lint tab fn_slices_IndexFunc_Lint 0 K (m + 1) [.code (bodyOf fn_slices_IndexFunc_Lint)] (initSt [.one (.dat (Ty.list Ty.int) l), .one (.fn n_unit_CheckMessage_1 [])] []) = segD Γ_slices_IndexFunc_Lint tab fn_slices_IndexFunc_Lint 0 K (goD Γ_slices_IndexFunc_Lint tab fn_slices_IndexFunc_Lint 0 K m) [.code (bodyOf fn_slices_IndexFunc_Lint)] (initSt [.one (.dat (Ty.list Ty.int) l), .one (.fn n_unit_CheckMessage_1 [])] []) := rfl
theorem slices_IndexFunc_Lint_2_vc0 (x0 : Int) (x1 : Int) (x2 : Int) (x3 : (List Int)) (rec : List It → St → Prop) (K : V → List Blk → Prop) v0 (hv0 : v0 = (okWord (nth x3 (Int.toNat x0) (Ty.dflt Ty.int)))) : segD Γ_slices_IndexFunc_Lint tab fn_slices_IndexFunc_Lint 0 K rec (.code (Code.sub (bodyOf fn_slices_IndexFunc_Lint) [1, 0, 1, 0, 0]) :: slices_IndexFunc_Lint_2_L0) (slices_IndexFunc_Lint_2_S0 x0 x1 x2 x3) = (
    br (lti x0 x1)
     ((((0 : Int) ≤ x0) ∧ (x0 < (((len x3) : Nat) : Int))) ∧
      (br (!v0)
       (K (.one (.dat Ty.int x0)) [])
       (rec slices_IndexFunc_Lint_2_L0 (slices_IndexFunc_Lint_2_S0 (w64 (x0 + (1 : Int))) x1 x2 x3))))
     (K (.one (.dat Ty.int (-(1 : Int)))) [])) := by subst hv0; kernel_rfl
theorem slices_IndexFunc_Lint_2_w0 (x0 : Int) (x1 : Int) (x2 : Int) (x3 : (List Int)) (m : Nat) (K : V → List Blk → Prop) : goD Γ_slices_IndexFunc_Lint tab fn_slices_IndexFunc_Lint 0 K (m + 1) slices_IndexFunc_Lint_2_L0 (slices_IndexFunc_Lint_2_S0 x0 x1 x2 x3) = segD Γ_slices_IndexFunc_Lint tab fn_slices_IndexFunc_Lint 0 K (goD Γ_slices_IndexFunc_Lint tab fn_slices_IndexFunc_Lint 0 K m) (.code (Code.sub (bodyOf fn_slices_IndexFunc_Lint) [1, 0, 1, 0, 0]) :: slices_IndexFunc_Lint_2_L0) (slices_IndexFunc_Lint_2_S0 x0 x1 x2 x3) := rfl

theorem loop_slices_IndexFunc_Lint_0 (l : List Int) (hs : Sm l) (K : V → List Blk → Prop) : ∀ (d k : Nat), k + d = l.length → K (.one (.dat .int (firstBadFrom k (l.drop k)))) [] →
    goD Γ_slices_IndexFunc_Lint tab fn_slices_IndexFunc_Lint 0 K (d + 1) slices_IndexFunc_Lint_0_L0 (slices_IndexFunc_Lint_0_S0 (k : Int) (((len l) : Nat) : Int) 0 l)
  | 0, k, hk, hK => by
    rw [slices_IndexFunc_Lint_0_w0, slices_IndexFunc_Lint_0_vc0 _ _ _ _ _ _ _ rfl]
    refine lt_f (by simp only [len]; omega) ?_
    rw [List.drop_of_length_le (by omega)] at hK
    exact hK
  | d + 1, k, hk, hK => by
    have hs' := hs
    unfold Sm at hs'
    rw [slices_IndexFunc_Lint_0_w0, slices_IndexFunc_Lint_0_vc0 _ _ _ _ _ _ _ rfl]
    rw [drop_step (by omega) (Ty.dflt Ty.int)] at hK
    simp only [firstBadFrom] at hK
    refine lt_t (by simp only [len]; omega) ⟨⟨by omega, by simp only [len]; omega⟩, nt_s (fun h => ?_) (fun h => ?_)⟩
    · rw [toNat_nat] at h
      rw [if_neg (by rw [h]; simp)] at hK
      exact hK
    · rw [toNat_nat] at h
      rw [if_pos h] at hK
      rw [w64_succ (by omega)]
      exact loop_slices_IndexFunc_Lint_0 l hs K d (k + 1) (by omega) hK
set_option maxHeartbeats 4000000 in
theorem run_slices_IndexFunc_Lint_0 (l : List Int) (hp : Sm l) (K : V → List Blk → Prop) (hK : K (.one (.dat .int (firstBad l))) []) : ∃ m, goD Γ_slices_IndexFunc_Lint tab fn_slices_IndexFunc_Lint 0 K m [.code (bodyOf fn_slices_IndexFunc_Lint)] (initSt [.one (.dat (.list .int) l), .one (.fn n_flash_Program_1 [])] []) := by
  refine ⟨l.length + 2, ?_⟩
  rw [slices_IndexFunc_Lint_0_w, slices_IndexFunc_Lint_0_vc _ _ _]
  exact loop_slices_IndexFunc_Lint_0 l hp K l.length 0 (by omega) hK
theorem loop_slices_IndexFunc_Lint_1 (l : List Int) (hs : Sm l) (K : V → List Blk → Prop) : ∀ (d k : Nat), k + d = l.length → K (.one (.dat .int (firstBadFrom k (l.drop k)))) [] →
    goD Γ_slices_IndexFunc_Lint tab fn_slices_IndexFunc_Lint 0 K (d + 1) slices_IndexFunc_Lint_1_L0 (slices_IndexFunc_Lint_1_S0 (k : Int) (((len l) : Nat) : Int) 0 l)
  | 0, k, hk, hK => by
    rw [slices_IndexFunc_Lint_1_w0, slices_IndexFunc_Lint_1_vc0 _ _ _ _ _ _ _ rfl]
    refine lt_f (by simp only [len]; omega) ?_
    rw [List.drop_of_length_le (by omega)] at hK
    exact hK
  | d + 1, k, hk, hK => by
    have hs' := hs
    unfold Sm at hs'
    rw [slices_IndexFunc_Lint_1_w0, slices_IndexFunc_Lint_1_vc0 _ _ _ _ _ _ _ rfl]
    rw [drop_step (by omega) (Ty.dflt Ty.int)] at hK
    simp only [firstBadFrom] at hK
    refine lt_t (by simp only [len]; omega) ⟨⟨by omega, by simp only [len]; omega⟩, nt_s (fun h => ?_) (fun h => ?_)⟩
    · rw [toNat_nat] at h
      rw [if_neg (by rw [h]; simp)] at hK
      exact hK
    · rw [toNat_nat] at h
      rw [if_pos h] at hK
      rw [w64_succ (by omega)]
      exact loop_slices_IndexFunc_Lint_1 l hs K d (k + 1) (by omega) hK
set_option maxHeartbeats 4000000 in
theorem run_slices_IndexFunc_Lint_1 (l : List Int) (hp : Sm l) (K : V → List Blk → Prop) (hK : K (.one (.dat .int (firstBad l))) []) : ∃ m, goD Γ_slices_IndexFunc_Lint tab fn_slices_IndexFunc_Lint 0 K m [.code (bodyOf fn_slices_IndexFunc_Lint)] (initSt [.one (.dat (.list .int) l), .one (.fn n_ref_allWords_1 [])] []) := by
  refine ⟨l.length + 2, ?_⟩
  rw [slices_IndexFunc_Lint_1_w, slices_IndexFunc_Lint_1_vc _ _ _]
  exact loop_slices_IndexFunc_Lint_1 l hp K l.length 0 (by omega) hK
theorem loop_slices_IndexFunc_Lint_2 (l : List Int) (hs : Sm l) (K : V → List Blk → Prop) : ∀ (d k : Nat), k + d = l.length → K (.one (.dat .int (firstBadFrom k (l.drop k)))) [] →
    goD Γ_slices_IndexFunc_Lint tab fn_slices_IndexFunc_Lint 0 K (d + 1) slices_IndexFunc_Lint_2_L0 (slices_IndexFunc_Lint_2_S0 (k : Int) (((len l) : Nat) : Int) 0 l)
  | 0, k, hk, hK => by
    rw [slices_IndexFunc_Lint_2_w0, slices_IndexFunc_Lint_2_vc0 _ _ _ _ _ _ _ rfl]
    refine lt_f (by simp only [len]; omega) ?_
    rw [List.drop_of_length_le (by omega)] at hK
    exact hK
  | d + 1, k, hk, hK => by
    have hs' := hs
    unfold Sm at hs'
    rw [slices_IndexFunc_Lint_2_w0, slices_IndexFunc_Lint_2_vc0 _ _ _ _ _ _ _ rfl]
    rw [drop_step (by omega) (Ty.dflt Ty.int)] at hK
    simp only [firstBadFrom] at hK
    refine lt_t (by simp only [len]; omega) ⟨⟨by omega, by simp only [len]; omega⟩, nt_s (fun h => ?_) (fun h => ?_)⟩
    · rw [toNat_nat] at h
      rw [if_neg (by rw [h]; simp)] at hK
      exact hK
    · rw [toNat_nat] at h
      rw [if_pos h] at hK
      rw [w64_succ (by omega)]
      exact loop_slices_IndexFunc_Lint_2 l hs K d (k + 1) (by omega) hK
set_option maxHeartbeats 4000000 in
theorem run_slices_IndexFunc_Lint_2 (l : List Int) (hp : Sm l) (K : V → List Blk → Prop) (hK : K (.one (.dat .int (firstBad l))) []) : ∃ m, goD Γ_slices_IndexFunc_Lint tab fn_slices_IndexFunc_Lint 0 K m [.code (bodyOf fn_slices_IndexFunc_Lint)] (initSt [.one (.dat (.list .int) l), .one (.fn n_unit_CheckMessage_1 [])] []) := by
  refine ⟨l.length + 2, ?_⟩
  rw [slices_IndexFunc_Lint_2_w, slices_IndexFunc_Lint_2_vc _ _ _]
  exact loop_slices_IndexFunc_Lint_2 l hp K l.length 0 (by omega) hK
theorem sound_slices_IndexFunc_Lint : SoundC Tryd.prog tab n_slices_IndexFunc_Lint c_slices_IndexFunc_Lint := soundC_of ok_slices_IndexFunc_Lint hf_slices_IndexFunc_Lint hB_slices_IndexFunc_Lint (by
  intro vs bs p v bs' h hp
  unfold c_slices_IndexFunc_Lint at h
  split at h
  · split at h
    · rename_i hfn
      have hfn := Nat.eq_of_beq_eq_true hfn
      subst hfn
      cases h
      exact ⟨by kernel_rfl, rfl, .inl (run_slices_IndexFunc_Lint_0 _ hp.1 _ ⟨rfl, rfl⟩)⟩
    · split at h
      · rename_i hfn
        have hfn := Nat.eq_of_beq_eq_true hfn
        subst hfn
        cases h
        exact ⟨by kernel_rfl, rfl, .inl (run_slices_IndexFunc_Lint_1 _ hp.1 _ ⟨rfl, rfl⟩)⟩
      · split at h
        · rename_i hfn
          have hfn := Nat.eq_of_beq_eq_true hfn
          subst hfn
          cases h
          exact ⟨by kernel_rfl, rfl, .inl (run_slices_IndexFunc_Lint_2 _ hp.1 _ ⟨rfl, rfl⟩)⟩
        · cases h
  · cases h)

def c_slices_ContainsFunc_Lint : Contract := fun vs bs => match vs, bs with
  | [.one (.dat (.list .int) l), .one (.fn f [])], [] => (match Nat.beq f n_flash_Program_1 with | true => some (some (Sm l), .one (.dat .bool (!okWords l)), []) | false => (match Nat.beq f n_ref_allWords_1 with | true => some (some (Sm l), .one (.dat .bool (!okWords l)), []) | false => (match Nat.beq f n_unit_CheckMessage_1 with | true => some (some (Sm l), .one (.dat .bool (!okWords l)), []) | false => none)))
  | _, _ => none
def Γ_slices_ContainsFunc_Lint : Ctx := [(n_slices_IndexFunc_Lint, c_slices_IndexFunc_Lint), (n_flash_Program_1, c_flash_Program_1), (n_ref_allWords_1, c_ref_allWords_1), (n_unit_CheckMessage_1, c_unit_CheckMessage_1)]
theorem ok_slices_ContainsFunc_Lint : Ok Tryd.prog tab Γ_slices_ContainsFunc_Lint := ((((ok_nil.consC hf_unit_CheckMessage_1 hB_unit_CheckMessage_1 sound_unit_CheckMessage_1).consC hf_ref_allWords_1 hB_ref_allWords_1 sound_ref_allWords_1).consC hf_flash_Program_1 hB_flash_Program_1 sound_flash_Program_1).consC hf_slices_IndexFunc_Lint hB_slices_IndexFunc_Lint sound_slices_IndexFunc_Lint)
theorem slices_ContainsFunc_Lint_0_vc (l : List Int) (rec : List It → St → Prop) (K : V → List Blk → Prop) v0 (hv0 : v0 = (firstBad l)) : segD Γ_slices_ContainsFunc_Lint tab fn_slices_ContainsFunc_Lint 0 K rec [.code (bodyOf fn_slices_ContainsFunc_Lint)] (initSt [.one (.dat (Ty.list Ty.int) l), .one (.fn n_flash_Program_1 [])] []) = (
    ((List.length l) ≤ 140737488355328) ∧
    (K (.one (.dat Ty.bool (lei (0 : Int) v0))) [])) := by subst hv0; kernel_rfl
theorem slices_ContainsFunc_Lint_0_w (l : List Int) (m : Nat) (K : V → List Blk → Prop) : goD Γ_slices_ContainsFunc_Lint tab fn_slices_ContainsFunc_Lint 0 K (m + 1) [.code (bodyOf fn_slices_ContainsFunc_Lint)] (initSt [.one (.dat (Ty.list Ty.int) l), .one (.fn n_flash_Program_1 [])] []) = segD Γ_slices_ContainsFunc_Lint tab fn_slices_ContainsFunc_Lint 0 K (goD Γ_slices_ContainsFunc_Lint tab fn_slices_ContainsFunc_Lint 0 K m) [.code (bodyOf fn_slices_ContainsFunc_Lint)] (initSt [.one (.dat (Ty.list Ty.int) l), .one (.fn n_flash_Program_1 [])] []) := rfl

theorem slices_ContainsFunc_Lint_1_vc (l : List Int) (rec : List It → St → Prop) (K : V → List Blk → Prop) v0 (hv0 : v0 = (firstBad l)) : segD Γ_slices_ContainsFunc_Lint tab fn_slices_ContainsFunc_Lint 0 K rec [.code (bodyOf fn_slices_ContainsFunc_Lint)] (initSt [.one (.dat (Ty.list Ty.int) l), .one (.fn n_ref_allWords_1 [])] []) = (
    ((List.length l) ≤ 140737488355328) ∧
    (K (.one (.dat Ty.bool (lei (0 : Int) v0))) [])) := by subst hv0; kernel_rfl
theorem slices_ContainsFunc_Lint_1_w (l : List Int) (m : Nat) (K : V → List Blk → Prop) : goD Γ_slices_ContainsFunc_Lint tab fn_slices_ContainsFunc_Lint 0 K (m + 1) [.code (bodyOf fn_slices_ContainsFunc_Lint)] (initSt [.one (.dat (Ty.list Ty.int) l), .one (.fn n_ref_allWords_1 [])] []) = segD Γ_slices_ContainsFunc_Lint tab fn_slices_ContainsFunc_Lint 0 K (goD Γ_slices_ContainsFunc_Lint tab fn_slices_ContainsFunc_Lint 0 K m) [.code (bodyOf fn_slices_ContainsFunc_Lint)] (initSt [.one (.dat (Ty.list Ty.int) l), .one (.fn n_ref_allWords_1 [])] []) := rfl

theorem slices_ContainsFunc_Lint_2_vc (l : List Int) (rec : List It → St → Prop) (K : V → List Blk → Prop) v0 (hv0 : v0 = (firstBad l)) : segD Γ_slices_ContainsFunc_Lint tab fn_slices_ContainsFunc_Lint 0 K rec [.code (bodyOf fn_slices_ContainsFunc_Lint)] (initSt [.one (.dat (Ty.list Ty.int) l), .one (.fn n_unit_CheckMessage_1 [])] []) = (
    ((List.length l) ≤ 140737488355328) ∧
    (K (.one (.dat Ty.bool (lei (0 : Int) v0))) [])) := by subst hv0; kernel_rfl
theorem slices_ContainsFunc_Lint_2_w (l : List Int) (m : Nat) (K : V → List Blk → Prop) : goD Γ_slices_ContainsFunc_Lint tab fn_slices_ContainsFunc_Lint 0 K (m + 1) [.code (bodyOf fn_slices_ContainsFunc_Lint)] (initSt [.one (.dat (Ty.list Ty.int) l), .one (.fn n_unit_CheckMessage_1 [])] []) = segD Γ_slices_ContainsFunc_Lint tab fn_slices_ContainsFunc_Lint 0 K (goD Γ_slices_ContainsFunc_Lint tab fn_slices_ContainsFunc_Lint 0 K m) [.code (bodyOf fn_slices_ContainsFunc_Lint)] (initSt [.one (.dat (Ty.list Ty.int) l), .one (.fn n_unit_CheckMessage_1 [])] []) := rfl

theorem firstBad_slices_ContainsFunc_Lint : ∀ (l : List Int) (k : Int), 0 ≤ k → lei 0 (firstBadFrom k l) = !okWords l
  | [], k, hk => by simp [firstBadFrom, okWords, lei]
  | w :: l, k, hk => by
    simp only [firstBadFrom, okWords, List.all_cons]
    cases h : okWord w with
    | true => simpa [okWords] using firstBad_slices_ContainsFunc_Lint l (k + 1) (by omega)
    | false => simp [lei, hk]
set_option maxHeartbeats 4000000 in
theorem run_slices_ContainsFunc_Lint_0 (l : List Int) (hp : Sm l) (K : V → List Blk → Prop) (hK : K (.one (.dat .bool (!okWords l))) []) : ∃ m, goD Γ_slices_ContainsFunc_Lint tab fn_slices_ContainsFunc_Lint 0 K m [.code (bodyOf fn_slices_ContainsFunc_Lint)] (initSt [.one (.dat (.list .int) l), .one (.fn n_flash_Program_1 [])] []) := by
  refine ⟨1, ?_⟩
  rw [slices_ContainsFunc_Lint_0_w, slices_ContainsFunc_Lint_0_vc _ _ _ _ rfl]
  refine ⟨hp, ?_⟩
  rw [show lei 0 (firstBad l) = !okWords l from firstBad_slices_ContainsFunc_Lint l 0 (by omega)]
  exact hK
set_option maxHeartbeats 4000000 in
theorem run_slices_ContainsFunc_Lint_1 (l : List Int) (hp : Sm l) (K : V → List Blk → Prop) (hK : K (.one (.dat .bool (!okWords l))) []) : ∃ m, goD Γ_slices_ContainsFunc_Lint tab fn_slices_ContainsFunc_Lint 0 K m [.code (bodyOf fn_slices_ContainsFunc_Lint)] (initSt [.one (.dat (.list .int) l), .one (.fn n_ref_allWords_1 [])] []) := by
  refine ⟨1, ?_⟩
  rw [slices_ContainsFunc_Lint_1_w, slices_ContainsFunc_Lint_1_vc _ _ _ _ rfl]
  refine ⟨hp, ?_⟩
  rw [show lei 0 (firstBad l) = !okWords l from firstBad_slices_ContainsFunc_Lint l 0 (by omega)]
  exact hK
set_option maxHeartbeats 4000000 in
theorem run_slices_ContainsFunc_Lint_2 (l : List Int) (hp : Sm l) (K : V → List Blk → Prop) (hK : K (.one (.dat .bool (!okWords l))) []) : ∃ m, goD Γ_slices_ContainsFunc_Lint tab fn_slices_ContainsFunc_Lint 0 K m [.code (bodyOf fn_slices_ContainsFunc_Lint)] (initSt [.one (.dat (.list .int) l), .one (.fn n_unit_CheckMessage_1 [])] []) := by
  refine ⟨1, ?_⟩
  rw [slices_ContainsFunc_Lint_2_w, slices_ContainsFunc_Lint_2_vc _ _ _ _ rfl]
  refine ⟨hp, ?_⟩
  rw [show lei 0 (firstBad l) = !okWords l from firstBad_slices_ContainsFunc_Lint l 0 (by omega)]
  exact hK
theorem sound_slices_ContainsFunc_Lint : SoundC Tryd.prog tab n_slices_ContainsFunc_Lint c_slices_ContainsFunc_Lint := soundC_of ok_slices_ContainsFunc_Lint hf_slices_ContainsFunc_Lint hB_slices_ContainsFunc_Lint (by
  intro vs bs p v bs' h hp
  unfold c_slices_ContainsFunc_Lint at h
  split at h
  · split at h
    · rename_i hfn
      have hfn := Nat.eq_of_beq_eq_true hfn
      subst hfn
      cases h
      exact ⟨by kernel_rfl, rfl, .inl (run_slices_ContainsFunc_Lint_0 _ hp.1 _ ⟨rfl, rfl⟩)⟩
    · split at h
      · rename_i hfn
        have hfn := Nat.eq_of_beq_eq_true hfn
        subst hfn
        cases h
        exact ⟨by kernel_rfl, rfl, .inl (run_slices_ContainsFunc_Lint_1 _ hp.1 _ ⟨rfl, rfl⟩)⟩
      · split at h
        · rename_i hfn
          have hfn := Nat.eq_of_beq_eq_true hfn
          subst hfn
          cases h
          exact ⟨by kernel_rfl, rfl, .inl (run_slices_ContainsFunc_Lint_2 _ hp.1 _ ⟨rfl, rfl⟩)⟩
        · cases h
  · cases h)

def c_flash_Program : Contract := fun vs bs => match vs, bs with
  | [.agg [.dat (.list .int) ws, .dat .int fu], .one (.dat .int at_), .one (.dat (.list .int) l)], [] => some (some (Sm l), .tup [.agg [.dat (.list .int) (programF ⟨ws, fu⟩ at_ l).1.words, .dat .int (programF ⟨ws, fu⟩ at_ l).1.fuel], .one (.dat .int (programF ⟨ws, fu⟩ at_ l).2)], [])
  | _, _ => none
def Γ_flash_Program : Ctx := [(n_flash_Check, c_flash_Check), (n_slices_ContainsFunc_Lint, c_slices_ContainsFunc_Lint), (n_flash_Copy, c_flash_Copy), (n_flash_Burn, (orC c_flash_Burn c_flash_Burn_b))]
theorem ok_flash_Program : Ok Tryd.prog tab Γ_flash_Program := ((((ok_nil.consC hf_flash_Burn hB_flash_Burn (soundC_or sound_flash_Burn sound_flash_Burn_b)).consC hf_flash_Copy hB_flash_Copy sound_flash_Copy).consC hf_slices_ContainsFunc_Lint hB_slices_ContainsFunc_Lint sound_slices_ContainsFunc_Lint).consC hf_flash_Check hB_flash_Check sound_flash_Check)
theorem flash_Program_vc (ws : List Int) (fu : Int) (at_ : Int) (l : List Int) (rec : List It → St → Prop) (K : V → List Blk → Prop) v0 (hv0 : v0 = (checkFlash ⟨ws, fu⟩)) v1 (hv1 : v1 = (okWords l)) v2 (hv2 : v2 = (burnCh at_ l)) v3 (hv3 : v3 = (doCh ⟨ws, fu⟩ v2)) : segD Γ_flash_Program tab fn_flash_Program 0 K rec [.code (bodyOf fn_flash_Program)] (initSt [.agg [.dat (Ty.list Ty.int) ws, .dat Ty.int fu], .one (.dat Ty.int at_), .one (.dat (Ty.list Ty.int) l)] []) = (
    br (!(eqi v0 (0 : Int)))
     (K (.tup [.agg [.dat (Ty.list Ty.int) [], .dat Ty.int (0 : Int)], .one (.dat Ty.int v0)]) [])
     (br (lti at_ (0 : Int))
       (K (.tup [.agg [.dat (Ty.list Ty.int) [], .dat Ty.int (0 : Int)], .one (.dat Ty.int (5 : Int))]) [])
       (br (lti (((len ws) : Nat) : Int) at_)
         (K (.tup [.agg [.dat (Ty.list Ty.int) [], .dat Ty.int (0 : Int)], .one (.dat Ty.int (5 : Int))]) [])
         (br (lti (w64 ((((len ws) : Nat) : Int) - at_)) (((len l) : Nat) : Int))
           (K (.tup [.agg [.dat (Ty.list Ty.int) [], .dat Ty.int (0 : Int)], .one (.dat Ty.int (5 : Int))]) [])
           (((List.length l) ≤ 140737488355328) ∧
            (br (!v1)
             (K (.tup [.agg [.dat (Ty.list Ty.int) [], .dat Ty.int (0 : Int)], .one (.dat Ty.int (3 : Int))]) [])
             ((((len ws) * 8) ≤ 140737488355328) ∧
              ((((-(1 : Int)) ≤ fu) ∧ ((fu ≤ (100000 : Int)) ∧ (((0 : Int) ≤ at_) ∧ (((at_ + (((len l) : Nat) : Int)) ≤ (((len ws) : Nat) : Int)) ∧ ((len ws) ≤ 192))))) ∧
              (br (!(v3).snd)
               (K (.tup [.agg [.dat (Ty.list Ty.int) ((v3).fst).words, .dat Ty.int ((v3).fst).fuel], .one (.dat Ty.int (7 : Int))]) [])
               (K (.tup [.agg [.dat (Ty.list Ty.int) ((v3).fst).words, .dat Ty.int ((v3).fst).fuel], .one (.dat Ty.int (0 : Int))]) [])))))))))) := by subst hv3; subst hv2; subst hv1; subst hv0; kernel_rfl
theorem flash_Program_w (ws : List Int) (fu : Int) (at_ : Int) (l : List Int) (m : Nat) (K : V → List Blk → Prop) : goD Γ_flash_Program tab fn_flash_Program 0 K (m + 1) [.code (bodyOf fn_flash_Program)] (initSt [.agg [.dat (Ty.list Ty.int) ws, .dat Ty.int fu], .one (.dat Ty.int at_), .one (.dat (Ty.list Ty.int) l)] []) = segD Γ_flash_Program tab fn_flash_Program 0 K (goD Γ_flash_Program tab fn_flash_Program 0 K m) [.code (bodyOf fn_flash_Program)] (initSt [.agg [.dat (Ty.list Ty.int) ws, .dat Ty.int fu], .one (.dat Ty.int at_), .one (.dat (Ty.list Ty.int) l)] []) := rfl

set_option maxHeartbeats 4000000 in
theorem run_flash_Program (ws : List Int) (fu at_ : Int) (l : List Int) (hp : Sm l) (K : V → List Blk → Prop) (hK : K (.tup [.agg [.dat (.list .int) (programF ⟨ws, fu⟩ at_ l).1.words, .dat .int (programF ⟨ws, fu⟩ at_ l).1.fuel], .one (.dat .int (programF ⟨ws, fu⟩ at_ l).2)]) []) : ∃ m, goD Γ_flash_Program tab fn_flash_Program 0 K m [.code (bodyOf fn_flash_Program)] (initSt [.agg [.dat (.list .int) ws, .dat .int fu], .one (.dat .int at_), .one (.dat (.list .int) l)] []) := by
  refine ⟨1, ?_⟩
  rw [flash_Program_w, flash_Program_vc _ _ _ _ _ _ _ rfl _ rfl _ rfl _ rfl]
  unfold programF at hK
  refine ne_s (fun h => ?_) (fun h => ?_)
  · rw [if_neg h] at hK; exact hK
  rw [if_pos h] at hK
  obtain ⟨c1, c2, c3, c4⟩ := checkFlash_ok h
  obtain ⟨c5, c6⟩ := okLen_le c1
  simp only at c2 c3 c5 c6
  have five : ¬ (0 ≤ at_ ∧ at_ ≤ (ws.length : Int) ∧ (l.length : Int) ≤ ws.length - at_) → K (.tup [.agg [.dat (.list .int) [], .dat .int 0], .one (.dat .int 5)]) [] := fun hn => by
    rw [if_neg hn] at hK; exact hK
  simp only [len]
  refine lt_s (fun h1 => five (by omega)) (fun h1 => lt_s (fun h2 => five (by omega)) (fun h2 => ?_))
  rw [w64_id (by omega) (by omega)]
  refine lt_s (fun h3 => five (by omega)) (fun h3 => ⟨hp, nt_s (fun h4 => ?_) (fun h4 => ?_)⟩)
  · rw [if_pos ⟨h1, h2, h3⟩, if_neg (by rw [h4]; simp)] at hK; exact hK
  · rw [if_pos ⟨h1, h2, h3⟩, if_pos h4] at hK
    refine ⟨by omega, ⟨c2, c3, h1, by omega, by omega⟩, nt_s (fun h5 => ?_) (fun h5 => ?_)⟩
    · simp only [power, powerE, h5] at hK; exact hK
    · simp only [power, powerE, h5] at hK; exact hK
theorem sound_flash_Program : SoundC Tryd.prog tab n_flash_Program c_flash_Program := soundC_of ok_flash_Program hf_flash_Program hB_flash_Program (by
  intro vs bs p v bs' h hp
  unfold c_flash_Program at h
  split at h
  · cases h
    exact ⟨by kernel_rfl, rfl, .inl (run_flash_Program _ _ _ _ hp.1 _ ⟨rfl, rfl⟩)⟩
  · cases h)

def c_slot_Fill : Contract := fun vs bs => match vs, bs with
  | [.agg [.dat (.list .int) ws, .dat .int fu], .one (.dat .int slot), .one (.dat .int at_), .one (.dat (.list .int) l)], [] => some (some (Sm l), .tup [.agg [.dat (.list .int) (fillS ⟨ws, fu⟩ slot at_ l).1.words, .dat .int (fillS ⟨ws, fu⟩ slot at_ l).1.fuel], .one (.dat .int (fillS ⟨ws, fu⟩ slot at_ l).2)], [])
  | _, _ => none
def Γ_slot_Fill : Ctx := [(n_slot_check, c_slot_check), (n_slot_begin, c_slot_begin), (n_flash_Program, c_flash_Program)]
theorem ok_slot_Fill : Ok Tryd.prog tab Γ_slot_Fill := (((ok_nil.consC hf_flash_Program hB_flash_Program sound_flash_Program).consC hf_slot_begin hB_slot_begin sound_slot_begin).consC hf_slot_check hB_slot_check sound_slot_check)
theorem slot_Fill_vc (ws : List Int) (fu : Int) (slot : Int) (at_ : Int) (l : List Int) (rec : List It → St → Prop) (K : V → List Blk → Prop) v0 (hv0 : v0 = (checkSlot (⟨ws, fu⟩ : Flash) slot)) v1 (hv1 : v1 = (programF (⟨ws, fu⟩ : Flash) (w64 ((w64 (((64 : Int) + ((64 : Int) * slot)) + (4 : Int))) + at_)) l)) : segD Γ_slot_Fill tab fn_slot_Fill 0 K rec [.code (bodyOf fn_slot_Fill)] (initSt [.agg [.dat (Ty.list Ty.int) ws, .dat Ty.int fu], .one (.dat Ty.int slot), .one (.dat Ty.int at_), .one (.dat (Ty.list Ty.int) l)] []) = (
    br (!(eqi v0 (0 : Int)))
     (K (.tup [.agg [.dat (Ty.list Ty.int) [], .dat Ty.int (0 : Int)], .one (.dat Ty.int v0)]) [])
     (br (lti at_ (0 : Int))
       (K (.tup [.agg [.dat (Ty.list Ty.int) [], .dat Ty.int (0 : Int)], .one (.dat Ty.int (2 : Int))]) [])
       (br (lti (40 : Int) at_)
         (K (.tup [.agg [.dat (Ty.list Ty.int) [], .dat Ty.int (0 : Int)], .one (.dat Ty.int (2 : Int))]) [])
         (br (lti (w64 ((40 : Int) - at_)) (((len l) : Nat) : Int))
           (K (.tup [.agg [.dat (Ty.list Ty.int) [], .dat Ty.int (0 : Int)], .one (.dat Ty.int (2 : Int))]) [])
           ((((0 : Int) ≤ slot) ∧ (slot ≤ (1 : Int))) ∧
            (((List.length l) ≤ 140737488355328) ∧
            (K (.tup [.agg [.dat (Ty.list Ty.int) ((v1).fst).words, .dat Ty.int ((v1).fst).fuel], .one (.dat Ty.int (v1).snd)]) []))))))) := by subst hv1; subst hv0; kernel_rfl
theorem slot_Fill_w (ws : List Int) (fu : Int) (slot : Int) (at_ : Int) (l : List Int) (m : Nat) (K : V → List Blk → Prop) : goD Γ_slot_Fill tab fn_slot_Fill 0 K (m + 1) [.code (bodyOf fn_slot_Fill)] (initSt [.agg [.dat (Ty.list Ty.int) ws, .dat Ty.int fu], .one (.dat Ty.int slot), .one (.dat Ty.int at_), .one (.dat (Ty.list Ty.int) l)] []) = segD Γ_slot_Fill tab fn_slot_Fill 0 K (goD Γ_slot_Fill tab fn_slot_Fill 0 K m) [.code (bodyOf fn_slot_Fill)] (initSt [.agg [.dat (Ty.list Ty.int) ws, .dat Ty.int fu], .one (.dat Ty.int slot), .one (.dat Ty.int at_), .one (.dat (Ty.list Ty.int) l)] []) := rfl

set_option maxHeartbeats 4000000 in
theorem run_slot_Fill (ws : List Int) (fu slot at_ : Int) (l : List Int) (hp : Sm l) (K : V → List Blk → Prop) (hK : K (.tup [.agg [.dat (.list .int) (fillS ⟨ws, fu⟩ slot at_ l).1.words, .dat .int (fillS ⟨ws, fu⟩ slot at_ l).1.fuel], .one (.dat .int (fillS ⟨ws, fu⟩ slot at_ l).2)]) []) : ∃ m, goD Γ_slot_Fill tab fn_slot_Fill 0 K m [.code (bodyOf fn_slot_Fill)] (initSt [.agg [.dat (.list .int) ws, .dat .int fu], .one (.dat .int slot), .one (.dat .int at_), .one (.dat (.list .int) l)] []) := by
  refine ⟨1, ?_⟩
  rw [slot_Fill_w, slot_Fill_vc _ _ _ _ _ _ _ _ rfl _ rfl]
  unfold fillS at hK
  refine ne_s (fun h => ?_) (fun h => ?_)
  · rw [if_neg h] at hK; exact hK
  rw [if_pos h] at hK
  obtain ⟨h1, h2, h3⟩ := checkSlot_ok h
  simp only [len]
  refine lt_s (fun h4 => ?_) (fun h4 => lt_s (fun h5 => ?_) (fun h5 => ?_))
  · rw [if_neg (by omega)] at hK; exact hK
  · rw [if_neg (by omega)] at hK; exact hK
  rw [w64_id (n := 40 - at_) (by omega) (by omega)]
  refine lt_s (fun h6 => ?_) (fun h6 => ?_)
  · rw [if_neg (by omega)] at hK; exact hK
  rw [w64_id (n := 64 + 64 * slot + 4) (by omega) (by omega), w64_id (by omega) (by omega), show 64 + 64 * slot + 4 + at_ = 68 + 64 * slot + at_ by omega]
  rw [if_pos (by omega)] at hK
  exact ⟨by omega, hp, hK⟩
theorem sound_slot_Fill : SoundC Tryd.prog tab n_slot_Fill c_slot_Fill := soundC_of ok_slot_Fill hf_slot_Fill hB_slot_Fill (by
  intro vs bs p v bs' h hp
  unfold c_slot_Fill at h
  split at h
  · cases h
    exact ⟨by kernel_rfl, rfl, .inl (run_slot_Fill _ _ _ _ _ hp.1 _ ⟨rfl, rfl⟩)⟩
  · cases h)

def c_slot_Seal : Contract := fun vs bs => match vs, bs with
  | [.agg [.dat (.list .int) ws, .dat .int fu], .one (.dat .int slot), .one (.dat .int long), .one (.dat .int name)], [] => some (none, .tup [.agg [.dat (.list .int) (sealS ⟨ws, fu⟩ slot long name).1.words, .dat .int (sealS ⟨ws, fu⟩ slot long name).1.fuel], .one (.dat .int (sealS ⟨ws, fu⟩ slot long name).2)], [])
  | _, _ => none
def Γ_slot_Seal : Ctx := [(n_slot_check, c_slot_check), (n_slot_begin, c_slot_begin), (n_flash_Program, c_flash_Program)]
theorem ok_slot_Seal : Ok Tryd.prog tab Γ_slot_Seal := (((ok_nil.consC hf_flash_Program hB_flash_Program sound_flash_Program).consC hf_slot_begin hB_slot_begin sound_slot_begin).consC hf_slot_check hB_slot_check sound_slot_check)
theorem slot_Seal_vc (ws : List Int) (fu : Int) (slot : Int) (long : Int) (name : Int) (rec : List It → St → Prop) (K : V → List Blk → Prop) v0 (hv0 : v0 = (checkSlot (⟨ws, fu⟩ : Flash) slot)) v1 (hv1 : v1 = (programF (⟨ws, fu⟩ : Flash) ((64 : Int) + ((64 : Int) * slot)) (long :: (name :: ((xori (65535 : Int) long) :: ((xori (65535 : Int) name) :: [])))))) : segD Γ_slot_Seal tab fn_slot_Seal 0 K rec [.code (bodyOf fn_slot_Seal)] (initSt [.agg [.dat (Ty.list Ty.int) ws, .dat Ty.int fu], .one (.dat Ty.int slot), .one (.dat Ty.int long), .one (.dat Ty.int name)] []) = (
    br (!(eqi v0 (0 : Int)))
     (K (.tup [.agg [.dat (Ty.list Ty.int) [], .dat Ty.int (0 : Int)], .one (.dat Ty.int v0)]) [])
     (br (lti long (1 : Int))
       (K (.tup [.agg [.dat (Ty.list Ty.int) [], .dat Ty.int (0 : Int)], .one (.dat Ty.int (3 : Int))]) [])
       (br (lti (40 : Int) long)
         (K (.tup [.agg [.dat (Ty.list Ty.int) [], .dat Ty.int (0 : Int)], .one (.dat Ty.int (3 : Int))]) [])
         (br (lti name (1 : Int))
           (K (.tup [.agg [.dat (Ty.list Ty.int) [], .dat Ty.int (0 : Int)], .one (.dat Ty.int (3 : Int))]) [])
           (br (lti (60 : Int) name)
             (K (.tup [.agg [.dat (Ty.list Ty.int) [], .dat Ty.int (0 : Int)], .one (.dat Ty.int (3 : Int))]) [])
             ((((0 : Int) ≤ slot) ∧ (slot ≤ (1 : Int))) ∧
              (((List.length (long :: (name :: ((xori (65535 : Int) long) :: ((xori (65535 : Int) name) :: []))))) ≤ 140737488355328) ∧
              (K (.tup [.agg [.dat (Ty.list Ty.int) ((v1).fst).words, .dat Ty.int ((v1).fst).fuel], .one (.dat Ty.int (v1).snd)]) [])))))))) := by subst hv1; subst hv0; kernel_rfl
theorem slot_Seal_w (ws : List Int) (fu : Int) (slot : Int) (long : Int) (name : Int) (m : Nat) (K : V → List Blk → Prop) : goD Γ_slot_Seal tab fn_slot_Seal 0 K (m + 1) [.code (bodyOf fn_slot_Seal)] (initSt [.agg [.dat (Ty.list Ty.int) ws, .dat Ty.int fu], .one (.dat Ty.int slot), .one (.dat Ty.int long), .one (.dat Ty.int name)] []) = segD Γ_slot_Seal tab fn_slot_Seal 0 K (goD Γ_slot_Seal tab fn_slot_Seal 0 K m) [.code (bodyOf fn_slot_Seal)] (initSt [.agg [.dat (Ty.list Ty.int) ws, .dat Ty.int fu], .one (.dat Ty.int slot), .one (.dat Ty.int long), .one (.dat Ty.int name)] []) := rfl

set_option maxHeartbeats 4000000 in
theorem run_slot_Seal (ws : List Int) (fu slot long name : Int) (K : V → List Blk → Prop) (hK : K (.tup [.agg [.dat (.list .int) (sealS ⟨ws, fu⟩ slot long name).1.words, .dat .int (sealS ⟨ws, fu⟩ slot long name).1.fuel], .one (.dat .int (sealS ⟨ws, fu⟩ slot long name).2)]) []) : ∃ m, goD Γ_slot_Seal tab fn_slot_Seal 0 K m [.code (bodyOf fn_slot_Seal)] (initSt [.agg [.dat (.list .int) ws, .dat .int fu], .one (.dat .int slot), .one (.dat .int long), .one (.dat .int name)] []) := by
  refine ⟨1, ?_⟩
  rw [slot_Seal_w, slot_Seal_vc _ _ _ _ _ _ _ _ rfl _ rfl]
  unfold sealS at hK
  refine ne_s (fun h => ?_) (fun h => ?_)
  · rw [if_neg h] at hK; exact hK
  rw [if_pos h] at hK
  obtain ⟨h1, h2, h3⟩ := checkSlot_ok h
  have three : ¬ (1 ≤ long ∧ long ≤ 40 ∧ 1 ≤ name ∧ name ≤ 60) → K (.tup [.agg [.dat (.list .int) [], .dat .int 0], .one (.dat .int 3)]) [] := fun hn => by
    rw [if_neg (by simp only [okHead, Bool.and_eq_true, decide_eq_true_eq]; omega)] at hK; exact hK
  refine lt_s (fun h4 => three (by omega)) (fun h4 => lt_s (fun h5 => three (by omega)) (fun h5 => lt_s (fun h6 => three (by omega)) (fun h6 => lt_s (fun h7 => three (by omega)) (fun h7 => ?_))))
  rw [if_pos (by simp only [okHead, Bool.and_eq_true, decide_eq_true_eq]; omega)] at hK
  rw [xori_int (by omega) (by omega), xori_int (by omega) (by omega)]
  exact ⟨by omega, by simp only [List.length_cons, List.length_nil]; omega, hK⟩
theorem sound_slot_Seal : SoundC Tryd.prog tab n_slot_Seal c_slot_Seal := soundC_of ok_slot_Seal hf_slot_Seal hB_slot_Seal (by
  intro vs bs p v bs' h hp
  unfold c_slot_Seal at h
  split at h
  · cases h
    exact ⟨by kernel_rfl, rfl, .inl (run_slot_Seal _ _ _ _ _ _ ⟨rfl, rfl⟩)⟩
  · cases h)

def c_log_check_1 : Contract := fun vs bs => match vs, bs with
  | [.one (.dat .int w)], [] => some (none, .one (.dat .bool (!okWord w)), [])
  | _, _ => none
def Γ_log_check_1 : Ctx := []
theorem ok_log_check_1 : Ok Tryd.prog tab Γ_log_check_1 := ok_nil
theorem log_check_1_vc (w : Int) (rec : List It → St → Prop) (K : V → List Blk → Prop) : segD Γ_log_check_1 tab fn_log_check_1 0 K rec [.code (bodyOf fn_log_check_1)] (initSt [.one (.dat Ty.int w)] []) = (
    br (lti w (0 : Int))
     (K (.one (.dat Ty.bool true)) [])
     (K (.one (.dat Ty.bool (lti (65535 : Int) w))) [])) := by kernel_rfl
theorem log_check_1_w (w : Int) (m : Nat) (K : V → List Blk → Prop) : goD Γ_log_check_1 tab fn_log_check_1 0 K (m + 1) [.code (bodyOf fn_log_check_1)] (initSt [.one (.dat Ty.int w)] []) = segD Γ_log_check_1 tab fn_log_check_1 0 K (goD Γ_log_check_1 tab fn_log_check_1 0 K m) [.code (bodyOf fn_log_check_1)] (initSt [.one (.dat Ty.int w)] []) := rfl

set_option maxHeartbeats 4000000 in
theorem run_log_check_1 (w : Int) (K : V → List Blk → Prop) (hK : K (.one (.dat .bool (!okWord w))) []) : ∃ m, goD Γ_log_check_1 tab fn_log_check_1 0 K m [.code (bodyOf fn_log_check_1)] (initSt [.one (.dat .int w)] []) := by
  refine ⟨1, ?_⟩
  rw [log_check_1_w, log_check_1_vc _ _ _]
  refine lt_s (fun h => ?_) (fun h => ?_)
  · rw [show (!okWord w) = true from by simp [okWord]; omega] at hK; exact hK
  · rw [show (!okWord w) = lti 65535 w from by simp [okWord, lti, h]; by_cases h2 : w ≤ 65535 <;> simp [h2] <;> omega] at hK; exact hK
theorem sound_log_check_1 : SoundC Tryd.prog tab n_log_check_1 c_log_check_1 := soundC_of ok_log_check_1 hf_log_check_1 hB_log_check_1 (by
  intro vs bs p v bs' h hp
  unfold c_log_check_1 at h
  split at h
  · cases h
    exact ⟨by kernel_rfl, rfl, .inl (run_log_check_1 _ _ ⟨rfl, rfl⟩)⟩
  · cases h)

def c_slices_IndexFunc_Record : Contract := fun vs bs => match vs, bs with
  | [.one (.dat (.list .int) l), .one (.fn f [])], [] => (match Nat.beq f n_log_check_1 with | true => some (some (Sm l), .one (.dat .int (firstBad l)), []) | false => none)
  | _, _ => none
def Γ_slices_IndexFunc_Record : Ctx := [(n_log_check_1, c_log_check_1)]
theorem ok_slices_IndexFunc_Record : Ok Tryd.prog tab Γ_slices_IndexFunc_Record := (ok_nil.consC hf_log_check_1 hB_log_check_1 sound_log_check_1)
noncomputable def slices_IndexFunc_Record_0_L0 : List It := [.inLoop [8, 7, 4, 0, 1] (Code.sub (bodyOf fn_slices_IndexFunc_Record) [1, 0, 1, 0, 0]), .inBlock 0, .code (Code.sub (bodyOf fn_slices_IndexFunc_Record) [1, 1])]
def slices_IndexFunc_Record_0_S0 (x0 : Int) (x1 : Int) (x2 : Int) (x3 : (List Int)) : St := ⟨[(8, .one (.dat Ty.int x0)), (7, .one (.dat Ty.int x1)), (4, .one (.dat Ty.int x2)), (0, .one (.dat (Ty.list Ty.int) x3)), (1, .one (.fn n_log_check_1 []))], [], 0⟩
theorem slices_IndexFunc_Record_0_vc (l : List Int) (rec : List It → St → Prop) (K : V → List Blk → Prop) : segD Γ_slices_IndexFunc_Record tab fn_slices_IndexFunc_Record 0 K rec [.code (bodyOf fn_slices_IndexFunc_Record)] (initSt [.one (.dat (Ty.list Ty.int) l), .one (.fn n_log_check_1 [])] []) = (
    rec slices_IndexFunc_Record_0_L0 (slices_IndexFunc_Record_0_S0 (0 : Int) (((len l) : Nat) : Int) (0 : Int) l)) := by kernel_rfl
theorem slices_IndexFunc_Record_0_w (l : List Int) (m : Nat) (K : V → List Blk → Prop) : goD Γ_slices_IndexFunc_Record tab fn_slices_IndexFunc_Record 0 K (m + 1) [.code (bodyOf fn_slices_IndexFunc_Record)] (initSt [.one (.dat (Ty.list Ty.int) l), .one (.fn n_log_check_1 [])] []) = segD Γ_slices_IndexFunc_Record tab fn_slices_IndexFunc_Record 0 K (goD Γ_slices_IndexFunc_Record tab fn_slices_IndexFunc_Record 0 K m) [.code (bodyOf fn_slices_IndexFunc_Record)] (initSt [.one (.dat (Ty.list Ty.int) l), .one (.fn n_log_check_1 [])] []) := rfl
theorem slices_IndexFunc_Record_0_vc0 (x0 : Int) (x1 : Int) (x2 : Int) (x3 : (List Int)) (rec : List It → St → Prop) (K : V → List Blk → Prop) v0 (hv0 : v0 = (okWord (nth x3 (Int.toNat x0) (Ty.dflt Ty.int)))) : segD Γ_slices_IndexFunc_Record tab fn_slices_IndexFunc_Record 0 K rec (.code (Code.sub (bodyOf fn_slices_IndexFunc_Record) [1, 0, 1, 0, 0]) :: slices_IndexFunc_Record_0_L0) (slices_IndexFunc_Record_0_S0 x0 x1 x2 x3) = (
    br (lti x0 x1)
     ((((0 : Int) ≤ x0) ∧ (x0 < (((len x3) : Nat) : Int))) ∧
      (br (!v0)
       (K (.one (.dat Ty.int x0)) [])
       (rec slices_IndexFunc_Record_0_L0 (slices_IndexFunc_Record_0_S0 (w64 (x0 + (1 : Int))) x1 x2 x3))))
     (K (.one (.dat Ty.int (-(1 : Int)))) [])) := by subst hv0; kernel_rfl
theorem slices_IndexFunc_Record_0_w0 (x0 : Int) (x1 : Int) (x2 : Int) (x3 : (List Int)) (m : Nat) (K : V → List Blk → Prop) : goD Γ_slices_IndexFunc_Record tab fn_slices_IndexFunc_Record 0 K (m + 1) slices_IndexFunc_Record_0_L0 (slices_IndexFunc_Record_0_S0 x0 x1 x2 x3) = segD Γ_slices_IndexFunc_Record tab fn_slices_IndexFunc_Record 0 K (goD Γ_slices_IndexFunc_Record tab fn_slices_IndexFunc_Record 0 K m) (.code (Code.sub (bodyOf fn_slices_IndexFunc_Record) [1, 0, 1, 0, 0]) :: slices_IndexFunc_Record_0_L0) (slices_IndexFunc_Record_0_S0 x0 x1 x2 x3) := rfl

theorem loop_slices_IndexFunc_Record_0 (l : List Int) (hs : Sm l) (K : V → List Blk → Prop) : ∀ (d k : Nat), k + d = l.length → K (.one (.dat .int (firstBadFrom k (l.drop k)))) [] →
    goD Γ_slices_IndexFunc_Record tab fn_slices_IndexFunc_Record 0 K (d + 1) slices_IndexFunc_Record_0_L0 (slices_IndexFunc_Record_0_S0 (k : Int) (((len l) : Nat) : Int) 0 l)
  | 0, k, hk, hK => by
    rw [slices_IndexFunc_Record_0_w0, slices_IndexFunc_Record_0_vc0 _ _ _ _ _ _ _ rfl]
    refine lt_f (by simp only [len]; omega) ?_
    rw [List.drop_of_length_le (by omega)] at hK
    exact hK
  | d + 1, k, hk, hK => by
    have hs' := hs
    unfold Sm at hs'
    rw [slices_IndexFunc_Record_0_w0, slices_IndexFunc_Record_0_vc0 _ _ _ _ _ _ _ rfl]
    rw [drop_step (by omega) (Ty.dflt Ty.int)] at hK
    simp only [firstBadFrom] at hK
    refine lt_t (by simp only [len]; omega) ⟨⟨by omega, by simp only [len]; omega⟩, nt_s (fun h => ?_) (fun h => ?_)⟩
    · rw [toNat_nat] at h
      rw [if_neg (by rw [h]; simp)] at hK
      exact hK
    · rw [toNat_nat] at h
      rw [if_pos h] at hK
      rw [w64_succ (by omega)]
      exact loop_slices_IndexFunc_Record_0 l hs K d (k + 1) (by omega) hK
set_option maxHeartbeats 4000000 in
theorem run_slices_IndexFunc_Record_0 (l : List Int) (hp : Sm l) (K : V → List Blk → Prop) (hK : K (.one (.dat .int (firstBad l))) []) : ∃ m, goD Γ_slices_IndexFunc_Record tab fn_slices_IndexFunc_Record 0 K m [.code (bodyOf fn_slices_IndexFunc_Record)] (initSt [.one (.dat (.list .int) l), .one (.fn n_log_check_1 [])] []) := by
  refine ⟨l.length + 2, ?_⟩
  rw [slices_IndexFunc_Record_0_w, slices_IndexFunc_Record_0_vc _ _ _]
  exact loop_slices_IndexFunc_Record_0 l hp K l.length 0 (by omega) hK
theorem sound_slices_IndexFunc_Record : SoundC Tryd.prog tab n_slices_IndexFunc_Record c_slices_IndexFunc_Record := soundC_of ok_slices_IndexFunc_Record hf_slices_IndexFunc_Record hB_slices_IndexFunc_Record (by
  intro vs bs p v bs' h hp
  unfold c_slices_IndexFunc_Record at h
  split at h
  · split at h
    · rename_i hfn
      have hfn := Nat.eq_of_beq_eq_true hfn
      subst hfn
      cases h
      exact ⟨by kernel_rfl, rfl, .inl (run_slices_IndexFunc_Record_0 _ hp.1 _ ⟨rfl, rfl⟩)⟩
    · cases h
  · cases h)

def c_slices_ContainsFunc_Record : Contract := fun vs bs => match vs, bs with
  | [.one (.dat (.list .int) l), .one (.fn f [])], [] => (match Nat.beq f n_log_check_1 with | true => some (some (Sm l), .one (.dat .bool (!okWords l)), []) | false => none)
  | _, _ => none
def Γ_slices_ContainsFunc_Record : Ctx := [(n_slices_IndexFunc_Record, c_slices_IndexFunc_Record), (n_log_check_1, c_log_check_1)]
theorem ok_slices_ContainsFunc_Record : Ok Tryd.prog tab Γ_slices_ContainsFunc_Record := ((ok_nil.consC hf_log_check_1 hB_log_check_1 sound_log_check_1).consC hf_slices_IndexFunc_Record hB_slices_IndexFunc_Record sound_slices_IndexFunc_Record)
theorem slices_ContainsFunc_Record_0_vc (l : List Int) (rec : List It → St → Prop) (K : V → List Blk → Prop) v0 (hv0 : v0 = (firstBad l)) : segD Γ_slices_ContainsFunc_Record tab fn_slices_ContainsFunc_Record 0 K rec [.code (bodyOf fn_slices_ContainsFunc_Record)] (initSt [.one (.dat (Ty.list Ty.int) l), .one (.fn n_log_check_1 [])] []) = (
    ((List.length l) ≤ 140737488355328) ∧
    (K (.one (.dat Ty.bool (lei (0 : Int) v0))) [])) := by subst hv0; kernel_rfl
theorem slices_ContainsFunc_Record_0_w (l : List Int) (m : Nat) (K : V → List Blk → Prop) : goD Γ_slices_ContainsFunc_Record tab fn_slices_ContainsFunc_Record 0 K (m + 1) [.code (bodyOf fn_slices_ContainsFunc_Record)] (initSt [.one (.dat (Ty.list Ty.int) l), .one (.fn n_log_check_1 [])] []) = segD Γ_slices_ContainsFunc_Record tab fn_slices_ContainsFunc_Record 0 K (goD Γ_slices_ContainsFunc_Record tab fn_slices_ContainsFunc_Record 0 K m) [.code (bodyOf fn_slices_ContainsFunc_Record)] (initSt [.one (.dat (Ty.list Ty.int) l), .one (.fn n_log_check_1 [])] []) := rfl

theorem firstBad_slices_ContainsFunc_Record : ∀ (l : List Int) (k : Int), 0 ≤ k → lei 0 (firstBadFrom k l) = !okWords l
  | [], k, hk => by simp [firstBadFrom, okWords, lei]
  | w :: l, k, hk => by
    simp only [firstBadFrom, okWords, List.all_cons]
    cases h : okWord w with
    | true => simpa [okWords] using firstBad_slices_ContainsFunc_Record l (k + 1) (by omega)
    | false => simp [lei, hk]
set_option maxHeartbeats 4000000 in
theorem run_slices_ContainsFunc_Record_0 (l : List Int) (hp : Sm l) (K : V → List Blk → Prop) (hK : K (.one (.dat .bool (!okWords l))) []) : ∃ m, goD Γ_slices_ContainsFunc_Record tab fn_slices_ContainsFunc_Record 0 K m [.code (bodyOf fn_slices_ContainsFunc_Record)] (initSt [.one (.dat (.list .int) l), .one (.fn n_log_check_1 [])] []) := by
  refine ⟨1, ?_⟩
  rw [slices_ContainsFunc_Record_0_w, slices_ContainsFunc_Record_0_vc _ _ _ _ rfl]
  refine ⟨hp, ?_⟩
  rw [show lei 0 (firstBad l) = !okWords l from firstBad_slices_ContainsFunc_Record l 0 (by omega)]
  exact hK
theorem sound_slices_ContainsFunc_Record : SoundC Tryd.prog tab n_slices_ContainsFunc_Record c_slices_ContainsFunc_Record := soundC_of ok_slices_ContainsFunc_Record hf_slices_ContainsFunc_Record hB_slices_ContainsFunc_Record (by
  intro vs bs p v bs' h hp
  unfold c_slices_ContainsFunc_Record at h
  split at h
  · split at h
    · rename_i hfn
      have hfn := Nat.eq_of_beq_eq_true hfn
      subst hfn
      cases h
      exact ⟨by kernel_rfl, rfl, .inl (run_slices_ContainsFunc_Record_0 _ hp.1 _ ⟨rfl, rfl⟩)⟩
    · cases h
  · cases h)

def c_log_check : Contract := fun vs bs => match vs, bs with
  | [.one (.dat (.list .int) l)], [] => some (some (Sm l), .one (.dat .int (checkRec l)), [])
  | _, _ => none
def Γ_log_check : Ctx := [(n_slices_ContainsFunc_Record, c_slices_ContainsFunc_Record), (n_log_check_1, c_log_check_1)]
theorem ok_log_check : Ok Tryd.prog tab Γ_log_check := ((ok_nil.consC hf_log_check_1 hB_log_check_1 sound_log_check_1).consC hf_slices_ContainsFunc_Record hB_slices_ContainsFunc_Record sound_slices_ContainsFunc_Record)
theorem log_check_vc (l : List Int) (rec : List It → St → Prop) (K : V → List Blk → Prop) v0 (hv0 : v0 = (okWords l)) : segD Γ_log_check tab fn_log_check 0 K rec [.code (bodyOf fn_log_check)] (initSt [.one (.dat (Ty.list Ty.int) l)] []) = (
    br (eqi (((len l) : Nat) : Int) (0 : Int))
     (K (.one (.dat Ty.int (2 : Int))) [])
     (br (lti (4 : Int) (((len l) : Nat) : Int))
       (K (.one (.dat Ty.int (2 : Int))) [])
       (((List.length l) ≤ 140737488355328) ∧
        (br (!v0)
         (K (.one (.dat Ty.int (3 : Int))) [])
         (K (.one (.dat Ty.int (0 : Int))) []))))) := by subst hv0; kernel_rfl
theorem log_check_w (l : List Int) (m : Nat) (K : V → List Blk → Prop) : goD Γ_log_check tab fn_log_check 0 K (m + 1) [.code (bodyOf fn_log_check)] (initSt [.one (.dat (Ty.list Ty.int) l)] []) = segD Γ_log_check tab fn_log_check 0 K (goD Γ_log_check tab fn_log_check 0 K m) [.code (bodyOf fn_log_check)] (initSt [.one (.dat (Ty.list Ty.int) l)] []) := rfl

set_option maxHeartbeats 4000000 in
theorem run_log_check (l : List Int) (hp : Sm l) (K : V → List Blk → Prop) (hK : K (.one (.dat .int (checkRec l))) []) : ∃ m, goD Γ_log_check tab fn_log_check 0 K m [.code (bodyOf fn_log_check)] (initSt [.one (.dat (.list .int) l)] []) := by
  refine ⟨1, ?_⟩
  rw [log_check_w, log_check_vc _ _ _ _ rfl]
  unfold checkRec at hK
  refine eq_s (fun h => ?_) (fun h => lt_s (fun h2 => ?_) (fun h2 => ⟨hp, nt_s (fun h3 => ?_) (fun h3 => ?_)⟩))
  · rw [if_neg (by simp only [len] at h; omega)] at hK; exact hK
  · rw [if_neg (by simp only [len] at h2; omega)] at hK; exact hK
  · rw [if_pos (by simp only [len] at h h2; omega), if_neg (by rw [h3]; simp)] at hK; exact hK
  · rw [if_pos (by simp only [len] at h h2; omega), if_pos h3] at hK; exact hK
theorem sound_log_check : SoundC Tryd.prog tab n_log_check c_log_check := soundC_of ok_log_check hf_log_check hB_log_check (by
  intro vs bs p v bs' h hp
  unfold c_log_check at h
  split at h
  · cases h
    exact ⟨by kernel_rfl, rfl, .inl (run_log_check _ hp.1 _ ⟨rfl, rfl⟩)⟩
  · cases h)

def c_slices_Clone_LRecord : Contract := fun vs bs => match vs, bs with
  | [.one (.dat (.list (.list .int)) l)], [] => some (some (len l * 24 ≤ 140737488355328), .one (.own 0), [.arr (.list .int) l])
  | _, _ => none
def Γ_slices_Clone_LRecord : Ctx := []
theorem ok_slices_Clone_LRecord : Ok Tryd.prog tab Γ_slices_Clone_LRecord := ok_nil
theorem slices_Clone_LRecord_vc (l : List (List Int)) (rec : List It → St → Prop) (K : V → List Blk → Prop) : segO Γ_slices_Clone_LRecord tab fn_slices_Clone_LRecord 0 K rec [.code (bodyOf fn_slices_Clone_LRecord)] (initSt [.one (.dat (Ty.list (Ty.list Ty.int)) l)] []) = (
    (∀ bn : Bool, (((bn = true) → ((len l) = 0)) → br bn
       (K (.one (.own 0)) [.arr (Ty.list Ty.int) []])
       ((((0 + (len l)) * 24) ≤ 140737488355328) ∧
        (K (.one (.own 0)) [.arr (Ty.list Ty.int) (cat [] l)]))))) := by kernel_rfl
theorem slices_Clone_LRecord_w (l : List (List Int)) (m : Nat) (K : V → List Blk → Prop) : goO Γ_slices_Clone_LRecord tab fn_slices_Clone_LRecord 0 K (m + 1) [.code (bodyOf fn_slices_Clone_LRecord)] (initSt [.one (.dat (Ty.list (Ty.list Ty.int)) l)] []) = segO Γ_slices_Clone_LRecord tab fn_slices_Clone_LRecord 0 K (goO Γ_slices_Clone_LRecord tab fn_slices_Clone_LRecord 0 K m) [.code (bodyOf fn_slices_Clone_LRecord)] (initSt [.one (.dat (Ty.list (Ty.list Ty.int)) l)] []) := rfl

set_option maxHeartbeats 4000000 in
theorem run_slices_Clone_LRecord (l : List (List Int)) (hp : len l * 24 ≤ 140737488355328) (K : V → List Blk → Prop) (hK : K (.one (.own 0)) [.arr (.list .int) l]) : ∃ m, goO Γ_slices_Clone_LRecord tab fn_slices_Clone_LRecord 0 K m [.code (bodyOf fn_slices_Clone_LRecord)] (initSt [.one (.dat (.list (.list .int)) l)] []) := by
  refine ⟨1, ?_⟩
  rw [slices_Clone_LRecord_w, slices_Clone_LRecord_vc _ _ _]
  intro bn hb
  refine br_split (fun h => ?_) (fun h => ⟨by simp only [len] at hp ⊢; omega, hK⟩)
  have : l = [] := List.length_eq_zero_iff.1 (hb h)
  subst this
  exact hK
theorem sound_slices_Clone_LRecord : SoundC Tryd.prog tab n_slices_Clone_LRecord c_slices_Clone_LRecord := soundC_of ok_slices_Clone_LRecord hf_slices_Clone_LRecord hB_slices_Clone_LRecord (by
  intro vs bs p v bs' h hp
  unfold c_slices_Clone_LRecord at h
  split at h
  · cases h
    exact ⟨by kernel_rfl, rfl, .inr (run_slices_Clone_LRecord _ hp.1 _ ⟨rfl, rfl⟩)⟩
  · cases h)

def c_log_head : Contract := fun vs bs => match vs, bs with
  | [.one (.dat .int n)], [] => some (some (0 ≤ n ∧ n ≤ 255), .one (.dat .int (42240 + n)), [])
  | _, _ => none
def Γ_log_head : Ctx := []
theorem ok_log_head : Ok Tryd.prog tab Γ_log_head := ok_nil
theorem log_head_vc (n : Int) (rec : List It → St → Prop) (K : V → List Blk → Prop) : segD Γ_log_head tab fn_log_head 0 K rec [.code (bodyOf fn_log_head)] (initSt [.one (.dat Ty.int n)] []) = (
    K (.one (.dat Ty.int (ori (42240 : Int) n))) []) := by kernel_rfl
theorem log_head_w (n : Int) (m : Nat) (K : V → List Blk → Prop) : goD Γ_log_head tab fn_log_head 0 K (m + 1) [.code (bodyOf fn_log_head)] (initSt [.one (.dat Ty.int n)] []) = segD Γ_log_head tab fn_log_head 0 K (goD Γ_log_head tab fn_log_head 0 K m) [.code (bodyOf fn_log_head)] (initSt [.one (.dat Ty.int n)] []) := rfl

set_option maxHeartbeats 4000000 in
theorem run_log_head (n : Int) (hp : 0 ≤ n ∧ n ≤ 255) (K : V → List Blk → Prop) (hK : K (.one (.dat .int (42240 + n))) []) : ∃ m, goD Γ_log_head tab fn_log_head 0 K m [.code (bodyOf fn_log_head)] (initSt [.one (.dat .int n)] []) := by
  refine ⟨1, ?_⟩
  rw [log_head_w, log_head_vc _ _ _, ori_head hp.1 hp.2]
  exact hK
theorem sound_log_head : SoundC Tryd.prog tab n_log_head c_log_head := soundC_of ok_log_head hf_log_head hB_log_head (by
  intro vs bs p v bs' h hp
  unfold c_log_head at h
  split at h
  · cases h
    exact ⟨by kernel_rfl, rfl, .inl (run_log_head _ hp.1 _ ⟨rfl, rfl⟩)⟩
  · cases h)

def c_log_words : Contract := fun vs bs => match vs, bs with
  | [.one (.dat (.list .int) l)], [] => some (some (len l ≤ 255), .one (.dat (.list .int) (recW l)), [])
  | _, _ => none
def Γ_log_words : Ctx := [(n_log_head, c_log_head)]
theorem ok_log_words : Ok Tryd.prog tab Γ_log_words := (ok_nil.consC hf_log_head hB_log_head sound_log_head)
theorem log_words_vc (l : List Int) (rec : List It → St → Prop) (K : V → List Blk → Prop) : segD Γ_log_words tab fn_log_words 0 K rec [.code (bodyOf fn_log_words)] (initSt [.one (.dat (Ty.list Ty.int) l)] []) = (
    (((0 : Int) ≤ (((len l) : Nat) : Int)) ∧ ((((len l) : Nat) : Int) ≤ (255 : Int))) ∧
    (((((len (((42240 : Int) + (((len l) : Nat) : Int)) :: [])) + (len l)) * 8) ≤ 140737488355328) ∧
    (K (.one (.dat (Ty.list Ty.int) (cat (((42240 : Int) + (((len l) : Nat) : Int)) :: []) l))) []))) := by kernel_rfl
theorem log_words_w (l : List Int) (m : Nat) (K : V → List Blk → Prop) : goD Γ_log_words tab fn_log_words 0 K (m + 1) [.code (bodyOf fn_log_words)] (initSt [.one (.dat (Ty.list Ty.int) l)] []) = segD Γ_log_words tab fn_log_words 0 K (goD Γ_log_words tab fn_log_words 0 K m) [.code (bodyOf fn_log_words)] (initSt [.one (.dat (Ty.list Ty.int) l)] []) := rfl

set_option maxHeartbeats 4000000 in
theorem run_log_words (l : List Int) (hp : len l ≤ 255) (K : V → List Blk → Prop) (hK : K (.one (.dat (.list .int) (recW l))) []) : ∃ m, goD Γ_log_words tab fn_log_words 0 K m [.code (bodyOf fn_log_words)] (initSt [.one (.dat (.list .int) l)] []) := by
  refine ⟨1, ?_⟩
  rw [log_words_w, log_words_vc _ _ _]
  exact ⟨⟨by omega, by omega⟩, by simp only [len, List.length_cons, List.length_nil] at hp ⊢; omega, hK⟩
theorem sound_log_words : SoundC Tryd.prog tab n_log_words c_log_words := soundC_of ok_log_words hf_log_words hB_log_words (by
  intro vs bs p v bs' h hp
  unfold c_log_words at h
  split at h
  · cases h
    exact ⟨by kernel_rfl, rfl, .inl (run_log_words _ hp.1 _ ⟨rfl, rfl⟩)⟩
  · cases h)

def c_log_Append : Contract := fun vs bs => match vs, bs with
  | [.agg [.dat (.list .int) ws, .dat .int fu], .one (.dat (.list .int) r), .one (.dat (.list (.list .int)) keep)], [] => some (some (Sm r ∧ len keep * 24 ≤ 140737488351232 ∧ smR keep = true), .tup [.agg [.dat (.list .int) (appendF ⟨ws, fu⟩ r keep).1.words, .dat .int (appendF ⟨ws, fu⟩ r keep).1.fuel], .one (.dat .int (appendF ⟨ws, fu⟩ r keep).2)], [])
  | _, _ => none
def Γ_log_Append : Ctx := [(n_log_Check, c_log_Check), (n_log_check, c_log_check), (n_slices_Clone_LRecord, c_slices_Clone_LRecord), (n_log_words, c_log_words), (n_log_live, c_log_live), (n_flash_Copy, c_flash_Copy), (n_log_scan, (weakC c_log_scan)), (n_flash_Burn, (orC c_flash_Burn c_flash_Burn_b)), (n_flash_Wipe, c_flash_Wipe)]
theorem ok_log_Append : Ok Tryd.prog tab Γ_log_Append := (((((((((ok_nil.consC hf_flash_Wipe hB_flash_Wipe sound_flash_Wipe).consC hf_flash_Burn hB_flash_Burn (soundC_or sound_flash_Burn sound_flash_Burn_b)).consC hf_log_scan hB_log_scan (soundC_weak sound_log_scan)).consC hf_flash_Copy hB_flash_Copy sound_flash_Copy).consC hf_log_live hB_log_live sound_log_live).consC hf_log_words hB_log_words sound_log_words).consC hf_slices_Clone_LRecord hB_slices_Clone_LRecord sound_slices_Clone_LRecord).consC hf_log_check hB_log_check sound_log_check).consC hf_log_Check hB_log_Check sound_log_Check)
noncomputable def log_Append_L0 : List It := [.inLoop [40, 39, 38, 10, 7, 6, 3, 1] (Code.sub (bodyOf fn_log_Append) [1, 1, 1, 1, 0, 1, 0, 0]), .inBlock 0, .code (Code.sub (bodyOf fn_log_Append) [1, 1, 1, 1, 1])]
def log_Append_S0 (x0 : Int) (x1 : Int) (x2 : Int) (x3 : (List Int)) (x4 : (List (List Int))) (x5 : (List Int)) (x6 : Int) (x7 : (List Int)) (x8 : Int) (x9 : (List Int)) : St := ⟨[(40, .one (.dat Ty.int x0)), (39, .one (.dat Ty.int x1)), (38, .one (.own 0)), (10, .one (.own 1)), (7, .one (.dat Ty.int x2)), (6, .one (.ptr 2 0)), (3, .one (.ptr 3 0)), (1, .one (.dat (Ty.list Ty.int) x3))], [(0, .arr (Ty.list Ty.int) x4), (1, .arr Ty.int x5), (2, .box [.own 4, .dat Ty.int x6]), (3, .box [.dat (Ty.list Ty.int) x7, .dat Ty.int x8]), (4, .arr Ty.int x9)], 5⟩
theorem log_Append_vc (ws : List Int) (fu : Int) (r : List Int) (keep : List (List Int)) (rec : List It → St → Prop) (K : V → List Blk → Prop) v0 (hv0 : v0 = (checkLog (⟨ws, fu⟩ : Flash))) v1 (hv1 : v1 = (checkRec r)) : segD Γ_log_Append tab fn_log_Append 0 K rec [.code (bodyOf fn_log_Append)] (initSt [.agg [.dat (Ty.list Ty.int) ws, .dat Ty.int fu], .one (.dat (Ty.list Ty.int) r), .one (.dat (Ty.list (Ty.list Ty.int)) keep)] []) = (
    br (!(eqi v0 (0 : Int)))
     (K (.tup [.agg [.dat (Ty.list Ty.int) [], .dat Ty.int (0 : Int)], .one (.dat Ty.int v0)]) [])
     (((List.length r) ≤ 140737488355328) ∧
      (br (!(eqi v1 (0 : Int)))
       (K (.tup [.agg [.dat (Ty.list Ty.int) [], .dat Ty.int (0 : Int)], .one (.dat Ty.int v1)]) [])
       ((((len keep) * 24) ≤ 140737488355328) ∧
        (((((len keep) + (len (r :: []))) * 24) ≤ 140737488355328) ∧
        (rec log_Append_L0 (log_Append_S0 (0 : Int) (((len (cat keep (r :: []))) : Nat) : Int) (0 : Int) r (cat keep (r :: [])) [] (0 : Int) ws fu []))))))) := by subst hv1; subst hv0; kernel_rfl
theorem log_Append_w (ws : List Int) (fu : Int) (r : List Int) (keep : List (List Int)) (m : Nat) (K : V → List Blk → Prop) : goD Γ_log_Append tab fn_log_Append 0 K (m + 1) [.code (bodyOf fn_log_Append)] (initSt [.agg [.dat (Ty.list Ty.int) ws, .dat Ty.int fu], .one (.dat (Ty.list Ty.int) r), .one (.dat (Ty.list (Ty.list Ty.int)) keep)] []) = segD Γ_log_Append tab fn_log_Append 0 K (goD Γ_log_Append tab fn_log_Append 0 K m) [.code (bodyOf fn_log_Append)] (initSt [.agg [.dat (Ty.list Ty.int) ws, .dat Ty.int fu], .one (.dat (Ty.list Ty.int) r), .one (.dat (Ty.list (Ty.list Ty.int)) keep)] []) := rfl
theorem log_Append_vc0 (x0 : Int) (x1 : Int) (x2 : Int) (x3 : (List Int)) (x4 : (List (List Int))) (x5 : (List Int)) (x6 : Int) (x7 : (List Int)) (x8 : Int) (x9 : (List Int)) (rec : List It → St → Prop) (K : V → List Blk → Prop) v0 (hv0 : v0 = (checkRec (nth x4 (Int.toNat x0) (Ty.dflt (Ty.list Ty.int))))) v1 (hv1 : v1 = (recW (nth x4 (Int.toNat x0) (Ty.dflt (Ty.list Ty.int))))) v2 (hv2 : v2 = (okWords x7)) v3 (hv3 : v3 = (liveS x7)) v4 (hv4 : v4 = (scanS x7 (Int.toNat ((v3 : Nat) : Int)))) v5 (hv5 : v5 = (nextI (Int.toNat ((v3 : Nat) : Int)) (v4).snd)) v6 (hv6 : v6 = (recW x3)) v7 (hv7 : v7 = (burnCh (w64 (v5 + (1 : Int))) x3)) v8 (hv8 : v8 = (doCh (⟨x7, x8⟩ : Flash) v7)) v9 (hv9 : v9 = (burnCh v5 ((nth v6 (Int.toNat (0 : Int)) (Ty.dflt Ty.int)) :: []))) v10 (hv10 : v10 = (doCh (⟨((v8).fst).words, ((v8).fst).fuel⟩ : Flash) v9)) v11 (hv11 : v11 = (liveG x7)) v12 (hv12 : v12 = (wipeCh (w64 ((1 : Int) - ((v3 : Nat) : Int))))) v13 (hv13 : v13 = (doCh (⟨x7, x8⟩ : Flash) v12)) v14 (hv14 : v14 = (burnCh (w64 ((w64 ((w64 ((1 : Int) - ((v3 : Nat) : Int))) * (32 : Int))) + (1 : Int))) x5)) v15 (hv15 : v15 = (doCh (⟨((v13).fst).words, ((v13).fst).fuel⟩ : Flash) v14)) v16 (hv16 : v16 = (burnCh (w64 ((w64 ((1 : Int) - ((v3 : Nat) : Int))) * (32 : Int))) ((w64 (v11 + (1 : Int))) :: []))) v17 (hv17 : v17 = (doCh (⟨((v15).fst).words, ((v15).fst).fuel⟩ : Flash) v16)) : segD Γ_log_Append tab fn_log_Append 0 K rec (.code (Code.sub (bodyOf fn_log_Append) [1, 1, 1, 1, 0, 1, 0, 0]) :: log_Append_L0) (log_Append_S0 x0 x1 x2 x3 x4 x5 x6 x7 x8 x9) = (
    br (lti x0 x1)
     ((((0 : Int) ≤ x0) ∧ (x0 < (((len x4) : Nat) : Int))) ∧
      (((Int.toNat x0) < (len x4)) ∧
      (((List.length (nth x4 (Int.toNat x0) (Ty.dflt (Ty.list Ty.int)))) ≤ 140737488355328) ∧
      (br (!(eqi v0 (0 : Int)))
       (K (.tup [.agg [.dat (Ty.list Ty.int) [], .dat Ty.int (0 : Int)], .one (.dat Ty.int v0)]) [])
       (((len (nth x4 (Int.toNat x0) (Ty.dflt (Ty.list Ty.int)))) ≤ 255) ∧
        (((((len x5) + (len v1)) * 8) ≤ 140737488355328) ∧
        (br (lti (31 : Int) (((len (cat x5 v1)) : Nat) : Int))
         (K (.tup [.agg [.dat (Ty.list Ty.int) [], .dat Ty.int (0 : Int)], .one (.dat Ty.int (8 : Int))]) [])
         (rec log_Append_L0 (log_Append_S0 (w64 (x0 + (1 : Int))) x1 x2 x3 x4 (cat x5 v1) x6 x7 x8 x9)))))))))
     (((64 ≤ (len x7)) ∧ (v2 = true)) ∧
      ((((len x7) * 8) ≤ 140737488355328) ∧
      (((len x3) ≤ 255) ∧
      ((((0 : Int) ≤ ((v3 : Nat) : Int)) ∧ ((((v3 : Nat) : Int) ≤ (1 : Int)) ∧ ((64 ≤ (len x7)) ∧ (((len x7) ≤ 192) ∧ (v2 = true))))) ∧
      (br (lei (0 : Int) v5)
       (br (lei (w64 (v5 + (((len v6) : Nat) : Int))) (w64 ((w64 (((v3 : Nat) : Int) + (1 : Int))) * (32 : Int))))
         ((((-(1 : Int)) ≤ x8) ∧ ((x8 ≤ (100000 : Int)) ∧ (((0 : Int) ≤ (w64 (v5 + (1 : Int)))) ∧ ((((w64 (v5 + (1 : Int))) + (((len x3) : Nat) : Int)) ≤ (((len x7) : Nat) : Int)) ∧ ((len x7) ≤ 192))))) ∧
          (br (!(v8).snd)
           (K (.tup [.agg [.dat (Ty.list Ty.int) ((v8).fst).words, .dat Ty.int ((v8).fst).fuel], .one (.dat Ty.int (7 : Int))]) [])
           ((((0 : Int) ≤ (0 : Int)) ∧ ((0 : Int) < (((len v6) : Nat) : Int))) ∧
            ((((-(1 : Int)) ≤ ((v8).fst).fuel) ∧ ((((v8).fst).fuel ≤ (100000 : Int)) ∧ (((0 : Int) ≤ v5) ∧ (((v5 + (((len ((nth v6 (Int.toNat (0 : Int)) (Ty.dflt Ty.int)) :: [])) : Nat) : Int)) ≤ (((len ((v8).fst).words) : Nat) : Int)) ∧ ((len ((v8).fst).words) ≤ 192))))) ∧
            (br (!(v10).snd)
             (K (.tup [.agg [.dat (Ty.list Ty.int) ((v10).fst).words, .dat Ty.int ((v10).fst).fuel], .one (.dat Ty.int (7 : Int))]) [])
             (K (.tup [.agg [.dat (Ty.list Ty.int) ((v10).fst).words, .dat Ty.int ((v10).fst).fuel], .one (.dat Ty.int (0 : Int))]) []))))))
         (br (eqi v11 (60000 : Int))
           (K (.tup [.agg [.dat (Ty.list Ty.int) [], .dat Ty.int (0 : Int)], .one (.dat Ty.int (8 : Int))]) [])
           ((((-(1 : Int)) ≤ x8) ∧ ((x8 ≤ (100000 : Int)) ∧ (((0 : Int) ≤ (w64 ((1 : Int) - ((v3 : Nat) : Int)))) ∧ (((((w64 ((1 : Int) - ((v3 : Nat) : Int))) + (1 : Int)) * (32 : Int)) ≤ (((len x7) : Nat) : Int)) ∧ ((len x7) ≤ 192))))) ∧
            (br (!(v13).snd)
             (K (.tup [.agg [.dat (Ty.list Ty.int) ((v13).fst).words, .dat Ty.int ((v13).fst).fuel], .one (.dat Ty.int (7 : Int))]) [])
             ((((-(1 : Int)) ≤ ((v13).fst).fuel) ∧ ((((v13).fst).fuel ≤ (100000 : Int)) ∧ (((0 : Int) ≤ (w64 ((w64 ((w64 ((1 : Int) - ((v3 : Nat) : Int))) * (32 : Int))) + (1 : Int)))) ∧ ((((w64 ((w64 ((w64 ((1 : Int) - ((v3 : Nat) : Int))) * (32 : Int))) + (1 : Int))) + (((len x5) : Nat) : Int)) ≤ (((len ((v13).fst).words) : Nat) : Int)) ∧ ((len ((v13).fst).words) ≤ 192))))) ∧
              (br (!(v15).snd)
               (K (.tup [.agg [.dat (Ty.list Ty.int) ((v15).fst).words, .dat Ty.int ((v15).fst).fuel], .one (.dat Ty.int (7 : Int))]) [])
               ((((-(1 : Int)) ≤ ((v15).fst).fuel) ∧ ((((v15).fst).fuel ≤ (100000 : Int)) ∧ (((0 : Int) ≤ (w64 ((w64 ((1 : Int) - ((v3 : Nat) : Int))) * (32 : Int)))) ∧ ((((w64 ((w64 ((1 : Int) - ((v3 : Nat) : Int))) * (32 : Int))) + (((len ((w64 (v11 + (1 : Int))) :: [])) : Nat) : Int)) ≤ (((len ((v15).fst).words) : Nat) : Int)) ∧ ((len ((v15).fst).words) ≤ 192))))) ∧
                (br (!(v17).snd)
                 (K (.tup [.agg [.dat (Ty.list Ty.int) ((v17).fst).words, .dat Ty.int ((v17).fst).fuel], .one (.dat Ty.int (7 : Int))]) [])
                 (K (.tup [.agg [.dat (Ty.list Ty.int) ((v17).fst).words, .dat Ty.int ((v17).fst).fuel], .one (.dat Ty.int (0 : Int))]) [])))))))))
       (br (eqi v11 (60000 : Int))
         (K (.tup [.agg [.dat (Ty.list Ty.int) [], .dat Ty.int (0 : Int)], .one (.dat Ty.int (8 : Int))]) [])
         ((((-(1 : Int)) ≤ x8) ∧ ((x8 ≤ (100000 : Int)) ∧ (((0 : Int) ≤ (w64 ((1 : Int) - ((v3 : Nat) : Int)))) ∧ (((((w64 ((1 : Int) - ((v3 : Nat) : Int))) + (1 : Int)) * (32 : Int)) ≤ (((len x7) : Nat) : Int)) ∧ ((len x7) ≤ 192))))) ∧
          (br (!(v13).snd)
           (K (.tup [.agg [.dat (Ty.list Ty.int) ((v13).fst).words, .dat Ty.int ((v13).fst).fuel], .one (.dat Ty.int (7 : Int))]) [])
           ((((-(1 : Int)) ≤ ((v13).fst).fuel) ∧ ((((v13).fst).fuel ≤ (100000 : Int)) ∧ (((0 : Int) ≤ (w64 ((w64 ((w64 ((1 : Int) - ((v3 : Nat) : Int))) * (32 : Int))) + (1 : Int)))) ∧ ((((w64 ((w64 ((w64 ((1 : Int) - ((v3 : Nat) : Int))) * (32 : Int))) + (1 : Int))) + (((len x5) : Nat) : Int)) ≤ (((len ((v13).fst).words) : Nat) : Int)) ∧ ((len ((v13).fst).words) ≤ 192))))) ∧
            (br (!(v15).snd)
             (K (.tup [.agg [.dat (Ty.list Ty.int) ((v15).fst).words, .dat Ty.int ((v15).fst).fuel], .one (.dat Ty.int (7 : Int))]) [])
             ((((-(1 : Int)) ≤ ((v15).fst).fuel) ∧ ((((v15).fst).fuel ≤ (100000 : Int)) ∧ (((0 : Int) ≤ (w64 ((w64 ((1 : Int) - ((v3 : Nat) : Int))) * (32 : Int)))) ∧ ((((w64 ((w64 ((1 : Int) - ((v3 : Nat) : Int))) * (32 : Int))) + (((len ((w64 (v11 + (1 : Int))) :: [])) : Nat) : Int)) ≤ (((len ((v15).fst).words) : Nat) : Int)) ∧ ((len ((v15).fst).words) ≤ 192))))) ∧
              (br (!(v17).snd)
               (K (.tup [.agg [.dat (Ty.list Ty.int) ((v17).fst).words, .dat Ty.int ((v17).fst).fuel], .one (.dat Ty.int (7 : Int))]) [])
               (K (.tup [.agg [.dat (Ty.list Ty.int) ((v17).fst).words, .dat Ty.int ((v17).fst).fuel], .one (.dat Ty.int (0 : Int))]) [])))))))))))))) := by subst hv17; subst hv16; subst hv15; subst hv14; subst hv13; subst hv12; subst hv11; subst hv10; subst hv9; subst hv8; subst hv7; subst hv6; subst hv5; subst hv4; subst hv3; subst hv2; subst hv1; subst hv0; kernel_rfl
theorem log_Append_w0 (x0 : Int) (x1 : Int) (x2 : Int) (x3 : (List Int)) (x4 : (List (List Int))) (x5 : (List Int)) (x6 : Int) (x7 : (List Int)) (x8 : Int) (x9 : (List Int)) (m : Nat) (K : V → List Blk → Prop) : goD Γ_log_Append tab fn_log_Append 0 K (m + 1) log_Append_L0 (log_Append_S0 x0 x1 x2 x3 x4 x5 x6 x7 x8 x9) = segD Γ_log_Append tab fn_log_Append 0 K (goD Γ_log_Append tab fn_log_Append 0 K m) (.code (Code.sub (bodyOf fn_log_Append) [1, 1, 1, 1, 0, 1, 0, 0]) :: log_Append_L0) (log_Append_S0 x0 x1 x2 x3 x4 x5 x6 x7 x8 x9) := rfl

theorem loop_log_Append (ws r : List Int) (fu : Int) (rs : List (List Int)) (hl : rs.length ≤ 5864062014806) (hs : smR rs = true) (K : V → List Blk → Prop)
    (hbad : ∀ e, e ≠ 0 → gather 0 rs = e → K (.tup [.agg [.dat (.list .int) [], .dat .int 0], .one (.dat .int e)]) [])
    (hend : ∀ M, gather 0 rs = 0 → (allW rs).length ≤ 31 → goD Γ_log_Append tab fn_log_Append 0 K (M + 1) log_Append_L0 (log_Append_S0 (rs.length : Int) (((len rs) : Nat) : Int) 0 r rs (allW rs) 0 ws fu [])) :
    ∀ (d k : Nat), rs.length ≤ k + d → k ≤ rs.length → (allW (rs.take k)).length ≤ 31 → gather 0 rs = gather (allW (rs.take k)).length (rs.drop k) →
    goD Γ_log_Append tab fn_log_Append 0 K (d + 1) log_Append_L0 (log_Append_S0 (k : Int) (((len rs) : Nat) : Int) 0 r rs (allW (rs.take k)) 0 ws fu [])
  | 0, k, hk, hk2, ha, hg => by
    have : k = rs.length := by omega
    subst this
    rw [List.take_length] at ha hg ⊢
    rw [List.drop_length] at hg
    exact hend 0 hg ha
  | d + 1, k, hk, hk2, ha, hg => by
    by_cases c : k = rs.length
    · subst c
      rw [List.take_length] at ha hg ⊢
      rw [List.drop_length] at hg
      exact hend (d + 1) hg ha
    have ht := take_step (l := rs) (k := k) (by omega) (Ty.dflt (.list .int))
    rw [drop_step (by omega) (Ty.dflt (.list .int))] at hg
    have hm : nth rs k (Ty.dflt (.list .int)) ∈ rs := by
      have : k < rs.length := by omega
      simp [nth, List.getD_eq_getElem?_getD, this]
    have hsm := List.all_eq_true.1 hs _ hm
    simp only [decide_eq_true_eq] at hsm
    rw [log_Append_w0, log_Append_vc0 _ _ _ _ _ _ _ _ _ _ _ _ _ rfl _ rfl _ rfl _ rfl _ rfl _ rfl _ rfl _ rfl _ rfl _ rfl _ rfl _ rfl _ rfl _ rfl _ rfl _ rfl _ rfl _ rfl, toNat_nat]
    obtain ⟨x, hx⟩ : ∃ x, nth rs k (Ty.dflt (.list .int)) = x := ⟨_, rfl⟩
    rw [hx] at ht hg hsm ⊢
    simp only [gather] at hg
    refine lt_t (by simp only [len]; omega) ⟨⟨by omega, by simp only [len]; omega⟩, by simp only [len]; omega, hsm, ne_s (fun h1 => ?_) (fun h1 => ?_)⟩
    · rw [if_neg h1] at hg
      exact hbad _ h1 hg
    · rw [if_pos h1] at hg
      obtain ⟨r1, r2, r3⟩ := checkRec_ok h1
      refine ⟨by simp only [len]; omega, by simp only [len, recW_len]; omega, lt_s (fun h2 => ?_) (fun h2 => ?_)⟩
      · simp only [len, cat, List.length_append, recW_len] at h2
        rw [if_neg (by omega)] at hg
        exact hbad 8 (by decide) hg
      · simp only [len, cat, List.length_append, recW_len] at h2
        rw [if_pos (by omega)] at hg
        rw [w64_succ (by omega)]
        have e : cat (allW (rs.take k)) (recW x) = allW (rs.take (k + 1)) := by rw [ht, allW_snoc]; rfl
        have el : (allW (rs.take (k + 1))).length = (allW (rs.take k)).length + 1 + x.length := by rw [ht, allW_snoc, List.length_append, recW_len]; omega
        rw [e]
        exact loop_log_Append ws r fu rs hl hs K hbad hend d (k + 1) (by omega) (by omega) (by rw [el]; omega) (by rw [hg, el])
theorem there_log_Append (ws al : List Int) (fu g : Int) (s : Nat) (hs : s ≤ 1) (h64 : 64 ≤ ws.length) (h192 : ws.length ≤ 192) (f1 : -1 ≤ fu) (f2 : fu ≤ 100000) (hg0 : 0 ≤ g) (hg1 : g ≤ 65535) (hal : al.length ≤ 31) (P : Flash × Int → Prop)
    (hP : P (power (doCh ⟨ws, fu⟩ (wipeCh ((1 - s : Nat) : Int) ++ burnCh (32 * ((1 - s : Nat) : Int) + 1) al ++ burnCh (32 * ((1 - s : Nat) : Int)) [g + 1])))) :
    let o := w64 (1 - (s : Int))
    let a := doCh ⟨ws, fu⟩ (wipeCh o)
    let b := doCh ⟨a.1.words, a.1.fuel⟩ (burnCh (w64 (w64 (o * 32) + 1)) al)
    let c := doCh ⟨b.1.words, b.1.fuel⟩ (burnCh (w64 (o * 32)) [w64 (g + 1)])
    (0 ≤ o ∧ (o + 1) * 32 ≤ (ws.length : Int)) ∧
    (a.2 = false → P (a.1, 7)) ∧ ((-1 ≤ a.1.fuel ∧ a.1.fuel ≤ 100000 ∧ 0 ≤ w64 (w64 (o * 32) + 1) ∧ w64 (w64 (o * 32) + 1) + (al.length : Int) ≤ (a.1.words.length : Int) ∧ a.1.words.length ≤ 192) ∧
    (a.2 = true → b.2 = false → P (b.1, 7)) ∧ ((-1 ≤ b.1.fuel ∧ b.1.fuel ≤ 100000 ∧ 0 ≤ w64 (o * 32) ∧ w64 (o * 32) + 1 ≤ (b.1.words.length : Int) ∧ b.1.words.length ≤ 192) ∧
    (a.2 = true → b.2 = true → P (c.1, powerE c.2)))) := by
  intro o a b c
  have eo : o = ((1 - s : Nat) : Int) := by show w64 (1 - (s : Int)) = _; rw [w64_id (by omega) (by omega)]; omega
  have e1 : w64 (o * 32) = 32 * ((1 - s : Nat) : Int) := by rw [eo, w64_id (by omega) (by omega)]; omega
  have e2 : w64 (w64 (o * 32) + 1) = 32 * ((1 - s : Nat) : Int) + 1 := by rw [e1, w64_id (by omega) (by omega)]
  have e3 : w64 (g + 1) = g + 1 := w64_id (by omega) (by omega)
  have fa := doCh_fuel ⟨ws, fu⟩ (wipeCh o) f1 f2
  have la : a.1.words.length = ws.length := doCh_len ⟨ws, fu⟩ (wipeCh o)
  have fb := doCh_fuel a.1 (burnCh (w64 (w64 (o * 32) + 1)) al) fa.1 fa.2
  have lb : b.1.words.length = a.1.words.length := doCh_len a.1 (burnCh (w64 (w64 (o * 32) + 1)) al)
  rw [doCh_append, doCh_append] at hP
  have ea : doCh ⟨ws, fu⟩ (wipeCh ((1 - s : Nat) : Int)) = a := by rw [← eo]
  have eb : doCh a.1 (burnCh (32 * ((1 - s : Nat) : Int) + 1) al) = b := by rw [← e2]
  have ec : doCh b.1 (burnCh (32 * ((1 - s : Nat) : Int)) [g + 1]) = c := by rw [← e1, ← e3]
  rw [ea, eb] at hP
  refine ⟨by omega, fun h => ?_, ⟨fa.1, fa.2, by omega, by omega, by omega⟩, fun h h' => ?_, ⟨fb.1, fb.2, by omega, by omega, by omega⟩, fun h h' => ?_⟩
  · rw [if_neg (by simp [h]), if_neg (by simp [h])] at hP
    simpa [power, h, powerE] using hP
  · rw [if_pos h, if_neg (by simp [h'])] at hP
    simpa [power, h', powerE] using hP
  · rw [if_pos h, if_pos h', ec] at hP
    exact hP
set_option maxHeartbeats 4000000 in
theorem run_log_Append (ws : List Int) (fu : Int) (r : List Int) (keep : List (List Int)) (hp : Sm r ∧ len keep * 24 ≤ 140737488351232 ∧ smR keep = true) (K : V → List Blk → Prop) (hK : K (.tup [.agg [.dat (.list .int) (appendF ⟨ws, fu⟩ r keep).1.words, .dat .int (appendF ⟨ws, fu⟩ r keep).1.fuel], .one (.dat .int (appendF ⟨ws, fu⟩ r keep).2)]) []) : ∃ m, goD Γ_log_Append tab fn_log_Append 0 K m [.code (bodyOf fn_log_Append)] (initSt [.agg [.dat (.list .int) ws, .dat .int fu], .one (.dat (.list .int) r), .one (.dat (.list (.list .int)) keep)] []) := by
  obtain ⟨hr, hk, hsm⟩ := hp
  refine ⟨(keep ++ [r]).length + 1 + 1, ?_⟩
  rw [log_Append_w, log_Append_vc _ _ _ _ _ _ _ rfl _ rfl]
  unfold appendF appendE at hK
  simp only [len] at hk
  refine ne_s (fun h => ?_) (fun h => ?_)
  · rw [if_neg h, if_neg h] at hK; exact hK
  rw [if_pos h] at hK
  refine ⟨hr, ne_s (fun h2 => ?_) (fun h2 => ?_)⟩
  · rw [if_neg h2, if_neg h2] at hK; exact hK
  rw [if_pos h2] at hK
  obtain ⟨k1, k2, k3, k4⟩ := checkLog_ok h
  obtain ⟨c1, c2, c3, c4⟩ := checkFlash_ok k1
  obtain ⟨c5, c6⟩ := okLen_le c1
  simp only at k2 k3 k4 c2 c3 c4 c5 c6
  obtain ⟨r1, r2, r3⟩ := checkRec_ok h2
  have hlen : (keep ++ [r]).length = keep.length + 1 := by simp
  obtain ⟨rs, hrs⟩ : ∃ rs, keep ++ [r] = rs := ⟨_, rfl⟩
  have hsr : smR rs = true := by
    rw [← hrs]; unfold smR at hsm ⊢; rw [List.all_append, hsm]
    simp only [List.all_cons, List.all_nil, Bool.and_true, Bool.true_and, decide_eq_true_eq]; omega
  rw [hrs] at hlen ⊢
  refine ⟨by simp only [len]; omega, by simp only [len, List.length_cons, List.length_nil]; omega, ?_⟩
  rw [show cat keep [r] = rs from hrs]
  rw [hrs] at hK
  have e0 : allW (rs.take 0) = [] := by simp [allW]
  have l0 : (allW (rs.take 0)).length = 0 := by rw [e0]; rfl
  refine loop_log_Append ws r fu rs (by omega) hsr K (fun e he hg => ?_) (fun M hg hal => ?_) rs.length 0 (by omega) (by omega) (by omega) (by rw [l0, List.drop_zero])
  · rw [hg, if_neg he] at hK; exact hK
  rw [hg, if_pos rfl] at hK
  rw [log_Append_w0, log_Append_vc0 _ _ _ _ _ _ _ _ _ _ _ _ _ rfl _ rfl _ rfl _ rfl _ rfl _ rfl _ rfl _ rfl _ rfl _ rfl _ rfl _ rfl _ rfl _ rfl _ rfl _ rfl _ rfl _ rfl, toNat_nat]
  unfold appendCh at hK
  have hls := liveS_le ws
  have hgr := genOf_range c4 (liveS ws)
  have hg1 : liveG ws = genOf ws (liveS ws) := rfl
  have es : ∀ s : Nat, Int.toNat (s : Int) = s := fun _ => rfl
  simp only [hrs] at hK
  obtain ⟨s, hs⟩ : ∃ s, liveS ws = s := ⟨_, rfl⟩
  rw [hs] at hK hls ⊢
  obtain ⟨g, hgg⟩ : ∃ g, liveG ws = g := ⟨_, rfl⟩
  rw [hgg] at hK hg1 k3 k4 ⊢
  rw [w64_id (n := (s : Int) + 1) (by omega) (by omega), w64_id (n := ((s : Int) + 1) * 32) (by omega) (by omega)]
  have e6 : (((len (recW r)) : Nat) : Int) = (r.length : Int) + 1 := by simp only [len, recW_len]; omega
  have e7 : nth (recW r) (Int.toNat (0 : Int)) (Ty.dflt Ty.int) = 42240 + (r.length : Int) := rfl
  rw [e6, e7, es s]
  simp only [len]
  have hthere := fun (hP : K (.tup [.agg [.dat (.list .int) (power (doCh ⟨ws, fu⟩ (thereCh (1 - s) rs (g + 1)))).1.words, .dat .int (power (doCh ⟨ws, fu⟩ (thereCh (1 - s) rs (g + 1)))).1.fuel], .one (.dat .int (power (doCh ⟨ws, fu⟩ (thereCh (1 - s) rs (g + 1)))).2)]) []) =>
    there_log_Append ws (allW rs) fu g s hls k2 c6 c2 c3 (by omega) (by omega) hal (fun x => K (.tup [.agg [.dat (.list .int) x.1.words, .dat .int x.1.fuel], .one (.dat .int x.2)]) []) hP
  refine lt_f (by omega) ⟨⟨k2, c4⟩, by omega, by omega, ⟨by omega, by omega, k2, c6, c4⟩, ?_⟩
  cases hsc : (scanS ws s).2 with
  | none =>
    rw [hsc] at hK
    simp only [room, Bool.false_eq_true, if_false] at hK
    simp only [nextI]
    refine br_f (lei_false.2 (by omega)) (eq_s (fun h5 => ?_) (fun h5 => ?_))
    · rw [if_pos h5] at hK; exact hK
    · rw [if_neg h5] at hK
      obtain ⟨t1, t2, t3, t4, t5, t6⟩ := hthere hK
      refine ⟨⟨c2, c3, t1.1, t1.2, c6⟩, nt_s t2 (fun q1 => ⟨t3, nt_s (t4 q1) (fun q2 => ⟨t5, nt_s (fun q3 => ?_) (fun q3 => ?_)⟩)⟩)⟩
      · have := t6 q1 q2; rw [q3] at this; exact this
      · have := t6 q1 q2; rw [q3] at this; exact this
  | some a =>
    have ha := scanS_le (by omega) hsc
    rw [hsc] at hK
    simp only [nextI]
    rw [w64_id (n := 32 * (s : Int) + 1 + a + ((r.length : Int) + 1)) (by omega) (by omega), w64_id (n := 32 * (s : Int) + 1 + a + 1) (by omega) (by omega)]
    refine br_t (lei_true.2 (by omega)) (br_split (fun h5 => ?_) (fun h5 => ?_))
    · rw [lei_true] at h5
      rw [if_pos (show room r.length (some a) = true from by simp only [room, decide_eq_true_eq]; omega)] at hK
      simp only [Option.getD_some, hereCh] at hK
      rw [show ((32 * s + 1 + a : Nat) : Int) = 32 * (s : Int) + 1 + a by omega, doCh_append] at hK
      obtain ⟨f1, f2⟩ := doCh_fuel ⟨ws, fu⟩ (burnCh (32 * (s : Int) + 1 + a + 1) r) c2 c3
      have l1 := doCh_len ⟨ws, fu⟩ (burnCh (32 * (s : Int) + 1 + a + 1) r)
      simp only at l1
      refine ⟨⟨c2, c3, by omega, by omega, c6⟩, nt_s (fun q1 => ?_) (fun q1 => ⟨⟨by omega, by omega⟩, ⟨f1, f2, by omega, by simp only [List.length_cons, List.length_nil]; omega, by omega⟩, nt_s (fun q2 => ?_) (fun q2 => ?_)⟩)⟩
      · rw [if_neg (by simp [q1])] at hK
        simpa only [power, q1, powerE] using hK
      · rw [if_pos q1] at hK
        simp only [power] at hK
        rw [show (doCh (doCh ⟨ws, fu⟩ (burnCh (32 * (s : Int) + 1 + a + 1) r)).1 (burnCh (32 * (s : Int) + 1 + a) [42240 + (r.length : Int)])).2 = false from q2] at hK
        exact hK
      · rw [if_pos q1] at hK
        simp only [power] at hK
        rw [show (doCh (doCh ⟨ws, fu⟩ (burnCh (32 * (s : Int) + 1 + a + 1) r)).1 (burnCh (32 * (s : Int) + 1 + a) [42240 + (r.length : Int)])).2 = true from q2] at hK
        exact hK
    · rw [lei_false] at h5
      rw [if_neg (show ¬ room r.length (some a) = true from by simp only [room, decide_eq_true_eq]; omega)] at hK
      refine eq_s (fun h5 => ?_) (fun h5 => ?_)
      · rw [if_pos h5] at hK; exact hK
      · rw [if_neg h5] at hK
        obtain ⟨t1, t2, t3, t4, t5, t6⟩ := hthere hK
        refine ⟨⟨c2, c3, t1.1, t1.2, c6⟩, nt_s t2 (fun q1 => ⟨t3, nt_s (t4 q1) (fun q2 => ⟨t5, nt_s (fun q3 => ?_) (fun q3 => ?_)⟩)⟩)⟩
        · have := t6 q1 q2; rw [q3] at this; exact this
        · have := t6 q1 q2; rw [q3] at this; exact this
theorem sound_log_Append : SoundC Tryd.prog tab n_log_Append c_log_Append := soundC_of ok_log_Append hf_log_Append hB_log_Append (by
  intro vs bs p v bs' h hp
  unfold c_log_Append at h
  split at h
  · cases h
    exact ⟨by kernel_rfl, rfl, .inl (run_log_Append _ _ _ _ hp.1 _ ⟨rfl, rfl⟩)⟩
  · cases h)

def c_unit_New : Contract := fun vs bs => match vs, bs with
  | [.one (.dat (.list .int) l), .one (.dat .int name)], [] => some (none, .tup [.agg [.dat (.list .int) (newU l name).1.f.words, .dat .int (newU l name).1.f.fuel, .dat .bool (newU l name).1.up, .dat .int (newU l name).1.n, .dat .int (newU l name).1.got], .one (.dat .int (newU l name).2)], [])
  | _, _ => none
def Γ_unit_New : Ctx := [(n_meta_CheckImage, c_meta_CheckImage), (n_flash_New, c_flash_New), (n_log_Format, c_log_Format), (n_slot_Fill, c_slot_Fill), (n_slot_Seal, c_slot_Seal), (n_log_Append, c_log_Append)]
theorem ok_unit_New : Ok Tryd.prog tab Γ_unit_New := ((((((ok_nil.consC hf_log_Append hB_log_Append sound_log_Append).consC hf_slot_Seal hB_slot_Seal sound_slot_Seal).consC hf_slot_Fill hB_slot_Fill sound_slot_Fill).consC hf_log_Format hB_log_Format sound_log_Format).consC hf_flash_New hB_flash_New sound_flash_New).consC hf_meta_CheckImage hB_meta_CheckImage sound_meta_CheckImage)
theorem unit_New_vc (l : List Int) (name : Int) (rec : List It → St → Prop) (K : V → List Blk → Prop) v0 (hv0 : v0 = (checkImage l)) v1 (hv1 : v1 = (applyCh (zeros (Int.toNat ((6 : Int) * (32 : Int))) (65535 : Int)) formatCh)) v2 (hv2 : v2 = (fillS (⟨v1, (-(1 : Int))⟩ : Vm.Flash) (0 : Int) (0 : Int) l)) v3 (hv3 : v3 = (sealS (⟨((v2).fst).words, ((v2).fst).fuel⟩ : Vm.Flash) (0 : Int) (((len l) : Nat) : Int) name)) v4 (hv4 : v4 = (smR [])) v5 (hv5 : v5 = (appendF (⟨((v3).fst).words, ((v3).fst).fuel⟩ : Vm.Flash) ((1 : Int) :: ((0 : Int) :: ((0 : Int) :: []))) [])) : segD Γ_unit_New tab fn_unit_New 0 K rec [.code (bodyOf fn_unit_New)] (initSt [.one (.dat (Ty.list Ty.int) l), .one (.dat Ty.int name)] []) = (
    br (!(eqi v0 (0 : Int)))
     (K (.tup [.agg [.dat (Ty.list Ty.int) [], .dat Ty.int (0 : Int), .dat Ty.bool false, .dat Ty.int (0 : Int), .dat Ty.int (0 : Int)], .one (.dat Ty.int v0)]) [])
     (((List.length l) ≤ 140737488355328) ∧
      (br (!(eqi (v3).snd (0 : Int)))
       (K (.tup [.agg [.dat (Ty.list Ty.int) [], .dat Ty.int (0 : Int), .dat Ty.bool false, .dat Ty.int (0 : Int), .dat Ty.int (0 : Int)], .one (.dat Ty.int (v3).snd)]) [])
       ((((List.length ((1 : Int) :: ((0 : Int) :: ((0 : Int) :: [])))) ≤ 140737488355328) ∧ (((0 * 24) ≤ 140737488351232) ∧ (v4 = true))) ∧
        (K (.tup [.agg [.dat (Ty.list Ty.int) ((v5).fst).words, .dat Ty.int ((v5).fst).fuel, .dat Ty.bool true, .dat Ty.int (0 : Int), .dat Ty.int (0 : Int)], .one (.dat Ty.int (0 : Int))]) []))))) := by subst hv5; subst hv4; subst hv3; subst hv2; subst hv1; subst hv0; kernel_rfl
theorem unit_New_w (l : List Int) (name : Int) (m : Nat) (K : V → List Blk → Prop) : goD Γ_unit_New tab fn_unit_New 0 K (m + 1) [.code (bodyOf fn_unit_New)] (initSt [.one (.dat (Ty.list Ty.int) l), .one (.dat Ty.int name)] []) = segD Γ_unit_New tab fn_unit_New 0 K (goD Γ_unit_New tab fn_unit_New 0 K m) [.code (bodyOf fn_unit_New)] (initSt [.one (.dat (Ty.list Ty.int) l), .one (.dat Ty.int name)] []) := rfl

set_option maxHeartbeats 4000000 in
theorem run_unit_New (l : List Int) (name : Int) (K : V → List Blk → Prop) (hK : K (.tup [.agg [.dat (.list .int) (newU l name).1.f.words, .dat .int (newU l name).1.f.fuel, .dat .bool (newU l name).1.up, .dat .int (newU l name).1.n, .dat .int (newU l name).1.got], .one (.dat .int (newU l name).2)]) []) : ∃ m, goD Γ_unit_New tab fn_unit_New 0 K m [.code (bodyOf fn_unit_New)] (initSt [.one (.dat (.list .int) l), .one (.dat .int name)] []) := by
  obtain ⟨F, hF⟩ : ∃ F, F = applyCh (zeros (Int.toNat ((6 : Int) * (32 : Int))) (65535 : Int)) formatCh := ⟨_, rfl⟩
  refine ⟨1, Eq.mpr (unit_New_vc l name (goD Γ_unit_New tab fn_unit_New 0 K 0) K _ rfl F hF _ rfl _ rfl _ rfl _ rfl) ?_⟩
  have e : (formatF (newFlash 6).1).1 = ⟨F, -1⟩ := by rw [hF]; kernel_rfl
  clear hF
  unfold newU factoryU at hK
  rw [e] at hK
  refine ne_s (fun h => ?_) (fun h => ⟨?_, ne_s (fun h2 => ?_) (fun h2 => ⟨⟨by simp, by omega, rfl⟩, ?_⟩)⟩)
  · rw [if_neg h] at hK; exact hK
  · have := checkImage_ok h; omega
  · rw [if_pos h, if_neg (show ¬ (sealS (fillS ⟨F, -1⟩ 0 0 l).1 0 (l.length : Int) name).2 = 0 from h2)] at hK; exact hK
  · rw [if_pos h, if_pos (show (sealS (fillS ⟨F, -1⟩ 0 0 l).1 0 (l.length : Int) name).2 = 0 from h2)] at hK; exact hK
theorem sound_unit_New : SoundC Tryd.prog tab n_unit_New c_unit_New := soundC_of ok_unit_New hf_unit_New hB_unit_New (by
  intro vs bs p v bs' h hp
  unfold c_unit_New at h
  split at h
  · cases h
    exact ⟨by kernel_rfl, rfl, .inl (run_unit_New _ _ _ ⟨rfl, rfl⟩)⟩
  · cases h)

def c_unit_CheckMessage : Contract := fun vs bs => match vs, bs with
  | [.agg [.dat .int mk, .dat .int mu, .dat .int mn, .dat .int ma, .dat .int mi, .dat (.list .int) mw, .dat .bool my]], [] => some (none, .one (.dat .int (checkM ⟨mk, mu, mn, ma, mi, mw, my⟩)), [])
  | _, _ => none
def Γ_unit_CheckMessage : Ctx := [(n_slices_ContainsFunc_Lint, c_slices_ContainsFunc_Lint), (n_unit_CheckMessage_1, c_unit_CheckMessage_1)]
theorem ok_unit_CheckMessage : Ok Tryd.prog tab Γ_unit_CheckMessage := ((ok_nil.consC hf_unit_CheckMessage_1 hB_unit_CheckMessage_1 sound_unit_CheckMessage_1).consC hf_slices_ContainsFunc_Lint hB_slices_ContainsFunc_Lint sound_slices_ContainsFunc_Lint)
theorem unit_CheckMessage_vc (mk : Int) (mu : Int) (mn : Int) (ma : Int) (mi : Int) (mw : List Int) (my : Bool) (rec : List It → St → Prop) (K : V → List Blk → Prop) v0 (hv0 : v0 = (okWords mw)) : segD Γ_unit_CheckMessage tab fn_unit_CheckMessage 0 K rec [.code (bodyOf fn_unit_CheckMessage)] (initSt [.agg [.dat Ty.int mk, .dat Ty.int mu, .dat Ty.int mn, .dat Ty.int ma, .dat Ty.int mi, .dat (Ty.list Ty.int) mw, .dat Ty.bool my]] []) = (
    br (lti mk (1 : Int))
     (K (.one (.dat Ty.int (3 : Int))) [])
     (br (lti (7 : Int) mk)
       (K (.one (.dat Ty.int (3 : Int))) [])
       (br (lti mu (0 : Int))
         (K (.one (.dat Ty.int (3 : Int))) [])
         (br (lei (4 : Int) mu)
           (K (.one (.dat Ty.int (3 : Int))) [])
           (br (lti mn (1 : Int))
             (K (.one (.dat Ty.int (3 : Int))) [])
             (br (lti (8 : Int) mn)
               (K (.one (.dat Ty.int (3 : Int))) [])
               (br (lti ma (0 : Int))
                 (K (.one (.dat Ty.int (3 : Int))) [])
                 (br (lti (40 : Int) ma)
                   (K (.one (.dat Ty.int (3 : Int))) [])
                   (br (lti mi (0 : Int))
                     (K (.one (.dat Ty.int (3 : Int))) [])
                     (br (lti (60 : Int) mi)
                       (K (.one (.dat Ty.int (3 : Int))) [])
                       (br (lti (8 : Int) (((len mw) : Nat) : Int))
                         (K (.one (.dat Ty.int (3 : Int))) [])
                         (((List.length mw) ≤ 140737488355328) ∧
                          (br (!v0)
                           (K (.one (.dat Ty.int (3 : Int))) [])
                           (K (.one (.dat Ty.int (0 : Int))) [])))))))))))))) := by subst hv0; kernel_rfl
theorem unit_CheckMessage_w (mk : Int) (mu : Int) (mn : Int) (ma : Int) (mi : Int) (mw : List Int) (my : Bool) (m : Nat) (K : V → List Blk → Prop) : goD Γ_unit_CheckMessage tab fn_unit_CheckMessage 0 K (m + 1) [.code (bodyOf fn_unit_CheckMessage)] (initSt [.agg [.dat Ty.int mk, .dat Ty.int mu, .dat Ty.int mn, .dat Ty.int ma, .dat Ty.int mi, .dat (Ty.list Ty.int) mw, .dat Ty.bool my]] []) = segD Γ_unit_CheckMessage tab fn_unit_CheckMessage 0 K (goD Γ_unit_CheckMessage tab fn_unit_CheckMessage 0 K m) [.code (bodyOf fn_unit_CheckMessage)] (initSt [.agg [.dat Ty.int mk, .dat Ty.int mu, .dat Ty.int mn, .dat Ty.int ma, .dat Ty.int mi, .dat (Ty.list Ty.int) mw, .dat Ty.bool my]] []) := rfl

set_option maxHeartbeats 4000000 in
theorem run_unit_CheckMessage (mk mu mn ma mi : Int) (mw : List Int) (my : Bool) (K : V → List Blk → Prop) (hK : K (.one (.dat .int (checkM ⟨mk, mu, mn, ma, mi, mw, my⟩))) []) : ∃ m, goD Γ_unit_CheckMessage tab fn_unit_CheckMessage 0 K m [.code (bodyOf fn_unit_CheckMessage)] (initSt [.agg [.dat .int mk, .dat .int mu, .dat .int mn, .dat .int ma, .dat .int mi, .dat (.list .int) mw, .dat .bool my]] []) := by
  refine ⟨1, ?_⟩
  rw [unit_CheckMessage_w, unit_CheckMessage_vc _ _ _ _ _ _ _ _ _ _ rfl]
  unfold checkM at hK
  simp only at hK
  refine lt_s (fun h1 => ?_) (fun h1 => lt_s (fun h2 => ?_) (fun h2 => lt_s (fun h3 => ?_) (fun h3 => br_split (fun h4 => ?_) (fun h4 => lt_s (fun h5 => ?_) (fun h5 => lt_s (fun h6 => ?_) (fun h6 => lt_s (fun h7 => ?_) (fun h7 => lt_s (fun h8 => ?_) (fun h8 => lt_s (fun h9 => ?_) (fun h9 => lt_s (fun h10 => ?_) (fun h10 => lt_s (fun h11 => ?_) (fun h11 => ⟨?_, nt_s (fun h12 => ?_) (fun h12 => ?_)⟩)))))))))))
  all_goals try rw [lei_true] at h4
  all_goals try rw [lei_false] at h4
  · rw [if_pos (by omega)] at hK; exact hK
  · rw [if_pos (by omega)] at hK; exact hK
  · rw [if_pos (by omega)] at hK; exact hK
  · rw [if_pos (by omega)] at hK; exact hK
  · rw [if_pos (by omega)] at hK; exact hK
  · rw [if_pos (by omega)] at hK; exact hK
  · rw [if_pos (by omega)] at hK; exact hK
  · rw [if_pos (by omega)] at hK; exact hK
  · rw [if_pos (by omega)] at hK; exact hK
  · rw [if_pos (by omega)] at hK; exact hK
  · rw [if_pos (by simp only [len] at h11; omega)] at hK; exact hK
  · simp only [len] at h11; omega
  · rw [if_neg (by simp only [len] at h11; omega)] at hK
    have : okWords mw = false := by simpa using h12
    rw [if_neg (by rw [this]; simp)] at hK; exact hK
  · rw [if_neg (by simp only [len] at h11; omega)] at hK
    have : okWords mw = true := by simpa using h12
    rw [if_pos this] at hK; exact hK
theorem sound_unit_CheckMessage : SoundC Tryd.prog tab n_unit_CheckMessage c_unit_CheckMessage := soundC_of ok_unit_CheckMessage hf_unit_CheckMessage hB_unit_CheckMessage (by
  intro vs bs p v bs' h hp
  unfold c_unit_CheckMessage at h
  split at h
  · cases h
    exact ⟨by kernel_rfl, rfl, .inl (run_unit_CheckMessage _ _ _ _ _ _ _ _ ⟨rfl, rfl⟩)⟩
  · cases h)
end Go.Proofs.YtlbppjmekiemiabDoor
