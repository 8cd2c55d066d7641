/- What the functions of Names compute (part 1 of 1). No condition. -/
import Derived.Test.YtlbppjmekiemiaaTab
import Derived.Test.YtlbppjmekiemiaaSpec
import Derived.KernelRfl
namespace Go.Proofs.Ytlbppjmekiemiaa
open Vm
def c_slices_Equal_Lint : Contract := fun vs bs => match vs, bs with
  | [.one (.dat (.list .int) a), .one (.dat (.list .int) b)], [] => some (some (Sm a), .one (.dat .bool (eqIs a b)), [])
  | _, _ => none
def Γ_slices_Equal_Lint : Ctx := []
theorem ok_slices_Equal_Lint : Ok Try.prog tab Γ_slices_Equal_Lint := ok_nil
noncomputable def slices_Equal_Lint_L0 : List It := [.inLoop [13, 12, 4, 0, 1] (Code.sub (bodyOf fn_slices_Equal_Lint) [1, 1, 0, 1, 0, 0]), .inBlock 0, .code (Code.sub (bodyOf fn_slices_Equal_Lint) [1, 1, 1])]
def slices_Equal_Lint_S0 (x0 : Int) (x1 : Int) (x2 : Bool) (x3 : (List Int)) (x4 : (List Int)) : St := ⟨[(13, .one (.dat Ty.int x0)), (12, .one (.dat Ty.int x1)), (4, .one (.dat Ty.bool x2)), (0, .one (.dat (Ty.list Ty.int) x3)), (1, .one (.dat (Ty.list Ty.int) x4))], [], 0⟩
theorem slices_Equal_Lint_vc (a : List Int) (b : List Int) (rec : List It → St → Prop) (K : V → List Blk → Prop) : segD Γ_slices_Equal_Lint tab fn_slices_Equal_Lint 0 K rec [.code (bodyOf fn_slices_Equal_Lint)] (initSt [.one (.dat (Ty.list Ty.int) a), .one (.dat (Ty.list Ty.int) b)] []) = (
    br (!(eqi (((len a) : Nat) : Int) (((len b) : Nat) : Int)))
     (K (.one (.dat Ty.bool false)) [])
     (rec slices_Equal_Lint_L0 (slices_Equal_Lint_S0 (0 : Int) (((len a) : Nat) : Int) false a b))) := by kernel_rfl
theorem slices_Equal_Lint_w (a : List Int) (b : List Int) (m : Nat) (K : V → List Blk → Prop) : goD Γ_slices_Equal_Lint tab fn_slices_Equal_Lint 0 K (m + 1) [.code (bodyOf fn_slices_Equal_Lint)] (initSt [.one (.dat (Ty.list Ty.int) a), .one (.dat (Ty.list Ty.int) b)] []) = segD Γ_slices_Equal_Lint tab fn_slices_Equal_Lint 0 K (goD Γ_slices_Equal_Lint tab fn_slices_Equal_Lint 0 K m) [.code (bodyOf fn_slices_Equal_Lint)] (initSt [.one (.dat (Ty.list Ty.int) a), .one (.dat (Ty.list Ty.int) b)] []) := rfl
theorem slices_Equal_Lint_vc0 (x0 : Int) (x1 : Int) (x2 : Bool) (x3 : (List Int)) (x4 : (List Int)) (rec : List It → St → Prop) (K : V → List Blk → Prop) : segD Γ_slices_Equal_Lint tab fn_slices_Equal_Lint 0 K rec (.code (Code.sub (bodyOf fn_slices_Equal_Lint) [1, 1, 0, 1, 0, 0]) :: slices_Equal_Lint_L0) (slices_Equal_Lint_S0 x0 x1 x2 x3 x4) = (
    br (lti x0 x1)
     ((((0 : Int) ≤ x0) ∧ (x0 < (((len x3) : Nat) : Int))) ∧
      ((((0 : Int) ≤ x0) ∧ (x0 < (((len x4) : Nat) : Int))) ∧
      (br (!(eqi (nth x3 (Int.toNat x0) (Ty.dflt Ty.int)) (nth x4 (Int.toNat x0) (Ty.dflt Ty.int))))
       (K (.one (.dat Ty.bool false)) [])
       (rec slices_Equal_Lint_L0 (slices_Equal_Lint_S0 (w64 (x0 + (1 : Int))) x1 x2 x3 x4)))))
     (K (.one (.dat Ty.bool true)) [])) := by kernel_rfl
theorem slices_Equal_Lint_w0 (x0 : Int) (x1 : Int) (x2 : Bool) (x3 : (List Int)) (x4 : (List Int)) (m : Nat) (K : V → List Blk → Prop) : goD Γ_slices_Equal_Lint tab fn_slices_Equal_Lint 0 K (m + 1) slices_Equal_Lint_L0 (slices_Equal_Lint_S0 x0 x1 x2 x3 x4) = segD Γ_slices_Equal_Lint tab fn_slices_Equal_Lint 0 K (goD Γ_slices_Equal_Lint tab fn_slices_Equal_Lint 0 K m) (.code (Code.sub (bodyOf fn_slices_Equal_Lint) [1, 1, 0, 1, 0, 0]) :: slices_Equal_Lint_L0) (slices_Equal_Lint_S0 x0 x1 x2 x3 x4) := rfl

theorem loop_slices_Equal_Lint (a b : List Int) (hl : a.length = b.length) (hs : Sm a) (K : V → List Blk → Prop) (hK : K (.one (.dat .bool (eqIs a b))) []) : ∀ (d k : Nat), k + d = a.length → a.take k = b.take k →
    goD Γ_slices_Equal_Lint tab fn_slices_Equal_Lint 0 K (d + 1) slices_Equal_Lint_L0 (slices_Equal_Lint_S0 (k : Int) (((len a) : Nat) : Int) false a b)
  | 0, k, hk, he => by
    rw [slices_Equal_Lint_w0, slices_Equal_Lint_vc0 _ _ _ _ _ _ _]
    refine lt_f (by simp only [len]; omega) ?_
    rw [List.take_of_length_le (by omega), List.take_of_length_le (by omega)] at he
    rw [show eqIs a b = true from by simp [eqIs, he]] at hK
    exact hK
  | d + 1, k, hk, he => by
    unfold Sm at hs
    rw [slices_Equal_Lint_w0, slices_Equal_Lint_vc0 _ _ _ _ _ _ _]
    refine lt_t (by simp only [len]; omega) ⟨⟨by omega, by simp only [len]; omega⟩, ⟨by omega, by simp only [len]; omega⟩, ne_s (fun hne => ?_) (fun heq => ?_)⟩
    · rw [show eqIs a b = false from by simp only [eqIs, decide_eq_false_iff_not]; rintro rfl; exact hne rfl] at hK
      exact hK
    · rw [w64_succ (by omega)]
      refine loop_slices_Equal_Lint a b hl ‹Sm a› K hK d (k + 1) (by omega) ?_
      rw [take_step (by omega) (Ty.dflt Ty.int), take_step (by omega) (Ty.dflt Ty.int), he]
      rw [toNat_nat] at heq
      rw [heq]
theorem run_slices_Equal_Lint (a b : List Int) (hp : Sm a) (K : V → List Blk → Prop) (hK : K (.one (.dat .bool (eqIs a b))) []) : ∃ m, goD Γ_slices_Equal_Lint tab fn_slices_Equal_Lint 0 K m [.code (bodyOf fn_slices_Equal_Lint)] (initSt [.one (.dat (.list .int) a), .one (.dat (.list .int) b)] []) := by
  refine ⟨a.length + 2, ?_⟩
  rw [slices_Equal_Lint_w, slices_Equal_Lint_vc _ _ _ _]
  refine ne_s (fun h => ?_) (fun h => ?_)
  · rw [show eqIs a b = false from by simp only [eqIs, decide_eq_false_iff_not]; rintro rfl; exact h rfl] at hK
    exact hK
  · exact loop_slices_Equal_Lint a b (by simp only [len] at h; omega) hp K hK a.length 0 (by omega) rfl
theorem sound_slices_Equal_Lint : SoundC Try.prog tab n_slices_Equal_Lint c_slices_Equal_Lint := soundC_of ok_slices_Equal_Lint hf_slices_Equal_Lint hB_slices_Equal_Lint (by
  intro vs bs p v bs' h hp
  unfold c_slices_Equal_Lint at h
  split at h
  · cases h
    skip
    exact ⟨by kernel_rfl, rfl, .inl (run_slices_Equal_Lint _ _ hp.1 _ ⟨rfl, rfl⟩)⟩
  · cases h)

def c_law_Names : Contract := fun vs bs => match vs, bs with
  | [], [] => some (none, .one (.dat .bool true), [])
  | _, _ => none
def Γ_law_Names : Ctx := [(n_slices_Equal_Lint, c_slices_Equal_Lint)]
theorem ok_law_Names : Ok Try.prog tab Γ_law_Names := (ok_nil.consC hf_slices_Equal_Lint hB_slices_Equal_Lint sound_slices_Equal_Lint)
noncomputable def law_Names_L0 : List It := [.inLoop [9, 8, 7, 0] (Code.sub (bodyOf fn_law_Names) [1, 1, 0, 1, 0, 0]), .inBlock 0, .code (Code.sub (bodyOf fn_law_Names) [1, 1, 1])]
def law_Names_S0 (x0 : Int) (x1 : Int) (x2 : Bool) (x3 : (List Int)) : St := ⟨[(9, .one (.dat Ty.int x0)), (8, .one (.dat Ty.int x1)), (7, .one (.own 0)), (0, .one (.dat Ty.bool x2))], [(0, .arr Ty.int x3)], 1⟩
theorem law_Names_vc (rec : List It → St → Prop) (K : V → List Blk → Prop) : segD Γ_law_Names tab fn_law_Names 0 K rec [.code (bodyOf fn_law_Names)] (initSt [] []) = (
    rec law_Names_L0 (law_Names_S0 (0 : Int) (((len ((0 : Int) :: ((1 : Int) :: ((2 : Int) :: ((3 : Int) :: ((4 : Int) :: ((5 : Int) :: ((6 : Int) :: ((7 : Int) :: ((8 : Int) :: ((9 : Int) :: ((10 : Int) :: ((11 : Int) :: ((12 : Int) :: [])))))))))))))) : Nat) : Int) false ((0 : Int) :: ((1 : Int) :: ((2 : Int) :: ((3 : Int) :: ((4 : Int) :: ((5 : Int) :: ((6 : Int) :: ((7 : Int) :: ((8 : Int) :: ((9 : Int) :: ((10 : Int) :: ((11 : Int) :: ((12 : Int) :: []))))))))))))))) := by kernel_rfl
theorem law_Names_w (m : Nat) (K : V → List Blk → Prop) : goD Γ_law_Names tab fn_law_Names 0 K (m + 1) [.code (bodyOf fn_law_Names)] (initSt [] []) = segD Γ_law_Names tab fn_law_Names 0 K (goD Γ_law_Names tab fn_law_Names 0 K m) [.code (bodyOf fn_law_Names)] (initSt [] []) := rfl
theorem law_Names_vc0 (x0 : Int) (x1 : Int) (x2 : Bool) (x3 : (List Int)) (rec : List It → St → Prop) (K : V → List Blk → Prop) v0 (hv0 : v0 = (eqIs ((1 : Int) :: ((2 : Int) :: ((3 : Int) :: ((4 : Int) :: ((5 : Int) :: ((6 : Int) :: ((7 : Int) :: ((1 : Int) :: ((2 : Int) :: ((3 : Int) :: ((4 : Int) :: ((5 : Int) :: ((6 : Int) :: ((7 : Int) :: ((8 : Int) :: ((9 : Int) :: ((10 : Int) :: []))))))))))))))))) ((1 : Int) :: ((2 : Int) :: ((3 : Int) :: ((4 : Int) :: ((5 : Int) :: ((6 : Int) :: ((7 : Int) :: ((1 : Int) :: ((2 : Int) :: ((3 : Int) :: ((4 : Int) :: ((5 : Int) :: ((6 : Int) :: ((7 : Int) :: ((8 : Int) :: ((9 : Int) :: ((10 : Int) :: []))))))))))))))))))) : segD Γ_law_Names tab fn_law_Names 0 K rec (.code (Code.sub (bodyOf fn_law_Names) [1, 1, 0, 1, 0, 0]) :: law_Names_L0) (law_Names_S0 x0 x1 x2 x3) = (
    br (lti x0 x1)
     ((((0 : Int) ≤ x0) ∧ (x0 < (((len x3) : Nat) : Int))) ∧
      (((Int.toNat x0) < (len x3)) ∧
      (br (!(eqi (nth x3 (Int.toNat x0) (Ty.dflt Ty.int)) x0))
       (K (.one (.dat Ty.bool false)) [])
       (rec law_Names_L0 (law_Names_S0 (w64 (x0 + (1 : Int))) x1 x2 x3)))))
     (((List.length ((32 : Int) :: ((6 : Int) :: ((65535 : Int) :: ((4 : Int) :: ((40 : Int) :: ((6 : Int) :: ((50 : Int) :: ((4 : Int) :: ((60 : Int) :: ((2000 : Int) :: ((1000 : Int) :: ((100000 : Int) :: ((24 : Int) :: ((160 : Int) :: ((8 : Int) :: ((8 : Int) :: []))))))))))))))))) ≤ 140737488355328) ∧
      (((List.length ((1 : Int) :: ((2 : Int) :: ((3 : Int) :: ((4 : Int) :: ((5 : Int) :: ((6 : Int) :: ((7 : Int) :: ((1 : Int) :: ((2 : Int) :: ((3 : Int) :: ((4 : Int) :: ((5 : Int) :: ((6 : Int) :: ((7 : Int) :: ((8 : Int) :: ((9 : Int) :: ((10 : Int) :: [])))))))))))))))))) ≤ 140737488355328) ∧
      (K (.one (.dat Ty.bool v0)) [])))) := by subst hv0; kernel_rfl
theorem law_Names_w0 (x0 : Int) (x1 : Int) (x2 : Bool) (x3 : (List Int)) (m : Nat) (K : V → List Blk → Prop) : goD Γ_law_Names tab fn_law_Names 0 K (m + 1) law_Names_L0 (law_Names_S0 x0 x1 x2 x3) = segD Γ_law_Names tab fn_law_Names 0 K (goD Γ_law_Names tab fn_law_Names 0 K m) (.code (Code.sub (bodyOf fn_law_Names) [1, 1, 0, 1, 0, 0]) :: law_Names_L0) (law_Names_S0 x0 x1 x2 x3) := rfl

def errsNames : List Int := [0, 1, 2, 3, 4, 5, 6, 7, 8, 9, 10, 11, 12]
theorem errs_at : ∀ k, k < 13 → nth errsNames k (Ty.dflt Ty.int) = (k : Int) := by decide
theorem loop_law_Names (K : V → List Blk → Prop) (hK : K (.one (.dat .bool true)) []) : ∀ (d k : Nat), k + d = 13 → goD Γ_law_Names tab fn_law_Names 0 K (d + 1) law_Names_L0 (law_Names_S0 (k : Int) 13 false errsNames)
  | 0, k, hk => by
    rw [law_Names_w0, law_Names_vc0 _ _ _ _ _ _ _ rfl]
    refine lt_f (by omega) ?_
    simp only [eqIs, decide_true]
    exact ⟨by decide, by decide, hK⟩
  | d + 1, k, hk => by
    rw [law_Names_w0, law_Names_vc0 _ _ _ _ _ _ _ rfl]
    refine lt_t (by omega) ⟨⟨by omega, by simp only [len, errsNames, List.length_cons, List.length_nil]; omega⟩, by simp only [len, errsNames, List.length_cons, List.length_nil]; omega, ?_⟩
    rw [toNat_nat, errs_at k (by omega)]
    refine ne_f rfl ?_
    rw [w64_succ (by omega)]
    exact loop_law_Names K hK d (k + 1) (by omega)
theorem run_law_Names  (K : V → List Blk → Prop) (hK : K (.one (.dat .bool true)) []) : ∃ m, goD Γ_law_Names tab fn_law_Names 0 K m [.code (bodyOf fn_law_Names)] (initSt [] []) := by
  refine ⟨15, ?_⟩
  rw [law_Names_w, law_Names_vc _ _]
  exact loop_law_Names K hK 13 0 rfl
theorem sound_law_Names : SoundC Try.prog tab n_law_Names c_law_Names := soundC_of ok_law_Names hf_law_Names hB_law_Names (by
  intro vs bs p v bs' h hp
  unfold c_law_Names at h
  split at h
  · cases h
    skip
    exact ⟨by kernel_rfl, rfl, .inl (run_law_Names  _ ⟨rfl, rfl⟩)⟩
  · cases h)
end Go.Proofs.Ytlbppjmekiemiaa
