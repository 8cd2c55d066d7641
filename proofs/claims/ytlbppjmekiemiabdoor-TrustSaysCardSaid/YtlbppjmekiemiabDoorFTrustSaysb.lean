/- What the functions of TrustSays compute (part 2 of 2). No condition. -/
import Derived.Test.YtlbppjmekiemiabDoorFTrustSaysa
import Derived.KernelRfl
namespace Go.Proofs.YtlbppjmekiemiabDoor
open Vm
def c_slices_IndexFunc_Lint : Contract := fun vs bs => match vs, bs with
  | [.one (.dat (.list .int) l), .one (.fn f [])], [] => (match Nat.beq f n_flash_Program_1 with | true => some (some (Sm l), .one (.dat .int (firstBad l)), []) | false => (match Nat.beq f n_ref_allWords_1 with | true => some (some (Sm l), .one (.dat .int (firstBad l)), []) | false => (match Nat.beq f n_unit_CheckMessage_1 with | true => some (some (Sm l), .one (.dat .int (firstBad l)), []) | false => none)))
  | _, _ => none
def Γ_slices_IndexFunc_Lint : Ctx := [(n_flash_Program_1, c_flash_Program_1), (n_ref_allWords_1, c_ref_allWords_1), (n_unit_CheckMessage_1, c_unit_CheckMessage_1)]
theorem ok_slices_IndexFunc_Lint : Ok Tryd.prog tab Γ_slices_IndexFunc_Lint := (((ok_nil.consC hf_unit_CheckMessage_1 hB_unit_CheckMessage_1 sound_unit_CheckMessage_1).consC hf_ref_allWords_1 hB_ref_allWords_1 sound_ref_allWords_1).consC hf_flash_Program_1 hB_flash_Program_1 sound_flash_Program_1)
noncomputable def slices_IndexFunc_Lint_0_L0 : List It := [.inLoop [8, 7, 4, 0, 1] (Code.sub (bodyOf fn_slices_IndexFunc_Lint) [1, 0, 1, 0, 0]), .inBlock 0, .code (Code.sub (bodyOf fn_slices_IndexFunc_Lint) [1, 1])]
def slices_IndexFunc_Lint_0_S0 (x0 : Int) (x1 : Int) (x2 : Int) (x3 : (List Int)) : St := ⟨[(8, .one (.dat Ty.int x0)), (7, .one (.dat Ty.int x1)), (4, .one (.dat Ty.int x2)), (0, .one (.dat (Ty.list Ty.int) x3)), (1, .one (.fn n_flash_Program_1 []))], [], 0⟩
theorem slices_IndexFunc_Lint_0_vc (l : List Int) (rec : List It → St → Prop) (K : V → List Blk → Prop) : segD Γ_slices_IndexFunc_Lint tab fn_slices_IndexFunc_Lint 0 K rec [.code (bodyOf fn_slices_IndexFunc_Lint)] (initSt [.one (.dat (Ty.list Ty.int) l), .one (.fn n_flash_Program_1 [])] []) = (
    rec slices_IndexFunc_Lint_0_L0 (slices_IndexFunc_Lint_0_S0 (0 : Int) (((len l) : Nat) : Int) (0 : Int) l)) := by kernel_rfl
theorem slices_IndexFunc_Lint_0_w (l : List Int) (m : Nat) (K : V → List Blk → Prop) : goD Γ_slices_IndexFunc_Lint tab fn_slices_IndexFunc_Lint 0 K (m + 1) [.code (bodyOf fn_slices_IndexFunc_Lint)] (initSt [.one (.dat (Ty.list Ty.int) l), .one (.fn n_flash_Program_1 [])] []) = segD Γ_slices_IndexFunc_Lint tab fn_slices_IndexFunc_Lint 0 K (goD Γ_slices_IndexFunc_Lint tab fn_slices_IndexFunc_Lint 0 K m) [.code (bodyOf fn_slices_IndexFunc_Lint)] (initSt [.one (.dat (Ty.list Ty.int) l), .one (.fn n_flash_Program_1 [])] []) := rfl
theorem slices_IndexFunc_Lint_0_vc0 (x0 : Int) (x1 : Int) (x2 : Int) (x3 : (List Int)) (rec : List It → St → Prop) (K : V → List Blk → Prop) v0 (hv0 : v0 = (okWord (nth x3 (Int.toNat x0) (Ty.dflt Ty.int)))) : segD Γ_slices_IndexFunc_Lint tab fn_slices_IndexFunc_Lint 0 K rec (.code (Code.sub (bodyOf fn_slices_IndexFunc_Lint) [1, 0, 1, 0, 0]) :: slices_IndexFunc_Lint_0_L0) (slices_IndexFunc_Lint_0_S0 x0 x1 x2 x3) = (
    br (lti x0 x1)
     ((((0 : Int) ≤ x0) ∧ (x0 < (((len x3) : Nat) : Int))) ∧
      (br (!v0)
       (K (.one (.dat Ty.int x0)) [])
       (rec slices_IndexFunc_Lint_0_L0 (slices_IndexFunc_Lint_0_S0 (w64 (x0 + (1 : Int))) x1 x2 x3))))
     (K (.one (.dat Ty.int (-(1 : Int)))) [])) := by subst hv0; kernel_rfl
theorem slices_IndexFunc_Lint_0_w0 (x0 : Int) (x1 : Int) (x2 : Int) (x3 : (List Int)) (m : Nat) (K : V → List Blk → Prop) : goD Γ_slices_IndexFunc_Lint tab fn_slices_IndexFunc_Lint 0 K (m + 1) slices_IndexFunc_Lint_0_L0 (slices_IndexFunc_Lint_0_S0 x0 x1 x2 x3) = segD Γ_slices_IndexFunc_Lint tab fn_slices_IndexFunc_Lint 0 K (goD Γ_slices_IndexFunc_Lint tab fn_slices_IndexFunc_Lint 0 K m) (.code (Code.sub (bodyOf fn_slices_IndexFunc_Lint) [1, 0, 1, 0, 0]) :: slices_IndexFunc_Lint_0_L0) (slices_IndexFunc_Lint_0_S0 x0 x1 x2 x3) := rfl

noncomputable def slices_IndexFunc_Lint_1_L0 : List It := [.inLoop [8, 7, 4, 0, 1] (Code.sub (bodyOf fn_slices_IndexFunc_Lint) [1, 0, 1, 0, 0]), .inBlock 0, .code (Code.sub (bodyOf fn_slices_IndexFunc_Lint) [1, 1])]
def slices_IndexFunc_Lint_1_S0 (x0 : Int) (x1 : Int) (x2 : Int) (x3 : (List Int)) : St := ⟨[(8, .one (.dat Ty.int x0)), (7, .one (.dat Ty.int x1)), (4, .one (.dat Ty.int x2)), (0, .one (.dat (Ty.list Ty.int) x3)), (1, .one (.fn n_ref_allWords_1 []))], [], 0⟩
theorem slices_IndexFunc_Lint_1_vc (l : List Int) (rec : List It → St → Prop) (K : V → List Blk → Prop) : segD Γ_slices_IndexFunc_Lint tab fn_slices_IndexFunc_Lint 0 K rec [.code (bodyOf fn_slices_IndexFunc_Lint)] (initSt [.one (.dat (Ty.list Ty.int) l), .one (.fn n_ref_allWords_1 [])] []) = (
    rec slices_IndexFunc_Lint_1_L0 (slices_IndexFunc_Lint_1_S0 (0 : Int) (((len l) : Nat) : Int) (0 : Int) l)) := by kernel_rfl
theorem slices_IndexFunc_Lint_1_w (l : List Int) (m : Nat) (K : V → List Blk → Prop) : goD Γ_slices_IndexFunc_Lint tab fn_slices_IndexFunc_Lint 0 K (m + 1) [.code (bodyOf fn_slices_IndexFunc_Lint)] (initSt [.one (.dat (Ty.list Ty.int) l), .one (.fn n_ref_allWords_1 [])] []) = segD Γ_slices_IndexFunc_Lint tab fn_slices_IndexFunc_Lint 0 K (goD Γ_slices_IndexFunc_Lint tab fn_slices_IndexFunc_Lint 0 K m) [.code (bodyOf fn_slices_IndexFunc_Lint)] (initSt [.one (.dat (Ty.list Ty.int) l), .one (.fn n_ref_allWords_1 [])] []) := rfl
theorem slices_IndexFunc_Lint_1_vc0 (x0 : Int) (x1 : Int) (x2 : Int) (x3 : (List Int)) (rec : List It → St → Prop) (K : V → List Blk → Prop) v0 (hv0 : v0 = (okWord (nth x3 (Int.toNat x0) (Ty.dflt Ty.int)))) : segD Γ_slices_IndexFunc_Lint tab fn_slices_IndexFunc_Lint 0 K rec (.code (Code.sub (bodyOf fn_slices_IndexFunc_Lint) [1, 0, 1, 0, 0]) :: slices_IndexFunc_Lint_1_L0) (slices_IndexFunc_Lint_1_S0 x0 x1 x2 x3) = (
    br (lti x0 x1)
     ((((0 : Int) ≤ x0) ∧ (x0 < (((len x3) : Nat) : Int))) ∧
      (br (!v0)
       (K (.one (.dat Ty.int x0)) [])
       (rec slices_IndexFunc_Lint_1_L0 (slices_IndexFunc_Lint_1_S0 (w64 (x0 + (1 : Int))) x1 x2 x3))))
     (K (.one (.dat Ty.int (-(1 : Int)))) [])) := by subst hv0; kernel_rfl
theorem slices_IndexFunc_Lint_1_w0 (x0 : Int) (x1 : Int) (x2 : Int) (x3 : (List Int)) (m : Nat) (K : V → List Blk → Prop) : goD Γ_slices_IndexFunc_Lint tab fn_slices_IndexFunc_Lint 0 K (m + 1) slices_IndexFunc_Lint_1_L0 (slices_IndexFunc_Lint_1_S0 x0 x1 x2 x3) = segD Γ_slices_IndexFunc_Lint tab fn_slices_IndexFunc_Lint 0 K (goD Γ_slices_IndexFunc_Lint tab fn_slices_IndexFunc_Lint 0 K m) (.code (Code.sub (bodyOf fn_slices_IndexFunc_Lint) [1, 0, 1, 0, 0]) :: slices_IndexFunc_Lint_1_L0) (slices_IndexFunc_Lint_1_S0 x0 x1 x2 x3) := rfl

noncomputable def slices_IndexFunc_Lint_2_L0 : List It := [.inLoop [8, 7, 4, 0, 1] (Code.sub (bodyOf fn_slices_IndexFunc_Lint) [1, 0, 1, 0, 0]), .inBlock 0, .code (Code.sub (bodyOf fn_slices_IndexFunc_Lint) [1, 1])]
def slices_IndexFunc_Lint_2_S0 (x0 : Int) (x1 : Int) (x2 : Int) (x3 : (List Int)) : St := ⟨[(8, .one (.dat Ty.int x0)), (7, .one (.dat Ty.int x1)), (4, .one (.dat Ty.int x2)), (0, .one (.dat (Ty.list Ty.int) x3)), (1, .one (.fn n_unit_CheckMessage_1 []))], [], 0⟩
theorem slices_IndexFunc_Lint_2_vc (l : List Int) (rec : List It → St → Prop) (K : V → List Blk → Prop) : segD Γ_slices_IndexFunc_Lint tab fn_slices_IndexFunc_Lint 0 K rec [.code (bodyOf fn_slices_IndexFunc_Lint)] (initSt [.one (.dat (Ty.list Ty.int) l), .one (.fn n_unit_CheckMessage_1 [])] []) = (
    rec slices_IndexFunc_Lint_2_L0 (slices_IndexFunc_Lint_2_S0 (0 : Int) (((len l) : Nat) : Int) (0 : Int) l)) := by kernel_rfl
theorem slices_IndexFunc_Lint_2_w (l : List Int) (m : Nat) (K : V → List Blk → Prop) : goD Γ_slices_IndexFunc_Lint tab fn_slices_IndexFunc_Lint 0 K (m + 1) [.code (bodyOf fn_slices_IndexFunc_Lint)] (initSt [.one (.dat (Ty.list Ty.int) l), .one (.fn n_unit_CheckMessage_1 [])] []) = segD Γ_slices_IndexFunc_Lint tab fn_slices_IndexFunc_Lint 0 K (goD Γ_slices_IndexFunc_Lint tab fn_slices_IndexFunc_Lint 0 K m) [.code (bodyOf fn_slices_IndexFunc_Lint)] (initSt [.one (.dat (Ty.list Ty.int) l), .one (.fn n_unit_CheckMessage_1 [])] []) := rfl
theorem slices_IndexFunc_Lint_2_vc0 (x0 : Int) (x1 : Int) (x2 : Int) (x3 : (List Int)) (rec : List It → St → Prop) (K : V → List Blk → Prop) v0 (hv0 : v0 = (okWord (nth x3 (Int.toNat x0) (Ty.dflt Ty.int)))) : segD Γ_slices_IndexFunc_Lint tab fn_slices_IndexFunc_Lint 0 K rec (.code (Code.sub (bodyOf fn_slices_IndexFunc_Lint) [1, 0, 1, 0, 0]) :: slices_IndexFunc_Lint_2_L0) (slices_IndexFunc_Lint_2_S0 x0 x1 x2 x3) = (
    br (lti x0 x1)
     ((((0 : Int) ≤ x0) ∧ (x0 < (((len x3) : Nat) : Int))) ∧
      (br (!v0)
       (K (.one (.dat Ty.int x0)) [])
       (rec slices_IndexFunc_Lint_2_L0 (slices_IndexFunc_Lint_2_S0 (w64 (x0 + (1 : Int))) x1 x2 x3))))
     (K (.one (.dat Ty.int (-(1 : Int)))) [])) := by subst hv0; kernel_rfl
theorem slices_IndexFunc_Lint_2_w0 (x0 : Int) (x1 : Int) (x2 : Int) (x3 : (List Int)) (m : Nat) (K : V → List Blk → Prop) : goD Γ_slices_IndexFunc_Lint tab fn_slices_IndexFunc_Lint 0 K (m + 1) slices_IndexFunc_Lint_2_L0 (slices_IndexFunc_Lint_2_S0 x0 x1 x2 x3) = segD Γ_slices_IndexFunc_Lint tab fn_slices_IndexFunc_Lint 0 K (goD Γ_slices_IndexFunc_Lint tab fn_slices_IndexFunc_Lint 0 K m) (.code (Code.sub (bodyOf fn_slices_IndexFunc_Lint) [1, 0, 1, 0, 0]) :: slices_IndexFunc_Lint_2_L0) (slices_IndexFunc_Lint_2_S0 x0 x1 x2 x3) := rfl

theorem loop_slices_IndexFunc_Lint_0 (l : List Int) (hs : Sm l) (K : V → List Blk → Prop) : ∀ (d k : Nat), k + d = l.length → K (.one (.dat .int (firstBadFrom k (l.drop k)))) [] →
    goD Γ_slices_IndexFunc_Lint tab fn_slices_IndexFunc_Lint 0 K (d + 1) slices_IndexFunc_Lint_0_L0 (slices_IndexFunc_Lint_0_S0 (k : Int) (((len l) : Nat) : Int) 0 l)
  | 0, k, hk, hK => by
    rw [slices_IndexFunc_Lint_0_w0, slices_IndexFunc_Lint_0_vc0 _ _ _ _ _ _ _ rfl]
    refine lt_f (by simp only [len]; omega) ?_
    rw [List.drop_of_length_le (by omega)] at hK
    exact hK
  | d + 1, k, hk, hK => by
    have hs' := hs
    unfold Sm at hs'
    rw [slices_IndexFunc_Lint_0_w0, slices_IndexFunc_Lint_0_vc0 _ _ _ _ _ _ _ rfl]
    rw [drop_step (by omega) (Ty.dflt Ty.int)] at hK
    simp only [firstBadFrom] at hK
    refine lt_t (by simp only [len]; omega) ⟨⟨by omega, by simp only [len]; omega⟩, nt_s (fun h => ?_) (fun h => ?_)⟩
    · rw [toNat_nat] at h
      rw [if_neg (by rw [h]; simp)] at hK
      exact hK
    · rw [toNat_nat] at h
      rw [if_pos h] at hK
      rw [w64_succ (by omega)]
      exact loop_slices_IndexFunc_Lint_0 l hs K d (k + 1) (by omega) hK
set_option maxHeartbeats 4000000 in
theorem run_slices_IndexFunc_Lint_0 (l : List Int) (hp : Sm l) (K : V → List Blk → Prop) (hK : K (.one (.dat .int (firstBad l))) []) : ∃ m, goD Γ_slices_IndexFunc_Lint tab fn_slices_IndexFunc_Lint 0 K m [.code (bodyOf fn_slices_IndexFunc_Lint)] (initSt [.one (.dat (.list .int) l), .one (.fn n_flash_Program_1 [])] []) := by
  refine ⟨l.length + 2, ?_⟩
  rw [slices_IndexFunc_Lint_0_w, slices_IndexFunc_Lint_0_vc _ _ _]
  exact loop_slices_IndexFunc_Lint_0 l hp K l.length 0 (by omega) hK
theorem loop_slices_IndexFunc_Lint_1 (l : List Int) (hs : Sm l) (K : V → List Blk → Prop) : ∀ (d k : Nat), k + d = l.length → K (.one (.dat .int (firstBadFrom k (l.drop k)))) [] →
    goD Γ_slices_IndexFunc_Lint tab fn_slices_IndexFunc_Lint 0 K (d + 1) slices_IndexFunc_Lint_1_L0 (slices_IndexFunc_Lint_1_S0 (k : Int) (((len l) : Nat) : Int) 0 l)
  | 0, k, hk, hK => by
    rw [slices_IndexFunc_Lint_1_w0, slices_IndexFunc_Lint_1_vc0 _ _ _ _ _ _ _ rfl]
    refine lt_f (by simp only [len]; omega) ?_
    rw [List.drop_of_length_le (by omega)] at hK
    exact hK
  | d + 1, k, hk, hK => by
    have hs' := hs
    unfold Sm at hs'
    rw [slices_IndexFunc_Lint_1_w0, slices_IndexFunc_Lint_1_vc0 _ _ _ _ _ _ _ rfl]
    rw [drop_step (by omega) (Ty.dflt Ty.int)] at hK
    simp only [firstBadFrom] at hK
    refine lt_t (by simp only [len]; omega) ⟨⟨by omega, by simp only [len]; omega⟩, nt_s (fun h => ?_) (fun h => ?_)⟩
    · rw [toNat_nat] at h
      rw [if_neg (by rw [h]; simp)] at hK
      exact hK
    · rw [toNat_nat] at h
      rw [if_pos h] at hK
      rw [w64_succ (by omega)]
      exact loop_slices_IndexFunc_Lint_1 l hs K d (k + 1) (by omega) hK
set_option maxHeartbeats 4000000 in
theorem run_slices_IndexFunc_Lint_1 (l : List Int) (hp : Sm l) (K : V → List Blk → Prop) (hK : K (.one (.dat .int (firstBad l))) []) : ∃ m, goD Γ_slices_IndexFunc_Lint tab fn_slices_IndexFunc_Lint 0 K m [.code (bodyOf fn_slices_IndexFunc_Lint)] (initSt [.one (.dat (.list .int) l), .one (.fn n_ref_allWords_1 [])] []) := by
  refine ⟨l.length + 2, ?_⟩
  rw [slices_IndexFunc_Lint_1_w, slices_IndexFunc_Lint_1_vc _ _ _]
  exact loop_slices_IndexFunc_Lint_1 l hp K l.length 0 (by omega) hK
theorem loop_slices_IndexFunc_Lint_2 (l : List Int) (hs : Sm l) (K : V → List Blk → Prop) : ∀ (d k : Nat), k + d = l.length → K (.one (.dat .int (firstBadFrom k (l.drop k)))) [] →
    goD Γ_slices_IndexFunc_Lint tab fn_slices_IndexFunc_Lint 0 K (d + 1) slices_IndexFunc_Lint_2_L0 (slices_IndexFunc_Lint_2_S0 (k : Int) (((len l) : Nat) : Int) 0 l)
  | 0, k, hk, hK => by
    rw [slices_IndexFunc_Lint_2_w0, slices_IndexFunc_Lint_2_vc0 _ _ _ _ _ _ _ rfl]
    refine lt_f (by simp only [len]; omega) ?_
    rw [List.drop_of_length_le (by omega)] at hK
    exact hK
  | d + 1, k, hk, hK => by
    have hs' := hs
    unfold Sm at hs'
    rw [slices_IndexFunc_Lint_2_w0, slices_IndexFunc_Lint_2_vc0 _ _ _ _ _ _ _ rfl]
    rw [drop_step (by omega) (Ty.dflt Ty.int)] at hK
    simp only [firstBadFrom] at hK
    refine lt_t (by simp only [len]; omega) ⟨⟨by omega, by simp only [len]; omega⟩, nt_s (fun h => ?_) (fun h => ?_)⟩
    · rw [toNat_nat] at h
      rw [if_neg (by rw [h]; simp)] at hK
      exact hK
    · rw [toNat_nat] at h
      rw [if_pos h] at hK
      rw [w64_succ (by omega)]
      exact loop_slices_IndexFunc_Lint_2 l hs K d (k + 1) (by omega) hK
set_option maxHeartbeats 4000000 in
theorem run_slices_IndexFunc_Lint_2 (l : List Int) (hp : Sm l) (K : V → List Blk → Prop) (hK : K (.one (.dat .int (firstBad l))) []) : ∃ m, goD Γ_slices_IndexFunc_Lint tab fn_slices_IndexFunc_Lint 0 K m [.code (bodyOf fn_slices_IndexFunc_Lint)] (initSt [.one (.dat (.list .int) l), .one (.fn n_unit_CheckMessage_1 [])] []) := by
  refine ⟨l.length + 2, ?_⟩
  rw [slices_IndexFunc_Lint_2_w, slices_IndexFunc_Lint_2_vc _ _ _]
  exact loop_slices_IndexFunc_Lint_2 l hp K l.length 0 (by omega) hK
theorem sound_slices_IndexFunc_Lint : SoundC Tryd.prog tab n_slices_IndexFunc_Lint c_slices_IndexFunc_Lint := soundC_of ok_slices_IndexFunc_Lint hf_slices_IndexFunc_Lint hB_slices_IndexFunc_Lint (by
  intro vs bs p v bs' h hp
  unfold c_slices_IndexFunc_Lint at h
  split at h
  · split at h
    · rename_i hfn
      have hfn := Nat.eq_of_beq_eq_true hfn
      subst hfn
      cases h
      exact ⟨by kernel_rfl, rfl, .inl (run_slices_IndexFunc_Lint_0 _ hp.1 _ ⟨rfl, rfl⟩)⟩
    · split at h
      · rename_i hfn
        have hfn := Nat.eq_of_beq_eq_true hfn
        subst hfn
        cases h
        exact ⟨by kernel_rfl, rfl, .inl (run_slices_IndexFunc_Lint_1 _ hp.1 _ ⟨rfl, rfl⟩)⟩
      · split at h
        · rename_i hfn
          have hfn := Nat.eq_of_beq_eq_true hfn
          subst hfn
          cases h
          exact ⟨by kernel_rfl, rfl, .inl (run_slices_IndexFunc_Lint_2 _ hp.1 _ ⟨rfl, rfl⟩)⟩
        · cases h
  · cases h)

def c_slices_ContainsFunc_Lint : Contract := fun vs bs => match vs, bs with
  | [.one (.dat (.list .int) l), .one (.fn f [])], [] => (match Nat.beq f n_flash_Program_1 with | true => some (some (Sm l), .one (.dat .bool (!okWords l)), []) | false => (match Nat.beq f n_ref_allWords_1 with | true => some (some (Sm l), .one (.dat .bool (!okWords l)), []) | false => (match Nat.beq f n_unit_CheckMessage_1 with | true => some (some (Sm l), .one (.dat .bool (!okWords l)), []) | false => none)))
  | _, _ => none
def Γ_slices_ContainsFunc_Lint : Ctx := [(n_slices_IndexFunc_Lint, c_slices_IndexFunc_Lint), (n_flash_Program_1, c_flash_Program_1), (n_ref_allWords_1, c_ref_allWords_1), (n_unit_CheckMessage_1, c_unit_CheckMessage_1)]
theorem ok_slices_ContainsFunc_Lint : Ok Tryd.prog tab Γ_slices_ContainsFunc_Lint := ((((ok_nil.consC hf_unit_CheckMessage_1 hB_unit_CheckMessage_1 sound_unit_CheckMessage_1).consC hf_ref_allWords_1 hB_ref_allWords_1 sound_ref_allWords_1).consC hf_flash_Program_1 hB_flash_Program_1 sound_flash_Program_1).consC hf_slices_IndexFunc_Lint hB_slices_IndexFunc_Lint sound_slices_IndexFunc_Lint)
theorem slices_ContainsFunc_Lint_0_vc (l : List Int) (rec : List It → St → Prop) (K : V → List Blk → Prop) v0 (hv0 : v0 = (firstBad l)) : segD Γ_slices_ContainsFunc_Lint tab fn_slices_ContainsFunc_Lint 0 K rec [.code (bodyOf fn_slices_ContainsFunc_Lint)] (initSt [.one (.dat (Ty.list Ty.int) l), .one (.fn n_flash_Program_1 [])] []) = (
    ((List.length l) ≤ 140737488355328) ∧
    (K (.one (.dat Ty.bool (lei (0 : Int) v0))) [])) := by subst hv0; kernel_rfl
theorem slices_ContainsFunc_Lint_0_w (l : List Int) (m : Nat) (K : V → List Blk → Prop) : goD Γ_slices_ContainsFunc_Lint tab fn_slices_ContainsFunc_Lint 0 K (m + 1) [.code (bodyOf fn_slices_ContainsFunc_Lint)] (initSt [.one (.dat (Ty.list Ty.int) l), .one (.fn n_flash_Program_1 [])] []) = segD Γ_slices_ContainsFunc_Lint tab fn_slices_ContainsFunc_Lint 0 K (goD Γ_slices_ContainsFunc_Lint tab fn_slices_ContainsFunc_Lint 0 K m) [.code (bodyOf fn_slices_ContainsFunc_Lint)] (initSt [.one (.dat (Ty.list Ty.int) l), .one (.fn n_flash_Program_1 [])] []) := rfl

theorem slices_ContainsFunc_Lint_1_vc (l : List Int) (rec : List It → St → Prop) (K : V → List Blk → Prop) v0 (hv0 : v0 = (firstBad l)) : segD Γ_slices_ContainsFunc_Lint tab fn_slices_ContainsFunc_Lint 0 K rec [.code (bodyOf fn_slices_ContainsFunc_Lint)] (initSt [.one (.dat (Ty.list Ty.int) l), .one (.fn n_ref_allWords_1 [])] []) = (
    ((List.length l) ≤ 140737488355328) ∧
    (K (.one (.dat Ty.bool (lei (0 : Int) v0))) [])) := by subst hv0; kernel_rfl
theorem slices_ContainsFunc_Lint_1_w (l : List Int) (m : Nat) (K : V → List Blk → Prop) : goD Γ_slices_ContainsFunc_Lint tab fn_slices_ContainsFunc_Lint 0 K (m + 1) [.code (bodyOf fn_slices_ContainsFunc_Lint)] (initSt [.one (.dat (Ty.list Ty.int) l), .one (.fn n_ref_allWords_1 [])] []) = segD Γ_slices_ContainsFunc_Lint tab fn_slices_ContainsFunc_Lint 0 K (goD Γ_slices_ContainsFunc_Lint tab fn_slices_ContainsFunc_Lint 0 K m) [.code (bodyOf fn_slices_ContainsFunc_Lint)] (initSt [.one (.dat (Ty.list Ty.int) l), .one (.fn n_ref_allWords_1 [])] []) := rfl

theorem slices_ContainsFunc_Lint_2_vc (l : List Int) (rec : List It → St → Prop) (K : V → List Blk → Prop) v0 (hv0 : v0 = (firstBad l)) : segD Γ_slices_ContainsFunc_Lint tab fn_slices_ContainsFunc_Lint 0 K rec [.code (bodyOf fn_slices_ContainsFunc_Lint)] (initSt [.one (.dat (Ty.list Ty.int) l), .one (.fn n_unit_CheckMessage_1 [])] []) = (
    ((List.length l) ≤ 140737488355328) ∧
    (K (.one (.dat Ty.bool (lei (0 : Int) v0))) [])) := by subst hv0; kernel_rfl
theorem slices_ContainsFunc_Lint_2_w (l : List Int) (m : Nat) (K : V → List Blk → Prop) : goD Γ_slices_ContainsFunc_Lint tab fn_slices_ContainsFunc_Lint 0 K (m + 1) [.code (bodyOf fn_slices_ContainsFunc_Lint)] (initSt [.one (.dat (Ty.list Ty.int) l), .one (.fn n_unit_CheckMessage_1 [])] []) = segD Γ_slices_ContainsFunc_Lint tab fn_slices_ContainsFunc_Lint 0 K (goD Γ_slices_ContainsFunc_Lint tab fn_slices_ContainsFunc_Lint 0 K m) [.code (bodyOf fn_slices_ContainsFunc_Lint)] (initSt [.one (.dat (Ty.list Ty.int) l), .one (.fn n_unit_CheckMessage_1 [])] []) := rfl

theorem firstBad_slices_ContainsFunc_Lint : ∀ (l : List Int) (k : Int), 0 ≤ k → lei 0 (firstBadFrom k l) = !okWords l
  | [], k, hk => by simp [firstBadFrom, okWords, lei]
  | w :: l, k, hk => by
    simp only [firstBadFrom, okWords, List.all_cons]
    cases h : okWord w with
    | true => simpa [okWords] using firstBad_slices_ContainsFunc_Lint l (k + 1) (by omega)
    | false => simp [lei, hk]
set_option maxHeartbeats 4000000 in
theorem run_slices_ContainsFunc_Lint_0 (l : List Int) (hp : Sm l) (K : V → List Blk → Prop) (hK : K (.one (.dat .bool (!okWords l))) []) : ∃ m, goD Γ_slices_ContainsFunc_Lint tab fn_slices_ContainsFunc_Lint 0 K m [.code (bodyOf fn_slices_ContainsFunc_Lint)] (initSt [.one (.dat (.list .int) l), .one (.fn n_flash_Program_1 [])] []) := by
  refine ⟨1, ?_⟩
  rw [slices_ContainsFunc_Lint_0_w, slices_ContainsFunc_Lint_0_vc _ _ _ _ rfl]
  refine ⟨hp, ?_⟩
  rw [show lei 0 (firstBad l) = !okWords l from firstBad_slices_ContainsFunc_Lint l 0 (by omega)]
  exact hK
set_option maxHeartbeats 4000000 in
theorem run_slices_ContainsFunc_Lint_1 (l : List Int) (hp : Sm l) (K : V → List Blk → Prop) (hK : K (.one (.dat .bool (!okWords l))) []) : ∃ m, goD Γ_slices_ContainsFunc_Lint tab fn_slices_ContainsFunc_Lint 0 K m [.code (bodyOf fn_slices_ContainsFunc_Lint)] (initSt [.one (.dat (.list .int) l), .one (.fn n_ref_allWords_1 [])] []) := by
  refine ⟨1, ?_⟩
  rw [slices_ContainsFunc_Lint_1_w, slices_ContainsFunc_Lint_1_vc _ _ _ _ rfl]
  refine ⟨hp, ?_⟩
  rw [show lei 0 (firstBad l) = !okWords l from firstBad_slices_ContainsFunc_Lint l 0 (by omega)]
  exact hK
set_option maxHeartbeats 4000000 in
theorem run_slices_ContainsFunc_Lint_2 (l : List Int) (hp : Sm l) (K : V → List Blk → Prop) (hK : K (.one (.dat .bool (!okWords l))) []) : ∃ m, goD Γ_slices_ContainsFunc_Lint tab fn_slices_ContainsFunc_Lint 0 K m [.code (bodyOf fn_slices_ContainsFunc_Lint)] (initSt [.one (.dat (.list .int) l), .one (.fn n_unit_CheckMessage_1 [])] []) := by
  refine ⟨1, ?_⟩
  rw [slices_ContainsFunc_Lint_2_w, slices_ContainsFunc_Lint_2_vc _ _ _ _ rfl]
  refine ⟨hp, ?_⟩
  rw [show lei 0 (firstBad l) = !okWords l from firstBad_slices_ContainsFunc_Lint l 0 (by omega)]
  exact hK
theorem sound_slices_ContainsFunc_Lint : SoundC Tryd.prog tab n_slices_ContainsFunc_Lint c_slices_ContainsFunc_Lint := soundC_of ok_slices_ContainsFunc_Lint hf_slices_ContainsFunc_Lint hB_slices_ContainsFunc_Lint (by
  intro vs bs p v bs' h hp
  unfold c_slices_ContainsFunc_Lint at h
  split at h
  · split at h
    · rename_i hfn
      have hfn := Nat.eq_of_beq_eq_true hfn
      subst hfn
      cases h
      exact ⟨by kernel_rfl, rfl, .inl (run_slices_ContainsFunc_Lint_0 _ hp.1 _ ⟨rfl, rfl⟩)⟩
    · split at h
      · rename_i hfn
        have hfn := Nat.eq_of_beq_eq_true hfn
        subst hfn
        cases h
        exact ⟨by kernel_rfl, rfl, .inl (run_slices_ContainsFunc_Lint_1 _ hp.1 _ ⟨rfl, rfl⟩)⟩
      · split at h
        · rename_i hfn
          have hfn := Nat.eq_of_beq_eq_true hfn
          subst hfn
          cases h
          exact ⟨by kernel_rfl, rfl, .inl (run_slices_ContainsFunc_Lint_2 _ hp.1 _ ⟨rfl, rfl⟩)⟩
        · cases h
  · cases h)

def c_ref_allWords : Contract := fun vs bs => match vs, bs with
  | [.one (.dat (.list .int) l)], [] => some (some (Sm l), .one (.dat .bool (okWords l)), [])
  | _, _ => none
def Γ_ref_allWords : Ctx := [(n_slices_ContainsFunc_Lint, c_slices_ContainsFunc_Lint), (n_ref_allWords_1, c_ref_allWords_1)]
theorem ok_ref_allWords : Ok Tryd.prog tab Γ_ref_allWords := ((ok_nil.consC hf_ref_allWords_1 hB_ref_allWords_1 sound_ref_allWords_1).consC hf_slices_ContainsFunc_Lint hB_slices_ContainsFunc_Lint sound_slices_ContainsFunc_Lint)
theorem ref_allWords_vc (l : List Int) (rec : List It → St → Prop) (K : V → List Blk → Prop) v0 (hv0 : v0 = (okWords l)) : segD Γ_ref_allWords tab fn_ref_allWords 0 K rec [.code (bodyOf fn_ref_allWords)] (initSt [.one (.dat (Ty.list Ty.int) l)] []) = (
    ((List.length l) ≤ 140737488355328) ∧
    (K (.one (.dat Ty.bool (!(!v0)))) [])) := by subst hv0; kernel_rfl
theorem ref_allWords_w (l : List Int) (m : Nat) (K : V → List Blk → Prop) : goD Γ_ref_allWords tab fn_ref_allWords 0 K (m + 1) [.code (bodyOf fn_ref_allWords)] (initSt [.one (.dat (Ty.list Ty.int) l)] []) = segD Γ_ref_allWords tab fn_ref_allWords 0 K (goD Γ_ref_allWords tab fn_ref_allWords 0 K m) [.code (bodyOf fn_ref_allWords)] (initSt [.one (.dat (Ty.list Ty.int) l)] []) := rfl

set_option maxHeartbeats 4000000 in
theorem run_ref_allWords (l : List Int) (hp : Sm l) (K : V → List Blk → Prop) (hK : K (.one (.dat .bool (okWords l))) []) : ∃ m, goD Γ_ref_allWords tab fn_ref_allWords 0 K m [.code (bodyOf fn_ref_allWords)] (initSt [.one (.dat (.list .int) l)] []) := by
  refine ⟨1, ?_⟩
  rw [ref_allWords_w, ref_allWords_vc _ _ _ _ rfl]
  refine ⟨hp, ?_⟩
  rw [Bool.not_not]
  exact hK
theorem sound_ref_allWords : SoundC Tryd.prog tab n_ref_allWords c_ref_allWords := soundC_of ok_ref_allWords hf_ref_allWords hB_ref_allWords (by
  intro vs bs p v bs' h hp
  unfold c_ref_allWords at h
  split at h
  · cases h
    exact ⟨by kernel_rfl, rfl, .inl (run_ref_allWords _ hp.1 _ ⟨rfl, rfl⟩)⟩
  · cases h)

def c_ref_CheckImage : Contract := fun vs bs => match vs, bs with
  | [.one (.dat (.list .int) l)], [] => some (none, .one (.dat .int (checkImage l)), [])
  | _, _ => none
def Γ_ref_CheckImage : Ctx := [(n_ref_allWords, c_ref_allWords)]
theorem ok_ref_CheckImage : Ok Tryd.prog tab Γ_ref_CheckImage := (ok_nil.consC hf_ref_allWords hB_ref_allWords sound_ref_allWords)
theorem ref_CheckImage_vc (l : List Int) (rec : List It → St → Prop) (K : V → List Blk → Prop) v0 (hv0 : v0 = (okWords l)) : segD Γ_ref_CheckImage tab fn_ref_CheckImage 0 K rec [.code (bodyOf fn_ref_CheckImage)] (initSt [.one (.dat (Ty.list Ty.int) l)] []) = (
    br (lti (((len l) : Nat) : Int) (1 : Int))
     (K (.one (.dat Ty.int (2 : Int))) [])
     (br (lti (40 : Int) (((len l) : Nat) : Int))
       (K (.one (.dat Ty.int (2 : Int))) [])
       (((List.length l) ≤ 140737488355328) ∧
        (br (!v0)
         (K (.one (.dat Ty.int (3 : Int))) [])
         (K (.one (.dat Ty.int (0 : Int))) []))))) := by subst hv0; kernel_rfl
theorem ref_CheckImage_w (l : List Int) (m : Nat) (K : V → List Blk → Prop) : goD Γ_ref_CheckImage tab fn_ref_CheckImage 0 K (m + 1) [.code (bodyOf fn_ref_CheckImage)] (initSt [.one (.dat (Ty.list Ty.int) l)] []) = segD Γ_ref_CheckImage tab fn_ref_CheckImage 0 K (goD Γ_ref_CheckImage tab fn_ref_CheckImage 0 K m) [.code (bodyOf fn_ref_CheckImage)] (initSt [.one (.dat (Ty.list Ty.int) l)] []) := rfl

set_option maxHeartbeats 4000000 in
theorem run_ref_CheckImage (l : List Int) (K : V → List Blk → Prop) (hK : K (.one (.dat .int (checkImage l))) []) : ∃ m, goD Γ_ref_CheckImage tab fn_ref_CheckImage 0 K m [.code (bodyOf fn_ref_CheckImage)] (initSt [.one (.dat (.list .int) l)] []) := by
  refine ⟨1, ?_⟩
  rw [ref_CheckImage_w, ref_CheckImage_vc _ _ _ _ rfl]
  unfold checkImage at hK
  refine lt_s (fun h => ?_) (fun h => lt_s (fun h2 => ?_) (fun h2 => ⟨by simp only [len] at h2; omega, nt_s (fun h3 => ?_) (fun h3 => ?_)⟩))
  · rw [if_pos (by simp only [len] at h; omega)] at hK; exact hK
  · rw [if_pos (by simp only [len] at h2; omega)] at hK; exact hK
  · rw [if_neg (by simp only [len] at h h2; omega), if_neg (by rw [h3]; simp)] at hK; exact hK
  · rw [if_neg (by simp only [len] at h h2; omega), if_pos h3] at hK; exact hK
theorem sound_ref_CheckImage : SoundC Tryd.prog tab n_ref_CheckImage c_ref_CheckImage := soundC_of ok_ref_CheckImage hf_ref_CheckImage hB_ref_CheckImage (by
  intro vs bs p v bs' h hp
  unfold c_ref_CheckImage at h
  split at h
  · cases h
    exact ⟨by kernel_rfl, rfl, .inl (run_ref_CheckImage _ _ ⟨rfl, rfl⟩)⟩
  · cases h)

def c_ref_ImageText : Contract := fun vs bs => match vs, bs with
  | [.one (.dat (.list .int) l)], [] => some (some (checkImage l = 0), .one (.dat .str (imageText l)), [])
  | _, _ => none
def Γ_ref_ImageText : Ctx := [(n_ref_spaced, c_ref_spaced)]
theorem ok_ref_ImageText : Ok Tryd.prog tab Γ_ref_ImageText := (ok_nil.consC hf_ref_spaced hB_ref_spaced sound_ref_spaced)
theorem ref_ImageText_vc (l : List Int) (rec : List It → St → Prop) (K : V → List Blk → Prop) v0 (hv0 : v0 = (nums l)) v1 (hv1 : v1 = (listT l)) : segD Γ_ref_ImageText tab fn_ref_ImageText 0 K rec [.code (bodyOf fn_ref_ImageText)] (initSt [.one (.dat (Ty.list Ty.int) l)] []) = (
    (((len l) ≤ 1000) ∧ (v0 = true)) ∧
    ((((len ((105 : UInt8) :: ((109 : UInt8) :: ((97 : UInt8) :: ((103 : UInt8) :: ((101 : UInt8) :: ((32 : UInt8) :: []))))))) + (len v1)) ≤ 140737488355328) ∧
    (K (.one (.dat Ty.str (cat ((105 : UInt8) :: ((109 : UInt8) :: ((97 : UInt8) :: ((103 : UInt8) :: ((101 : UInt8) :: ((32 : UInt8) :: [])))))) v1))) []))) := by subst hv1; subst hv0; kernel_rfl
theorem ref_ImageText_w (l : List Int) (m : Nat) (K : V → List Blk → Prop) : goD Γ_ref_ImageText tab fn_ref_ImageText 0 K (m + 1) [.code (bodyOf fn_ref_ImageText)] (initSt [.one (.dat (Ty.list Ty.int) l)] []) = segD Γ_ref_ImageText tab fn_ref_ImageText 0 K (goD Γ_ref_ImageText tab fn_ref_ImageText 0 K m) [.code (bodyOf fn_ref_ImageText)] (initSt [.one (.dat (Ty.list Ty.int) l)] []) := rfl

set_option maxHeartbeats 4000000 in
theorem run_ref_ImageText (l : List Int) (hp : checkImage l = 0) (K : V → List Blk → Prop) (hK : K (.one (.dat .str (imageText l))) []) : ∃ m, goD Γ_ref_ImageText tab fn_ref_ImageText 0 K m [.code (bodyOf fn_ref_ImageText)] (initSt [.one (.dat (.list .int) l)] []) := by
  refine ⟨1, ?_⟩
  rw [ref_ImageText_w, ref_ImageText_vc _ _ _ _ rfl _ rfl]
  obtain ⟨h1, h2, h3⟩ := checkImage_ok hp
  have n1 := listT_len l
  exact ⟨⟨by simp only [len]; omega, nums_of_words h3⟩, by simp only [len, List.length_cons, List.length_nil]; omega, hK⟩
theorem sound_ref_ImageText : SoundC Tryd.prog tab n_ref_ImageText c_ref_ImageText := soundC_of ok_ref_ImageText hf_ref_ImageText hB_ref_ImageText (by
  intro vs bs p v bs' h hp
  unfold c_ref_ImageText at h
  split at h
  · cases h
    exact ⟨by kernel_rfl, rfl, .inl (run_ref_ImageText _ hp.1 _ ⟨rfl, rfl⟩)⟩
  · cases h)

def c_ref_Taken : Contract := fun vs bs => match vs, bs with
  | [.agg [.dat (.list .str) b], .one (.dat (.list .signed) l), .agg [.dat .int v, .dat (.list .int) ks, .dat .int t, .dat .int n], .agg [.dat (.list .root) rs, .dat (.list (.list .int)) rg, .dat .int ov, .dat .int ou, .dat (.list .target) ts, .dat (.list .int) sg, .dat (.list (.list .int)) im], .one (.dat .int now), .one (.dat .int units)], [] => some (none, .tup [.agg [.dat .int (takeT b l ⟨⟨v, ks, t⟩, n⟩ ⟨rs, rg, ⟨ov, ou, ts⟩, sg, im⟩ now units).1.r.version, .dat (.list .int) (takeT b l ⟨⟨v, ks, t⟩, n⟩ ⟨rs, rg, ⟨ov, ou, ts⟩, sg, im⟩ now units).1.r.keys, .dat .int (takeT b l ⟨⟨v, ks, t⟩, n⟩ ⟨rs, rg, ⟨ov, ou, ts⟩, sg, im⟩ now units).1.r.thr, .dat .int (takeT b l ⟨⟨v, ks, t⟩, n⟩ ⟨rs, rg, ⟨ov, ou, ts⟩, sg, im⟩ now units).1.version], .one (.dat .int (takeT b l ⟨⟨v, ks, t⟩, n⟩ ⟨rs, rg, ⟨ov, ou, ts⟩, sg, im⟩ now units).2)], [])
  | _, _ => none
def Γ_ref_Taken : Ctx := [(n_ref_Taken_1, c_ref_Taken_1), (n_ref_CheckTrust, c_ref_CheckTrust), (n_ref_Turned, c_ref_Turned), (n_ref_CheckRelease, c_ref_CheckRelease), (n_ref_CheckBook, c_ref_CheckBook), (n_ref_ReleaseText, c_ref_ReleaseText), (n_ref_NameOf, c_ref_NameOf), (n_ref_Counted, c_ref_Counted), (n_ref_CheckImage, c_ref_CheckImage), (n_ref_ImageText, c_ref_ImageText)]
theorem ok_ref_Taken : Ok Tryd.prog tab Γ_ref_Taken := ((((((((((ok_nil.consC hf_ref_ImageText hB_ref_ImageText sound_ref_ImageText).consC hf_ref_CheckImage hB_ref_CheckImage sound_ref_CheckImage).consC hf_ref_Counted hB_ref_Counted sound_ref_Counted).consC hf_ref_NameOf hB_ref_NameOf sound_ref_NameOf).consC hf_ref_ReleaseText hB_ref_ReleaseText sound_ref_ReleaseText).consC hf_ref_CheckBook hB_ref_CheckBook sound_ref_CheckBook).consC hf_ref_CheckRelease hB_ref_CheckRelease sound_ref_CheckRelease).consC hf_ref_Turned hB_ref_Turned sound_ref_Turned).consC hf_ref_CheckTrust hB_ref_CheckTrust sound_ref_CheckTrust).consC hf_ref_Taken_1 hB_ref_Taken_1 sound_ref_Taken_1)
noncomputable def ref_Taken_L0 : List It := [.inLoop [55, 54, 14, 13, 12, 9, 8, 6, 1, 4, 5] (Code.sub (bodyOf fn_ref_Taken) [1, 1, 1, 1, 0, 1, 0, 0]), .inBlock 0, .code (Code.sub (bodyOf fn_ref_Taken) [1, 1, 1, 1, 1])]
def ref_Taken_S0 (x0 : Int) (x1 : Int) (x2 : Int) (x3 : (List Vm.Signed)) (x4 : Int) (x5 : Int) (x6 : Int) (x7 : Int) (x8 : Int) (x9 : (List Vm.Root)) (x10 : (List (List Int))) (x11 : Int) (x12 : Int) (x13 : (List Vm.Target)) (x14 : (List Int)) (x15 : (List (List Int))) (x16 : Int) (x17 : (List Int)) (x18 : Int) (x19 : Int) (x20 : (List (List UInt8))) (x21 : (List Int)) : St := ⟨[(55, .one (.dat Ty.int x0)), (54, .one (.dat Ty.int x1)), (14, .one (.fn n_ref_Taken_1 [])), (13, .one (.dat Ty.int x2)), (12, .one (.ptr 0 0)), (9, .one (.ptr 1 0)), (8, .one (.ptr 2 0)), (6, .one (.ptr 3 0)), (1, .one (.dat (Ty.list Ty.signed) x3)), (4, .one (.dat Ty.int x4)), (5, .one (.dat Ty.int x5))], [(0, .box [.dat Ty.int x6, .own 4, .dat Ty.int x7, .dat Ty.int x8]), (1, .box [.dat (Ty.list Ty.root) x9, .dat (Ty.list (Ty.list Ty.int)) x10, .dat Ty.int x11, .dat Ty.int x12, .dat (Ty.list Ty.target) x13, .dat (Ty.list Ty.int) x14, .dat (Ty.list (Ty.list Ty.int)) x15]), (2, .box [.dat Ty.int x16, .dat (Ty.list Ty.int) x17, .dat Ty.int x18, .dat Ty.int x19]), (3, .box [.dat (Ty.list Ty.str) x20]), (4, .arr Ty.int x21)], 5⟩
noncomputable def ref_Taken_L1 : List It := [.inLoop [173, 172, 171, 14, 13, 12, 9, 8, 6] (Code.sub (bodyOf fn_ref_Taken) [1, 1, 1, 1, 1, 1, 1, 1, 1, 1, 1, 1, 1, 0, 1, 0, 0]), .inBlock 2, .code (Code.sub (bodyOf fn_ref_Taken) [1, 1, 1, 1, 1, 1, 1, 1, 1, 1, 1, 1, 1, 1])]
def ref_Taken_S1 (x0 : Int) (x1 : Int) (x2 : (List Vm.Target)) (x3 : Int) (x4 : Int) (x5 : Int) (x6 : Int) (x7 : (List Vm.Root)) (x8 : (List (List Int))) (x9 : Int) (x10 : Int) (x11 : (List Vm.Target)) (x12 : (List Int)) (x13 : (List (List Int))) (x14 : Int) (x15 : (List Int)) (x16 : Int) (x17 : Int) (x18 : (List (List UInt8))) (x19 : (List Int)) : St := ⟨[(173, .one (.dat Ty.int x0)), (172, .one (.dat Ty.int x1)), (171, .one (.dat (Ty.list Ty.target) x2)), (14, .one (.fn n_ref_Taken_1 [])), (13, .one (.dat Ty.int x3)), (12, .one (.ptr 0 0)), (9, .one (.ptr 1 0)), (8, .one (.ptr 2 0)), (6, .one (.ptr 3 0))], [(0, .box [.dat Ty.int x4, .own 4, .dat Ty.int x5, .dat Ty.int x6]), (1, .box [.dat (Ty.list Ty.root) x7, .dat (Ty.list (Ty.list Ty.int)) x8, .dat Ty.int x9, .dat Ty.int x10, .dat (Ty.list Ty.target) x11, .dat (Ty.list Ty.int) x12, .dat (Ty.list (Ty.list Ty.int)) x13]), (2, .box [.dat Ty.int x14, .dat (Ty.list Ty.int) x15, .dat Ty.int x16, .dat Ty.int x17]), (3, .box [.dat (Ty.list Ty.str) x18]), (4, .arr Ty.int x19)], 5⟩
theorem ref_Taken_vc (b : List (List UInt8)) (l : List Signed) (v : Int) (ks : List Int) (t : Int) (n : Int) (rs : List Root) (rg : List (List Int)) (ov : Int) (ou : Int) (ts : List Vm.Target) (sg : List Int) (im : List (List Int)) (now : Int) (units : Int) (rec : List It → St → Prop) (K : V → List Blk → Prop) v0 (hv0 : v0 = (checkTrust (⟨(⟨v, ks, t⟩ : Vm.Root), n⟩ : Vm.Trust))) : segD Γ_ref_Taken tab fn_ref_Taken 0 K rec [.code (bodyOf fn_ref_Taken)] (initSt [.agg [.dat (Ty.list Ty.str) b], .one (.dat (Ty.list Ty.signed) l), .agg [.dat Ty.int v, .dat (Ty.list Ty.int) ks, .dat Ty.int t, .dat Ty.int n], .agg [.dat (Ty.list Ty.root) rs, .dat (Ty.list (Ty.list Ty.int)) rg, .dat Ty.int ov, .dat Ty.int ou, .dat (Ty.list Ty.target) ts, .dat (Ty.list Ty.int) sg, .dat (Ty.list (Ty.list Ty.int)) im], .one (.dat Ty.int now), .one (.dat Ty.int units)] []) = (
    br (!(eqi v0 (0 : Int)))
     (K (.tup [.agg [.dat Ty.int (0 : Int), .dat (Ty.list Ty.int) [], .dat Ty.int (0 : Int), .dat Ty.int (0 : Int)], .one (.dat Ty.int v0)]) [])
     (br (lti (6 : Int) (((len rs) : Nat) : Int))
       (K (.tup [.agg [.dat Ty.int (0 : Int), .dat (Ty.list Ty.int) [], .dat Ty.int (0 : Int), .dat Ty.int (0 : Int)], .one (.dat Ty.int (2 : Int))]) [])
       (br (!(eqi (((len rg) : Nat) : Int) (((len rs) : Nat) : Int)))
         (K (.tup [.agg [.dat Ty.int (0 : Int), .dat (Ty.list Ty.int) [], .dat Ty.int (0 : Int), .dat Ty.int (0 : Int)], .one (.dat Ty.int (2 : Int))]) [])
         (rec ref_Taken_L0 (ref_Taken_S0 (0 : Int) (((len rs) : Nat) : Int) (0 : Int) l now units (0 : Int) (0 : Int) (0 : Int) rs rg ov ou ts sg im v ks t n b []))))) := by subst hv0; kernel_rfl
theorem ref_Taken_w (b : List (List UInt8)) (l : List Signed) (v : Int) (ks : List Int) (t : Int) (n : Int) (rs : List Root) (rg : List (List Int)) (ov : Int) (ou : Int) (ts : List Vm.Target) (sg : List Int) (im : List (List Int)) (now : Int) (units : Int) (m : Nat) (K : V → List Blk → Prop) : goD Γ_ref_Taken tab fn_ref_Taken 0 K (m + 1) [.code (bodyOf fn_ref_Taken)] (initSt [.agg [.dat (Ty.list Ty.str) b], .one (.dat (Ty.list Ty.signed) l), .agg [.dat Ty.int v, .dat (Ty.list Ty.int) ks, .dat Ty.int t, .dat Ty.int n], .agg [.dat (Ty.list Ty.root) rs, .dat (Ty.list (Ty.list Ty.int)) rg, .dat Ty.int ov, .dat Ty.int ou, .dat (Ty.list Ty.target) ts, .dat (Ty.list Ty.int) sg, .dat (Ty.list (Ty.list Ty.int)) im], .one (.dat Ty.int now), .one (.dat Ty.int units)] []) = segD Γ_ref_Taken tab fn_ref_Taken 0 K (goD Γ_ref_Taken tab fn_ref_Taken 0 K m) [.code (bodyOf fn_ref_Taken)] (initSt [.agg [.dat (Ty.list Ty.str) b], .one (.dat (Ty.list Ty.signed) l), .agg [.dat Ty.int v, .dat (Ty.list Ty.int) ks, .dat Ty.int t, .dat Ty.int n], .agg [.dat (Ty.list Ty.root) rs, .dat (Ty.list (Ty.list Ty.int)) rg, .dat Ty.int ov, .dat Ty.int ou, .dat (Ty.list Ty.target) ts, .dat (Ty.list Ty.int) sg, .dat (Ty.list (Ty.list Ty.int)) im], .one (.dat Ty.int now), .one (.dat Ty.int units)] []) := rfl
theorem ref_Taken_vc0 (x0 : Int) (x1 : Int) (x2 : Int) (x3 : (List Vm.Signed)) (x4 : Int) (x5 : Int) (x6 : Int) (x7 : Int) (x8 : Int) (x9 : (List Vm.Root)) (x10 : (List (List Int))) (x11 : Int) (x12 : Int) (x13 : (List Vm.Target)) (x14 : (List Int)) (x15 : (List (List Int))) (x16 : Int) (x17 : (List Int)) (x18 : Int) (x19 : Int) (x20 : (List (List UInt8))) (x21 : (List Int)) (rec : List It → St → Prop) (K : V → List Blk → Prop) v0 (hv0 : v0 = (turnT x20 x3 (⟨(⟨x16, x17, x18⟩ : Vm.Root), x19⟩ : Vm.Trust) (⟨((nth x9 (Int.toNat x0) (Ty.dflt Ty.root))).version, ((nth x9 (Int.toNat x0) (Ty.dflt Ty.root))).keys, ((nth x9 (Int.toNat x0) (Ty.dflt Ty.root))).thr⟩ : Vm.Root) (nth x10 (Int.toNat x0) (Ty.dflt (Ty.list Ty.int))))) v1 (hv1 : v1 = (checkRelease x11 x12 x13)) v2 (hv2 : v2 = (checkBook x20)) v3 (hv3 : v3 = (releaseText x11 x12 x13)) v4 (hv4 : v4 = (indexS v3 x20)) v5 (hv5 : v5 = (countT x3 (⟨x16, x17, x18⟩ : Vm.Root) x14 (v4 + (1 : Int)))) : segD Γ_ref_Taken tab fn_ref_Taken 0 K rec (.code (Code.sub (bodyOf fn_ref_Taken) [1, 1, 1, 1, 0, 1, 0, 0]) :: ref_Taken_L0) (ref_Taken_S0 x0 x1 x2 x3 x4 x5 x6 x7 x8 x9 x10 x11 x12 x13 x14 x15 x16 x17 x18 x19 x20 x21) = (
    br (lti x0 x1)
     ((((0 : Int) ≤ x0) ∧ (x0 < (((len x9) : Nat) : Int))) ∧
      ((((0 : Int) ≤ x0) ∧ (x0 < (((len x10) : Nat) : Int))) ∧
      (br (!(eqi (v0).snd (0 : Int)))
       (K (.tup [.agg [.dat Ty.int (0 : Int), .dat (Ty.list Ty.int) [], .dat Ty.int (0 : Int), .dat Ty.int (0 : Int)], .one (.dat Ty.int (v0).snd)]) [])
       (rec ref_Taken_L0 (ref_Taken_S0 (w64 (x0 + (1 : Int))) x1 x2 x3 x4 x5 x6 x7 x8 x9 x10 x11 x12 x13 x14 x15 (((v0).fst).r).version (((v0).fst).r).keys (((v0).fst).r).thr ((v0).fst).version x20 x21)))))
     (br (!(eqi v1 (0 : Int)))
       (K (.tup [.agg [.dat Ty.int (0 : Int), .dat (Ty.list Ty.int) [], .dat Ty.int (0 : Int), .dat Ty.int (0 : Int)], .one (.dat Ty.int v1)]) [])
       (br (!(eqi v2 (0 : Int)))
         (K (.tup [.agg [.dat Ty.int (0 : Int), .dat (Ty.list Ty.int) [], .dat Ty.int (0 : Int), .dat Ty.int (0 : Int)], .one (.dat Ty.int v2)]) [])
         ((v1 = (0 : Int)) ∧
          (((List.length x20) ≤ 60) ∧
          (br (!(eqi (v5).snd (0 : Int)))
           (K (.tup [.agg [.dat Ty.int (0 : Int), .dat (Ty.list Ty.int) [], .dat Ty.int (0 : Int), .dat Ty.int (0 : Int)], .one (.dat Ty.int (v5).snd)]) [])
           (br (lti (v5).fst x18)
             (K (.tup [.agg [.dat Ty.int (0 : Int), .dat (Ty.list Ty.int) [], .dat Ty.int (0 : Int), .dat Ty.int (0 : Int)], .one (.dat Ty.int (9 : Int))]) [])
             (br (lei x11 x19)
               (K (.tup [.agg [.dat Ty.int (0 : Int), .dat (Ty.list Ty.int) [], .dat Ty.int (0 : Int), .dat Ty.int (0 : Int)], .one (.dat Ty.int (10 : Int))]) [])
               (br (lti x12 x4)
                 (K (.tup [.agg [.dat Ty.int (0 : Int), .dat (Ty.list Ty.int) [], .dat Ty.int (0 : Int), .dat Ty.int (0 : Int)], .one (.dat Ty.int (11 : Int))]) [])
                 (br (!(eqi (((len x13) : Nat) : Int) x5))
                   (K (.tup [.agg [.dat Ty.int (0 : Int), .dat (Ty.list Ty.int) [], .dat Ty.int (0 : Int), .dat Ty.int (0 : Int)], .one (.dat Ty.int (4 : Int))]) [])
                   (br (!(eqi (((len x15) : Nat) : Int) x5))
                     (K (.tup [.agg [.dat Ty.int (0 : Int), .dat (Ty.list Ty.int) [], .dat Ty.int (0 : Int), .dat Ty.int (0 : Int)], .one (.dat Ty.int (4 : Int))]) [])
                     (rec ref_Taken_L1 (ref_Taken_S1 (0 : Int) (((len x13) : Nat) : Int) x13 x2 x6 x7 x8 x9 x10 x11 x12 x13 x14 x15 x16 x17 x18 x19 x20 x21))))))))))))) := by subst hv5; subst hv4; subst hv3; subst hv2; subst hv1; subst hv0; kernel_rfl
theorem ref_Taken_w0 (x0 : Int) (x1 : Int) (x2 : Int) (x3 : (List Vm.Signed)) (x4 : Int) (x5 : Int) (x6 : Int) (x7 : Int) (x8 : Int) (x9 : (List Vm.Root)) (x10 : (List (List Int))) (x11 : Int) (x12 : Int) (x13 : (List Vm.Target)) (x14 : (List Int)) (x15 : (List (List Int))) (x16 : Int) (x17 : (List Int)) (x18 : Int) (x19 : Int) (x20 : (List (List UInt8))) (x21 : (List Int)) (m : Nat) (K : V → List Blk → Prop) : goD Γ_ref_Taken tab fn_ref_Taken 0 K (m + 1) ref_Taken_L0 (ref_Taken_S0 x0 x1 x2 x3 x4 x5 x6 x7 x8 x9 x10 x11 x12 x13 x14 x15 x16 x17 x18 x19 x20 x21) = segD Γ_ref_Taken tab fn_ref_Taken 0 K (goD Γ_ref_Taken tab fn_ref_Taken 0 K m) (.code (Code.sub (bodyOf fn_ref_Taken) [1, 1, 1, 1, 0, 1, 0, 0]) :: ref_Taken_L0) (ref_Taken_S0 x0 x1 x2 x3 x4 x5 x6 x7 x8 x9 x10 x11 x12 x13 x14 x15 x16 x17 x18 x19 x20 x21) := rfl
theorem ref_Taken_vc1 (x0 : Int) (x1 : Int) (x2 : (List Vm.Target)) (x3 : Int) (x4 : Int) (x5 : Int) (x6 : Int) (x7 : (List Vm.Root)) (x8 : (List (List Int))) (x9 : Int) (x10 : Int) (x11 : (List Vm.Target)) (x12 : (List Int)) (x13 : (List (List Int))) (x14 : Int) (x15 : (List Int)) (x16 : Int) (x17 : Int) (x18 : (List (List UInt8))) (x19 : (List Int)) (rec : List It → St → Prop) (K : V → List Blk → Prop) v0 (hv0 : v0 = (checkImage (nth x13 (Int.toNat x0) (Ty.dflt (Ty.list Ty.int))))) v1 (hv1 : v1 = (imageText (nth x13 (Int.toNat x0) (Ty.dflt (Ty.list Ty.int))))) v2 (hv2 : v2 = (indexS v1 x18)) : segD Γ_ref_Taken tab fn_ref_Taken 0 K rec (.code (Code.sub (bodyOf fn_ref_Taken) [1, 1, 1, 1, 1, 1, 1, 1, 1, 1, 1, 1, 1, 0, 1, 0, 0]) :: ref_Taken_L1) (ref_Taken_S1 x0 x1 x2 x3 x4 x5 x6 x7 x8 x9 x10 x11 x12 x13 x14 x15 x16 x17 x18 x19) = (
    br (lti x0 x1)
     ((((0 : Int) ≤ x0) ∧ (x0 < (((len x2) : Nat) : Int))) ∧
      ((((0 : Int) ≤ x0) ∧ (x0 < (((len x13) : Nat) : Int))) ∧
      (br (!(eqi v0 (0 : Int)))
       (K (.tup [.agg [.dat Ty.int (0 : Int), .dat (Ty.list Ty.int) [], .dat Ty.int (0 : Int), .dat Ty.int (0 : Int)], .one (.dat Ty.int (5 : Int))]) [])
       (br (!(eqi (((len (nth x13 (Int.toNat x0) (Ty.dflt (Ty.list Ty.int)))) : Nat) : Int) ((nth x2 (Int.toNat x0) (Ty.dflt Ty.target))).long))
         (K (.tup [.agg [.dat Ty.int (0 : Int), .dat (Ty.list Ty.int) [], .dat Ty.int (0 : Int), .dat Ty.int (0 : Int)], .one (.dat Ty.int (5 : Int))]) [])
         ((v0 = (0 : Int)) ∧
          (((List.length x18) ≤ 60) ∧
          (br (!(eqi (v2 + (1 : Int)) ((nth x2 (Int.toNat x0) (Ty.dflt Ty.target))).image))
           (K (.tup [.agg [.dat Ty.int (0 : Int), .dat (Ty.list Ty.int) [], .dat Ty.int (0 : Int), .dat Ty.int (0 : Int)], .one (.dat Ty.int (5 : Int))]) [])
           (rec ref_Taken_L1 (ref_Taken_S1 (w64 (x0 + (1 : Int))) x1 x2 x3 x4 x5 x6 x7 x8 x9 x10 x11 x12 x13 x14 x15 x16 x17 x18 x19)))))))))
     (K (.tup [.agg [.dat Ty.int x14, .dat (Ty.list Ty.int) x15, .dat Ty.int x16, .dat Ty.int x9], .one (.dat Ty.int (0 : Int))]) [])) := by subst hv2; subst hv1; subst hv0; kernel_rfl
theorem ref_Taken_w1 (x0 : Int) (x1 : Int) (x2 : (List Vm.Target)) (x3 : Int) (x4 : Int) (x5 : Int) (x6 : Int) (x7 : (List Vm.Root)) (x8 : (List (List Int))) (x9 : Int) (x10 : Int) (x11 : (List Vm.Target)) (x12 : (List Int)) (x13 : (List (List Int))) (x14 : Int) (x15 : (List Int)) (x16 : Int) (x17 : Int) (x18 : (List (List UInt8))) (x19 : (List Int)) (m : Nat) (K : V → List Blk → Prop) : goD Γ_ref_Taken tab fn_ref_Taken 0 K (m + 1) ref_Taken_L1 (ref_Taken_S1 x0 x1 x2 x3 x4 x5 x6 x7 x8 x9 x10 x11 x12 x13 x14 x15 x16 x17 x18 x19) = segD Γ_ref_Taken tab fn_ref_Taken 0 K (goD Γ_ref_Taken tab fn_ref_Taken 0 K m) (.code (Code.sub (bodyOf fn_ref_Taken) [1, 1, 1, 1, 1, 1, 1, 1, 1, 1, 1, 1, 1, 0, 1, 0, 0]) :: ref_Taken_L1) (ref_Taken_S1 x0 x1 x2 x3 x4 x5 x6 x7 x8 x9 x10 x11 x12 x13 x14 x15 x16 x17 x18 x19) := rfl

theorem loop1_ref_Taken (b : List (List UInt8)) (hb : b.length ≤ 60) (hb0 : checkBook b = 0) (ts : List Vm.Target) (im : List (List Int)) (hl : ts.length ≤ 4) (hi : im.length = ts.length) (K : V → List Blk → Prop) (x3 x4 x5 x6 : Int) (rs : List Vm.Root) (rg : List (List Int)) (ov ou : Int) (sg : List Int) (v : Int) (ks : List Int) (t n : Int) (x19 : List Int) : ∀ (d k : Nat), k + d = ts.length →
    (okImages b (ts.drop k) (im.drop k) = true → K (.tup [.agg [.dat .int v, .dat (.list .int) ks, .dat .int t, .dat .int ov], .one (.dat .int 0)]) []) →
    (okImages b (ts.drop k) (im.drop k) = false → K (.tup [.agg [.dat .int 0, .dat (.list .int) [], .dat .int 0, .dat .int 0], .one (.dat .int 5)]) []) →
    goD Γ_ref_Taken tab fn_ref_Taken 0 K (d + 1) ref_Taken_L1 (ref_Taken_S1 (k : Int) (((len ts) : Nat) : Int) ts x3 x4 x5 x6 rs rg ov ou ts sg im v ks t n b x19)
  | 0, k, hk', hT, hF => by
    rw [ref_Taken_w1, ref_Taken_vc1 _ _ _ _ _ _ _ _ _ _ _ _ _ _ _ _ _ _ _ _ _ _ _ rfl _ rfl _ rfl]
    rw [List.drop_of_length_le (by omega)] at hT
    exact lt_f (by simp only [len]; omega) (hT rfl)
  | d + 1, k, hk', hT, hF => by
    rw [ref_Taken_w1, ref_Taken_vc1 _ _ _ _ _ _ _ _ _ _ _ _ _ _ _ _ _ _ _ _ _ _ _ rfl _ rfl _ rfl, toNat_nat]
    rw [drop_step (l := ts) (by omega) (Ty.dflt Ty.target), drop_step (l := im) (by omega) (Ty.dflt (Ty.list Ty.int))] at hT hF
    obtain ⟨x, hx⟩ : ∃ x, nth ts k (Ty.dflt Ty.target) = x := ⟨_, rfl⟩
    obtain ⟨w, hw⟩ : ∃ w, nth im k (Ty.dflt (Ty.list Ty.int)) = w := ⟨_, rfl⟩
    rw [hx, hw] at hT hF ⊢
    simp only [okImages, List.headD_cons, List.tail_cons] at hT hF
    have five : okImage b x w = false → K (.tup [.agg [.dat .int 0, .dat (.list .int) [], .dat .int 0, .dat .int 0], .one (.dat .int 5)]) [] := fun h => hF (by rw [h]; rfl)
    have ek : w64 ((k : Int) + 1) = ((k + 1 : Nat) : Int) := w64_succ (by omega)
    rw [ek]
    refine lt_t (by simp only [len]; omega) ⟨⟨by omega, by simp only [len]; omega⟩, ⟨by omega, by simp only [len]; omega⟩, ne_s (fun h => five ?_) (fun h => ?_)⟩
    · have : (imageName b w).2 = checkImage w := by unfold imageName; rw [if_neg h]
      simp [okImage, this, h]
    have e1 : imageName b w = (indexS (imageText w) b + 1, 0) := by unfold imageName; rw [if_pos h]; exact if_pos hb0
    refine ne_s (fun h2 => five ?_) (fun h2 => ⟨h, hb, ne_s (fun h3 => five ?_) (fun h3 => ?_)⟩)
    · simp only [okImage, Bool.and_eq_false_iff, decide_eq_false_iff_not]; exact .inr h2
    · simp [okImage, e1, h3]
    · have ok : okImage b x w = true := by
        simp only [okImage, e1, Bool.and_eq_true, decide_eq_true_eq]; exact ⟨⟨trivial, h3⟩, h2⟩
      rw [ok] at hT hF
      exact loop1_ref_Taken b hb hb0 ts im hl hi K x3 x4 x5 x6 rs rg ov ou sg v ks t n x19 d (k + 1) (by omega) (fun g => hT (by rw [g]; rfl)) (fun g => hF (by rw [g]; rfl))
theorem loop_ref_Taken (b : List (List UInt8)) (l : List Vm.Signed) (rs : List Vm.Root) (rg : List (List Int)) (ov ou : Int) (ts : List Vm.Target) (sg : List Int) (im : List (List Int)) (now units : Int) (hr : rs.length ≤ 6) (hg : rg.length = rs.length) (K : V → List Blk → Prop) (x2 x6 x7 x8 : Int) (x21 : List Int) : ∀ (d k : Nat) (v : Int) (ks : List Int) (t n : Int), k + d = rs.length →
    K (.tup [.agg [.dat .int (takeEnd b l ⟨rs, rg, ⟨ov, ou, ts⟩, sg, im⟩ now units (rootsT b l ⟨⟨v, ks, t⟩, n⟩ (rs.drop k) (rg.drop k))).1.r.version, .dat (.list .int) (takeEnd b l ⟨rs, rg, ⟨ov, ou, ts⟩, sg, im⟩ now units (rootsT b l ⟨⟨v, ks, t⟩, n⟩ (rs.drop k) (rg.drop k))).1.r.keys, .dat .int (takeEnd b l ⟨rs, rg, ⟨ov, ou, ts⟩, sg, im⟩ now units (rootsT b l ⟨⟨v, ks, t⟩, n⟩ (rs.drop k) (rg.drop k))).1.r.thr, .dat .int (takeEnd b l ⟨rs, rg, ⟨ov, ou, ts⟩, sg, im⟩ now units (rootsT b l ⟨⟨v, ks, t⟩, n⟩ (rs.drop k) (rg.drop k))).1.version], .one (.dat .int (takeEnd b l ⟨rs, rg, ⟨ov, ou, ts⟩, sg, im⟩ now units (rootsT b l ⟨⟨v, ks, t⟩, n⟩ (rs.drop k) (rg.drop k))).2)]) [] →
    goD Γ_ref_Taken tab fn_ref_Taken 0 K ((ts.length + 1) + d + 1) ref_Taken_L0 (ref_Taken_S0 (k : Int) (((len rs) : Nat) : Int) x2 l now units x6 x7 x8 rs rg ov ou ts sg im v ks t n b x21)
  | 0, k, v, ks, t, n, hk, hK => by
    rw [ref_Taken_w0, ref_Taken_vc0 _ _ _ _ _ _ _ _ _ _ _ _ _ _ _ _ _ _ _ _ _ _ _ _ _ rfl _ rfl _ rfl _ rfl _ rfl _ rfl]
    rw [List.drop_of_length_le (by omega)] at hK
    refine lt_f (by simp only [len]; omega) ?_
    have e0 : takeEnd b l ⟨rs, rg, ⟨ov, ou, ts⟩, sg, im⟩ now units (rootsT b l ⟨⟨v, ks, t⟩, n⟩ [] (rg.drop k)) = if relE b l ⟨⟨v, ks, t⟩, n⟩ ⟨rs, rg, ⟨ov, ou, ts⟩, sg, im⟩ now units = 0 then (⟨⟨v, ks, t⟩, ov⟩, 0) else (noTrust, relE b l ⟨⟨v, ks, t⟩, n⟩ ⟨rs, rg, ⟨ov, ou, ts⟩, sg, im⟩ now units) := rfl
    rw [e0] at hK
    have bad : ∀ e : Int, e ≠ 0 → relE b l ⟨⟨v, ks, t⟩, n⟩ ⟨rs, rg, ⟨ov, ou, ts⟩, sg, im⟩ now units = e → K (.tup [.agg [.dat .int 0, .dat (.list .int) [], .dat .int 0, .dat .int 0], .one (.dat .int e)]) [] := fun e he h => by
      rw [if_neg (by rw [h]; exact he), h] at hK; exact hK
    have good : relE b l ⟨⟨v, ks, t⟩, n⟩ ⟨rs, rg, ⟨ov, ou, ts⟩, sg, im⟩ now units = 0 → K (.tup [.agg [.dat .int v, .dat (.list .int) ks, .dat .int t, .dat .int ov], .one (.dat .int 0)]) [] := fun h => by
      rw [if_pos h] at hK; exact hK
    clear hK e0
    refine ne_s (fun h2 => bad _ h2 (if_neg h2)) (fun c2 => ?_)
    have E2 : relE b l ⟨⟨v, ks, t⟩, n⟩ ⟨rs, rg, ⟨ov, ou, ts⟩, sg, im⟩ now units = _ := if_pos c2
    refine ne_s (fun h3 => bad _ h3 (E2.trans (if_neg h3))) (fun c3 => ⟨c2, checkBook_ok c3, ?_⟩)
    have E3 := E2.trans (if_pos c3)
    obtain ⟨q1, q2, q3, q4, q5, q6, _⟩ := checkRelease_ok c2
    refine ne_s (fun g => ?_) (fun g => lt_s (fun g2 => ?_) (fun g2 => ?_))
    · have e : enough l ⟨v, ks, t⟩ sg (indexS (releaseText ov ou ts) b + 1) = (countT l ⟨v, ks, t⟩ sg (indexS (releaseText ov ou ts) b + 1)).2 := if_neg g
      exact bad _ g ((E3.trans (if_neg (by rw [e]; exact g))).trans e)
    · have e : enough l ⟨v, ks, t⟩ sg (indexS (releaseText ov ou ts) b + 1) = 9 := by unfold enough; rw [if_pos g, if_pos g2]
      exact bad _ (by decide) ((E3.trans (if_neg (by rw [e]; decide))).trans e)
    have e : enough l ⟨v, ks, t⟩ sg (indexS (releaseText ov ou ts) b + 1) = 0 := by unfold enough; rw [if_pos g, if_neg (by simp only; omega)]
    have E4 := E3.trans (if_pos e)
    simp only at E4
    refine br_split (fun h5 => ?_) (fun h5 => ?_)
    · rw [lei_true] at h5
      exact bad _ (by decide) (E4.trans (if_pos h5))
    rw [lei_false] at h5
    have E5 := E4.trans (if_neg (by omega))
    refine lt_s (fun h6 => bad _ (by decide) (E5.trans (if_pos h6))) (fun h6 => ?_)
    have E6 := E5.trans (if_neg (by omega))
    refine ne_s (fun h7 => bad _ (by decide) (E6.trans (if_pos (.inl h7)))) (fun h7 => ne_s (fun h8 => bad _ (by decide) (E6.trans (if_pos (.inr h8)))) (fun h8 => ?_))
    have E7 := E6.trans (if_neg (by simp only [len] at h7 h8; omega))
    exact loop1_ref_Taken b (checkBook_ok c3) c3 ts im q6 (by simp only [len] at h7 h8; omega) K x2 x6 x7 x8 rs rg ov ou sg v ks t n x21 ts.length 0 (by omega) (fun g => good (E7.trans (if_pos g))) (fun g => bad 5 (by decide) (E7.trans (if_neg (by rw [show okImages b ts im = false from g]; simp))))
  | d + 1, k, v, ks, t, n, hk, hK => by
    rw [show ts.length + 1 + (d + 1) + 1 = (ts.length + 1 + d + 1) + 1 by omega, ref_Taken_w0, ref_Taken_vc0 _ _ _ _ _ _ _ _ _ _ _ _ _ _ _ _ _ _ _ _ _ _ _ _ _ rfl _ rfl _ rfl _ rfl _ rfl _ rfl, toNat_nat]
    rw [drop_step (l := rs) (by omega) (Ty.dflt Ty.root), drop_step (l := rg) (by omega) (Ty.dflt (Ty.list Ty.int))] at hK
    obtain ⟨x, hx⟩ : ∃ x, nth rs k (Ty.dflt Ty.root) = x := ⟨_, rfl⟩
    obtain ⟨w, hw⟩ : ∃ w, nth rg k (Ty.dflt (Ty.list Ty.int)) = w := ⟨_, rfl⟩
    rw [hx, hw] at hK ⊢
    have ek : w64 ((k : Int) + 1) = ((k + 1 : Nat) : Int) := w64_succ (by omega)
    rw [ek]
    have ex : (⟨x.version, x.keys, x.thr⟩ : Vm.Root) = x := rfl
    rw [ex]
    refine lt_t (by simp only [len]; omega) ⟨⟨by omega, by simp only [len]; omega⟩, ⟨by omega, by simp only [len]; omega⟩, ne_s (fun h => ?_) (fun h => ?_)⟩
    · rw [show rootsT b l ⟨⟨v, ks, t⟩, n⟩ (x :: rs.drop (k + 1)) (w :: rg.drop (k + 1)) = (noTrust, (turnT b l ⟨⟨v, ks, t⟩, n⟩ x w).2) from if_neg h] at hK
      have e : takeEnd b l ⟨rs, rg, ⟨ov, ou, ts⟩, sg, im⟩ now units (noTrust, (turnT b l ⟨⟨v, ks, t⟩, n⟩ x w).2) = (noTrust, (turnT b l ⟨⟨v, ks, t⟩, n⟩ x w).2) := if_neg h
      rw [e] at hK; exact hK
    · rw [show rootsT b l ⟨⟨v, ks, t⟩, n⟩ (x :: rs.drop (k + 1)) (w :: rg.drop (k + 1)) = rootsT b l (turnT b l ⟨⟨v, ks, t⟩, n⟩ x w).1 (rs.drop (k + 1)) (rg.drop (k + 1)) from if_pos h] at hK
      exact loop_ref_Taken b l rs rg ov ou ts sg im now units hr hg K x2 x6 x7 x8 x21 d (k + 1) _ _ _ _ (by omega) hK
set_option maxHeartbeats 4000000 in
theorem run_ref_Taken (b : List (List UInt8)) (l : List Vm.Signed) (v : Int) (ks : List Int) (t n : Int) (rs : List Vm.Root) (rg : List (List Int)) (ov ou : Int) (ts : List Vm.Target) (sg : List Int) (im : List (List Int)) (now units : Int) (K : V → List Blk → Prop) (hK : K (.tup [.agg [.dat .int (takeT b l ⟨⟨v, ks, t⟩, n⟩ ⟨rs, rg, ⟨ov, ou, ts⟩, sg, im⟩ now units).1.r.version, .dat (.list .int) (takeT b l ⟨⟨v, ks, t⟩, n⟩ ⟨rs, rg, ⟨ov, ou, ts⟩, sg, im⟩ now units).1.r.keys, .dat .int (takeT b l ⟨⟨v, ks, t⟩, n⟩ ⟨rs, rg, ⟨ov, ou, ts⟩, sg, im⟩ now units).1.r.thr, .dat .int (takeT b l ⟨⟨v, ks, t⟩, n⟩ ⟨rs, rg, ⟨ov, ou, ts⟩, sg, im⟩ now units).1.version], .one (.dat .int (takeT b l ⟨⟨v, ks, t⟩, n⟩ ⟨rs, rg, ⟨ov, ou, ts⟩, sg, im⟩ now units).2)]) []) : ∃ m, goD Γ_ref_Taken tab fn_ref_Taken 0 K m [.code (bodyOf fn_ref_Taken)] (initSt [.agg [.dat (.list .str) b], .one (.dat (.list .signed) l), .agg [.dat .int v, .dat (.list .int) ks, .dat .int t, .dat .int n], .agg [.dat (.list .root) rs, .dat (.list (.list .int)) rg, .dat .int ov, .dat .int ou, .dat (.list .target) ts, .dat (.list .int) sg, .dat (.list (.list .int)) im], .one (.dat .int now), .one (.dat .int units)] []) := by
  refine ⟨ts.length + 1 + rs.length + 1 + 1, ?_⟩
  rw [ref_Taken_w, ref_Taken_vc _ _ _ _ _ _ _ _ _ _ _ _ _ _ _ _ _ _ rfl]
  unfold takeT at hK
  simp only at hK
  refine ne_s (fun h => ?_) (fun h => lt_s (fun h2 => ?_) (fun h2 => ne_s (fun h3 => ?_) (fun h3 => ?_)))
  · rw [if_neg h] at hK; exact hK
  · rw [if_pos h, if_pos (.inl (by simp only [len] at h2; omega))] at hK; exact hK
  · rw [if_pos h, if_pos (.inr (by simp only [len] at h3; omega))] at hK; exact hK
  · rw [if_pos h, if_neg (by simp only [len] at h2 h3; omega)] at hK
    exact loop_ref_Taken b l rs rg ov ou ts sg im now units (by simp only [len] at h2; omega) (by simp only [len] at h3; omega) K 0 0 0 0 [] rs.length 0 v ks t n (by omega) hK
theorem sound_ref_Taken : SoundC Tryd.prog tab n_ref_Taken c_ref_Taken := soundC_of ok_ref_Taken hf_ref_Taken hB_ref_Taken (by
  intro vs bs p v bs' h hp
  unfold c_ref_Taken at h
  split at h
  · cases h
    exact ⟨by kernel_rfl, rfl, .inl (run_ref_Taken _ _ _ _ _ _ _ _ _ _ _ _ _ _ _ _ ⟨rfl, rfl⟩)⟩
  · cases h)

def c_law_simple : Contract := fun vs bs => match vs, bs with
  | [], [] => some (none, .tup [.agg [.dat (.list .str) simpleB], .one (.dat (.list .signed) simpleL), .agg [.dat .int 1, .dat (.list .int) [3], .dat .int 1, .dat .int 0], .agg [.dat (.list .root) [], .dat (.list (.list .int)) [], .dat .int 1, .dat .int 5, .dat (.list .target) [⟨0, 2, 2⟩], .dat (.list .int) [3], .dat (.list (.list .int)) [[8, 8]]]], [])
  | _, _ => none
def Γ_law_simple : Ctx := []
theorem ok_law_simple : Ok Tryd.prog tab Γ_law_simple := ok_nil
theorem law_simple_vc (rec : List It → St → Prop) (K : V → List Blk → Prop) : segD Γ_law_simple tab fn_law_simple 0 K rec [.code (bodyOf fn_law_simple)] (initSt [] []) = (
    K (.tup [.agg [.dat (Ty.list Ty.str) (((105 : UInt8) :: ((109 : UInt8) :: ((97 : UInt8) :: ((103 : UInt8) :: ((101 : UInt8) :: ((32 : UInt8) :: ((55 : UInt8) :: []))))))) :: (((105 : UInt8) :: ((109 : UInt8) :: ((97 : UInt8) :: ((103 : UInt8) :: ((101 : UInt8) :: ((32 : UInt8) :: ((56 : UInt8) :: ((32 : UInt8) :: ((56 : UInt8) :: []))))))))) :: (((114 : UInt8) :: ((101 : UInt8) :: ((108 : UInt8) :: ((101 : UInt8) :: ((97 : UInt8) :: ((115 : UInt8) :: ((101 : UInt8) :: ((32 : UInt8) :: ((49 : UInt8) :: ((32 : UInt8) :: ((117 : UInt8) :: ((110 : UInt8) :: ((116 : UInt8) :: ((105 : UInt8) :: ((108 : UInt8) :: ((32 : UInt8) :: ((53 : UInt8) :: ((59 : UInt8) :: ((32 : UInt8) :: ((48 : UInt8) :: ((32 : UInt8) :: ((50 : UInt8) :: ((32 : UInt8) :: ((50 : UInt8) :: [])))))))))))))))))))))))) :: (((114 : UInt8) :: ((111 : UInt8) :: ((111 : UInt8) :: ((116 : UInt8) :: ((32 : UInt8) :: ((50 : UInt8) :: ((32 : UInt8) :: ((49 : UInt8) :: ((32 : UInt8) :: ((111 : UInt8) :: ((102 : UInt8) :: ((32 : UInt8) :: ((52 : UInt8) :: []))))))))))))) :: []))))], .one (.dat (Ty.list Ty.signed) ((⟨(3 : Int), (3 : Int)⟩ : Vm.Signed) :: ((⟨(3 : Int), (4 : Int)⟩ : Vm.Signed) :: ((⟨(4 : Int), (4 : Int)⟩ : Vm.Signed) :: ((⟨(4 : Int), (3 : Int)⟩ : Vm.Signed) :: []))))), .agg [.dat Ty.int (1 : Int), .dat (Ty.list Ty.int) ((3 : Int) :: []), .dat Ty.int (1 : Int), .dat Ty.int (0 : Int)], .agg [.dat (Ty.list Ty.root) [], .dat (Ty.list (Ty.list Ty.int)) [], .dat Ty.int (1 : Int), .dat Ty.int (5 : Int), .dat (Ty.list Ty.target) ((⟨(0 : Int), (2 : Int), (2 : Int)⟩ : Vm.Target) :: []), .dat (Ty.list Ty.int) ((3 : Int) :: []), .dat (Ty.list (Ty.list Ty.int)) (((8 : Int) :: ((8 : Int) :: [])) :: [])]]) []) := by kernel_rfl
theorem law_simple_w (m : Nat) (K : V → List Blk → Prop) : goD Γ_law_simple tab fn_law_simple 0 K (m + 1) [.code (bodyOf fn_law_simple)] (initSt [] []) = segD Γ_law_simple tab fn_law_simple 0 K (goD Γ_law_simple tab fn_law_simple 0 K m) [.code (bodyOf fn_law_simple)] (initSt [] []) := rfl

set_option maxHeartbeats 4000000 in
theorem run_law_simple  (K : V → List Blk → Prop) (hK : K (.tup [.agg [.dat (.list .str) simpleB], .one (.dat (.list .signed) simpleL), .agg [.dat .int 1, .dat (.list .int) [3], .dat .int 1, .dat .int 0], .agg [.dat (.list .root) [], .dat (.list (.list .int)) [], .dat .int 1, .dat .int 5, .dat (.list .target) [⟨0, 2, 2⟩], .dat (.list .int) [3], .dat (.list (.list .int)) [[8, 8]]]]) []) : ∃ m, goD Γ_law_simple tab fn_law_simple 0 K m [.code (bodyOf fn_law_simple)] (initSt [] []) := by
  refine ⟨1, ?_⟩
  rw [law_simple_w, law_simple_vc _ _]
  exact hK
theorem sound_law_simple : SoundC Tryd.prog tab n_law_simple c_law_simple := soundC_of ok_law_simple hf_law_simple hB_law_simple (by
  intro vs bs p v bs' h hp
  unfold c_law_simple at h
  split at h
  · cases h
    exact ⟨by kernel_rfl, rfl, .inl (run_law_simple  _ ⟨rfl, rfl⟩)⟩
  · cases h)

def c_law_trusted : Contract := fun vs bs => match vs, bs with
  | [], [] => some (none, .one (.dat .bool true), [])
  | _, _ => none
def Γ_law_trusted : Ctx := [(n_trust_Take, c_trust_Take), (n_law_simple, c_law_simple)]
theorem ok_law_trusted : Ok Tryd.prog tab Γ_law_trusted := ((ok_nil.consC hf_law_simple hB_law_simple sound_law_simple).consC hf_trust_Take hB_trust_Take sound_trust_Take)
theorem law_trusted_vc (rec : List It → St → Prop) (K : V → List Blk → Prop) : segD Γ_law_trusted tab fn_law_trusted 0 K rec [.code (bodyOf fn_law_trusted)] (initSt [] []) = (
    ((List.length simpleB) ≤ 140737488355328) ∧
    (((List.length simpleB) ≤ 140737488355328) ∧
    (((List.length simpleB) ≤ 140737488355328) ∧
    (((List.length simpleB) ≤ 140737488355328) ∧
    (((List.length simpleB) ≤ 140737488355328) ∧
    (K (.one (.dat Ty.bool (eqi (2 : Int) (2 : Int)))) [])))))) := by kernel_rfl
theorem law_trusted_w (m : Nat) (K : V → List Blk → Prop) : goD Γ_law_trusted tab fn_law_trusted 0 K (m + 1) [.code (bodyOf fn_law_trusted)] (initSt [] []) = segD Γ_law_trusted tab fn_law_trusted 0 K (goD Γ_law_trusted tab fn_law_trusted 0 K m) [.code (bodyOf fn_law_trusted)] (initSt [] []) := rfl

set_option maxHeartbeats 4000000 in
theorem run_law_trusted  (K : V → List Blk → Prop) (hK : K (.one (.dat .bool true)) []) : ∃ m, goD Γ_law_trusted tab fn_law_trusted 0 K m [.code (bodyOf fn_law_trusted)] (initSt [] []) := by
  refine ⟨1, ?_⟩
  rw [law_trusted_w, law_trusted_vc _ _]
  exact ⟨by decide, by decide, by decide, by decide, by decide, hK⟩
theorem sound_law_trusted : SoundC Tryd.prog tab n_law_trusted c_law_trusted := soundC_of ok_law_trusted hf_law_trusted hB_law_trusted (by
  intro vs bs p v bs' h hp
  unfold c_law_trusted at h
  split at h
  · cases h
    exact ⟨by kernel_rfl, rfl, .inl (run_law_trusted  _ ⟨rfl, rfl⟩)⟩
  · cases h)

def c_slices_Equal_Lint : Contract := fun vs bs => match vs, bs with
  | [.one (.dat (.list .int) a), .one (.dat (.list .int) b)], [] => some (some (Sm a), .one (.dat .bool (eqIs a b)), [])
  | _, _ => none
def Γ_slices_Equal_Lint : Ctx := []
theorem ok_slices_Equal_Lint : Ok Tryd.prog tab Γ_slices_Equal_Lint := ok_nil
noncomputable def slices_Equal_Lint_L0 : List It := [.inLoop [13, 12, 4, 0, 1] (Code.sub (bodyOf fn_slices_Equal_Lint) [1, 1, 0, 1, 0, 0]), .inBlock 0, .code (Code.sub (bodyOf fn_slices_Equal_Lint) [1, 1, 1])]
def slices_Equal_Lint_S0 (x0 : Int) (x1 : Int) (x2 : Bool) (x3 : (List Int)) (x4 : (List Int)) : St := ⟨[(13, .one (.dat Ty.int x0)), (12, .one (.dat Ty.int x1)), (4, .one (.dat Ty.bool x2)), (0, .one (.dat (Ty.list Ty.int) x3)), (1, .one (.dat (Ty.list Ty.int) x4))], [], 0⟩
theorem slices_Equal_Lint_vc (a : List Int) (b : List Int) (rec : List It → St → Prop) (K : V → List Blk → Prop) : segD Γ_slices_Equal_Lint tab fn_slices_Equal_Lint 0 K rec [.code (bodyOf fn_slices_Equal_Lint)] (initSt [.one (.dat (Ty.list Ty.int) a), .one (.dat (Ty.list Ty.int) b)] []) = (
    br (!(eqi (((len a) : Nat) : Int) (((len b) : Nat) : Int)))
     (K (.one (.dat Ty.bool false)) [])
     (rec slices_Equal_Lint_L0 (slices_Equal_Lint_S0 (0 : Int) (((len a) : Nat) : Int) false a b))) := by kernel_rfl
theorem slices_Equal_Lint_w (a : List Int) (b : List Int) (m : Nat) (K : V → List Blk → Prop) : goD Γ_slices_Equal_Lint tab fn_slices_Equal_Lint 0 K (m + 1) [.code (bodyOf fn_slices_Equal_Lint)] (initSt [.one (.dat (Ty.list Ty.int) a), .one (.dat (Ty.list Ty.int) b)] []) = segD Γ_slices_Equal_Lint tab fn_slices_Equal_Lint 0 K (goD Γ_slices_Equal_Lint tab fn_slices_Equal_Lint 0 K m) [.code (bodyOf fn_slices_Equal_Lint)] (initSt [.one (.dat (Ty.list Ty.int) a), .one (.dat (Ty.list Ty.int) b)] []) := rfl
theorem slices_Equal_Lint_vc0 (x0 : Int) (x1 : Int) (x2 : Bool) (x3 : (List Int)) (x4 : (List Int)) (rec : List It → St → Prop) (K : V → List Blk → Prop) : segD Γ_slices_Equal_Lint tab fn_slices_Equal_Lint 0 K rec (.code (Code.sub (bodyOf fn_slices_Equal_Lint) [1, 1, 0, 1, 0, 0]) :: slices_Equal_Lint_L0) (slices_Equal_Lint_S0 x0 x1 x2 x3 x4) = (
    br (lti x0 x1)
     ((((0 : Int) ≤ x0) ∧ (x0 < (((len x3) : Nat) : Int))) ∧
      ((((0 : Int) ≤ x0) ∧ (x0 < (((len x4) : Nat) : Int))) ∧
      (br (!(eqi (nth x3 (Int.toNat x0) (Ty.dflt Ty.int)) (nth x4 (Int.toNat x0) (Ty.dflt Ty.int))))
       (K (.one (.dat Ty.bool false)) [])
       (rec slices_Equal_Lint_L0 (slices_Equal_Lint_S0 (w64 (x0 + (1 : Int))) x1 x2 x3 x4)))))
     (K (.one (.dat Ty.bool true)) [])) := by kernel_rfl
theorem slices_Equal_Lint_w0 (x0 : Int) (x1 : Int) (x2 : Bool) (x3 : (List Int)) (x4 : (List Int)) (m : Nat) (K : V → List Blk → Prop) : goD Γ_slices_Equal_Lint tab fn_slices_Equal_Lint 0 K (m + 1) slices_Equal_Lint_L0 (slices_Equal_Lint_S0 x0 x1 x2 x3 x4) = segD Γ_slices_Equal_Lint tab fn_slices_Equal_Lint 0 K (goD Γ_slices_Equal_Lint tab fn_slices_Equal_Lint 0 K m) (.code (Code.sub (bodyOf fn_slices_Equal_Lint) [1, 1, 0, 1, 0, 0]) :: slices_Equal_Lint_L0) (slices_Equal_Lint_S0 x0 x1 x2 x3 x4) := rfl

theorem loop_slices_Equal_Lint (a b : List Int) (hl : a.length = b.length) (hs : Sm a) (K : V → List Blk → Prop) (hK : K (.one (.dat .bool (eqIs a b))) []) : ∀ (d k : Nat), k + d = a.length → a.take k = b.take k →
    goD Γ_slices_Equal_Lint tab fn_slices_Equal_Lint 0 K (d + 1) slices_Equal_Lint_L0 (slices_Equal_Lint_S0 (k : Int) (((len a) : Nat) : Int) false a b)
  | 0, k, hk, he => by
    rw [slices_Equal_Lint_w0, slices_Equal_Lint_vc0 _ _ _ _ _ _ _]
    refine lt_f (by simp only [len]; omega) ?_
    rw [List.take_of_length_le (by omega), List.take_of_length_le (by omega)] at he
    rw [show eqIs a b = true from by simp [eqIs, he]] at hK
    exact hK
  | d + 1, k, hk, he => by
    unfold Sm at hs
    rw [slices_Equal_Lint_w0, slices_Equal_Lint_vc0 _ _ _ _ _ _ _]
    refine lt_t (by simp only [len]; omega) ⟨⟨by omega, by simp only [len]; omega⟩, ⟨by omega, by simp only [len]; omega⟩, ne_s (fun hne => ?_) (fun heq => ?_)⟩
    · rw [show eqIs a b = false from by simp only [eqIs, decide_eq_false_iff_not]; rintro rfl; exact hne rfl] at hK
      exact hK
    · rw [w64_succ (by omega)]
      refine loop_slices_Equal_Lint a b hl ‹Sm a› K hK d (k + 1) (by omega) ?_
      rw [take_step (by omega) (Ty.dflt Ty.int), take_step (by omega) (Ty.dflt Ty.int), he]
      rw [toNat_nat] at heq
      rw [heq]
set_option maxHeartbeats 4000000 in
theorem run_slices_Equal_Lint (a b : List Int) (hp : Sm a) (K : V → List Blk → Prop) (hK : K (.one (.dat .bool (eqIs a b))) []) : ∃ m, goD Γ_slices_Equal_Lint tab fn_slices_Equal_Lint 0 K m [.code (bodyOf fn_slices_Equal_Lint)] (initSt [.one (.dat (.list .int) a), .one (.dat (.list .int) b)] []) := by
  refine ⟨a.length + 2, ?_⟩
  rw [slices_Equal_Lint_w, slices_Equal_Lint_vc _ _ _ _]
  refine ne_s (fun h => ?_) (fun h => ?_)
  · rw [show eqIs a b = false from by simp only [eqIs, decide_eq_false_iff_not]; rintro rfl; exact h rfl] at hK
    exact hK
  · exact loop_slices_Equal_Lint a b (by simp only [len] at h; omega) hp K hK a.length 0 (by omega) rfl
theorem sound_slices_Equal_Lint : SoundC Tryd.prog tab n_slices_Equal_Lint c_slices_Equal_Lint := soundC_of ok_slices_Equal_Lint hf_slices_Equal_Lint hB_slices_Equal_Lint (by
  intro vs bs p v bs' h hp
  unfold c_slices_Equal_Lint at h
  split at h
  · cases h
    exact ⟨by kernel_rfl, rfl, .inl (run_slices_Equal_Lint _ _ hp.1 _ ⟨rfl, rfl⟩)⟩
  · cases h)

def c_ref_SameTrust : Contract := fun vs bs => match vs, bs with
  | [.agg [.dat .int v, .dat (.list .int) ks, .dat .int t, .dat .int n], .agg [.dat .int v2, .dat (.list .int) ks2, .dat .int t2, .dat .int n2]], [] => some (some (Sm ks), .one (.dat .bool (sameTrust ⟨⟨v, ks, t⟩, n⟩ ⟨⟨v2, ks2, t2⟩, n2⟩)), [])
  | _, _ => none
def Γ_ref_SameTrust : Ctx := [(n_slices_Equal_Lint, c_slices_Equal_Lint)]
theorem ok_ref_SameTrust : Ok Tryd.prog tab Γ_ref_SameTrust := (ok_nil.consC hf_slices_Equal_Lint hB_slices_Equal_Lint sound_slices_Equal_Lint)
theorem ref_SameTrust_vc (v : Int) (ks : List Int) (t : Int) (n : Int) (v2 : Int) (ks2 : List Int) (t2 : Int) (n2 : Int) (rec : List It → St → Prop) (K : V → List Blk → Prop) v0 (hv0 : v0 = (eqIs ks ks2)) : segD Γ_ref_SameTrust tab fn_ref_SameTrust 0 K rec [.code (bodyOf fn_ref_SameTrust)] (initSt [.agg [.dat Ty.int v, .dat (Ty.list Ty.int) ks, .dat Ty.int t, .dat Ty.int n], .agg [.dat Ty.int v2, .dat (Ty.list Ty.int) ks2, .dat Ty.int t2, .dat Ty.int n2]] []) = (
    br (eqi n n2)
     (br (eqi v v2)
       (br (eqi t t2)
         (((List.length ks) ≤ 140737488355328) ∧
          (K (.one (.dat Ty.bool v0)) []))
         (K (.one (.dat Ty.bool false)) []))
       (K (.one (.dat Ty.bool false)) []))
     (K (.one (.dat Ty.bool false)) [])) := by subst hv0; kernel_rfl
theorem ref_SameTrust_w (v : Int) (ks : List Int) (t : Int) (n : Int) (v2 : Int) (ks2 : List Int) (t2 : Int) (n2 : Int) (m : Nat) (K : V → List Blk → Prop) : goD Γ_ref_SameTrust tab fn_ref_SameTrust 0 K (m + 1) [.code (bodyOf fn_ref_SameTrust)] (initSt [.agg [.dat Ty.int v, .dat (Ty.list Ty.int) ks, .dat Ty.int t, .dat Ty.int n], .agg [.dat Ty.int v2, .dat (Ty.list Ty.int) ks2, .dat Ty.int t2, .dat Ty.int n2]] []) = segD Γ_ref_SameTrust tab fn_ref_SameTrust 0 K (goD Γ_ref_SameTrust tab fn_ref_SameTrust 0 K m) [.code (bodyOf fn_ref_SameTrust)] (initSt [.agg [.dat Ty.int v, .dat (Ty.list Ty.int) ks, .dat Ty.int t, .dat Ty.int n], .agg [.dat Ty.int v2, .dat (Ty.list Ty.int) ks2, .dat Ty.int t2, .dat Ty.int n2]] []) := rfl

set_option maxHeartbeats 4000000 in
theorem run_ref_SameTrust (v : Int) (ks : List Int) (t n v2 : Int) (ks2 : List Int) (t2 n2 : Int) (hp : Sm ks) (K : V → List Blk → Prop) (hK : K (.one (.dat .bool (sameTrust ⟨⟨v, ks, t⟩, n⟩ ⟨⟨v2, ks2, t2⟩, n2⟩))) []) : ∃ m, goD Γ_ref_SameTrust tab fn_ref_SameTrust 0 K m [.code (bodyOf fn_ref_SameTrust)] (initSt [.agg [.dat .int v, .dat (.list .int) ks, .dat .int t, .dat .int n], .agg [.dat .int v2, .dat (.list .int) ks2, .dat .int t2, .dat .int n2]] []) := by
  refine ⟨1, ?_⟩
  rw [ref_SameTrust_w, ref_SameTrust_vc _ _ _ _ _ _ _ _ _ _ _ rfl]
  unfold sameTrust at hK
  simp only at hK
  refine br_split (fun h => br_split (fun h2 => br_split (fun h3 => ⟨hp, ?_⟩) (fun h3 => ?_)) (fun h2 => ?_)) (fun h => ?_)
  · rw [h, h2, h3] at hK; exact hK
  · rw [h, h2, h3] at hK; exact hK
  · rw [h, h2] at hK; exact hK
  · rw [h] at hK; exact hK
theorem sound_ref_SameTrust : SoundC Tryd.prog tab n_ref_SameTrust c_ref_SameTrust := soundC_of ok_ref_SameTrust hf_ref_SameTrust hB_ref_SameTrust (by
  intro vs bs p v bs' h hp
  unfold c_ref_SameTrust at h
  split at h
  · cases h
    exact ⟨by kernel_rfl, rfl, .inl (run_ref_SameTrust _ _ _ _ _ _ _ _ hp.1 _ ⟨rfl, rfl⟩)⟩
  · cases h)

def c_law_TrustSays : Contract := fun vs bs => match vs, bs with
  | [.agg [.dat (.list .str) b], .one (.dat (.list .signed) _), .agg [.dat .int _, .dat (.list .int) _, .dat .int _, .dat .int _], .agg [.dat (.list .root) _, .dat (.list (.list .int)) _, .dat .int _, .dat .int _, .dat (.list .target) _, .dat (.list .int) _, .dat (.list (.list .int)) _], .one (.dat .int _), .one (.dat .int _), .one (.dat .int _)], [] => some (some (b.length ≤ 140737488355328), .one (.dat .bool true), [])
  | _, _ => none
def Γ_law_TrustSays : Ctx := [(n_trust_Count, c_trust_Count), (n_trust_Take, c_trust_Take), (n_ref_Counted, c_ref_Counted), (n_ref_Taken, c_ref_Taken), (n_law_trusted, c_law_trusted), (n_trust_CheckSigned, c_trust_CheckSigned), (n_ref_CheckSigned, c_ref_CheckSigned), (n_trust_CheckTrust, c_trust_CheckTrust), (n_ref_CheckTrust, c_ref_CheckTrust), (n_ref_SameTrust, c_ref_SameTrust), (n_trust_Turn, c_trust_Turn), (n_ref_Turned, c_ref_Turned)]
theorem ok_law_TrustSays : Ok Tryd.prog tab Γ_law_TrustSays := ((((((((((((ok_nil.consC hf_ref_Turned hB_ref_Turned sound_ref_Turned).consC hf_trust_Turn hB_trust_Turn sound_trust_Turn).consC hf_ref_SameTrust hB_ref_SameTrust sound_ref_SameTrust).consC hf_ref_CheckTrust hB_ref_CheckTrust sound_ref_CheckTrust).consC hf_trust_CheckTrust hB_trust_CheckTrust sound_trust_CheckTrust).consC hf_ref_CheckSigned hB_ref_CheckSigned sound_ref_CheckSigned).consC hf_trust_CheckSigned hB_trust_CheckSigned sound_trust_CheckSigned).consC hf_law_trusted hB_law_trusted sound_law_trusted).consC hf_ref_Taken hB_ref_Taken sound_ref_Taken).consC hf_ref_Counted hB_ref_Counted sound_ref_Counted).consC hf_trust_Take hB_trust_Take sound_trust_Take).consC hf_trust_Count hB_trust_Count sound_trust_Count)
theorem law_TrustSays_vc (b : List (List UInt8)) (l : List Signed) (v : Int) (ks : List Int) (t : Int) (n : Int) (rs : List Root) (rg : List (List Int)) (ov : Int) (ou : Int) (ts : List Vm.Target) (sg : List Int) (im : List (List Int)) (now : Int) (units : Int) (name : Int) (rec : List It → St → Prop) (K : V → List Blk → Prop) v0 (hv0 : v0 = (checkSigned l)) v1 (hv1 : v1 = (checkTrust (⟨(⟨v, ks, t⟩ : Vm.Root), n⟩ : Vm.Trust))) v2 (hv2 : v2 = (countT l (⟨v, ks, t⟩ : Vm.Root) sg name)) v3 (hv3 : v3 = (takeT b l (⟨(⟨v, ks, t⟩ : Vm.Root), n⟩ : Vm.Trust) (⟨rs, rg, (⟨ov, ou, ts⟩ : Vm.Release), sg, im⟩ : Vm.Offer) now units)) v4 (hv4 : v4 = (sameTrust (⟨(⟨(((v3).fst).r).version, (((v3).fst).r).keys, (((v3).fst).r).thr⟩ : Vm.Root), ((v3).fst).version⟩ : Vm.Trust) (⟨(⟨(((v3).fst).r).version, (((v3).fst).r).keys, (((v3).fst).r).thr⟩ : Vm.Root), ((v3).fst).version⟩ : Vm.Trust))) v5 (hv5 : v5 = (turnT b l (⟨(⟨v, ks, t⟩ : Vm.Root), n⟩ : Vm.Trust) (⟨((nth rs (Int.toNat (0 : Int)) (Ty.dflt Ty.root))).version, ((nth rs (Int.toNat (0 : Int)) (Ty.dflt Ty.root))).keys, ((nth rs (Int.toNat (0 : Int)) (Ty.dflt Ty.root))).thr⟩ : Vm.Root) sg)) v6 (hv6 : v6 = (sameTrust (⟨(⟨(((v5).fst).r).version, (((v5).fst).r).keys, (((v5).fst).r).thr⟩ : Vm.Root), ((v5).fst).version⟩ : Vm.Trust) (⟨(⟨(((v5).fst).r).version, (((v5).fst).r).keys, (((v5).fst).r).thr⟩ : Vm.Root), ((v5).fst).version⟩ : Vm.Trust))) : segD Γ_law_TrustSays tab fn_law_TrustSays 0 K rec [.code (bodyOf fn_law_TrustSays)] (initSt [.agg [.dat (Ty.list Ty.str) b], .one (.dat (Ty.list Ty.signed) l), .agg [.dat Ty.int v, .dat (Ty.list Ty.int) ks, .dat Ty.int t, .dat Ty.int n], .agg [.dat (Ty.list Ty.root) rs, .dat (Ty.list (Ty.list Ty.int)) rg, .dat Ty.int ov, .dat Ty.int ou, .dat (Ty.list Ty.target) ts, .dat (Ty.list Ty.int) sg, .dat (Ty.list (Ty.list Ty.int)) im], .one (.dat Ty.int now), .one (.dat Ty.int units), .one (.dat Ty.int name)] []) = (
    ((List.length b) ≤ 140737488355328) ∧
    (br (!(eqi v0 v0))
     (K (.one (.dat Ty.bool false)) [])
     (br (!(eqi v1 v1))
       (K (.one (.dat Ty.bool false)) [])
       (br (!(eqi (v2).fst (v2).fst))
         (K (.one (.dat Ty.bool false)) [])
         (br (!(eqi (v2).snd (v2).snd))
           (K (.one (.dat Ty.bool false)) [])
           (br (!(eqi (v3).snd (v3).snd))
             (K (.one (.dat Ty.bool false)) [])
             (((List.length (((v3).fst).r).keys) ≤ 140737488355328) ∧
              (br (!v4)
               (K (.one (.dat Ty.bool false)) [])
               (br (eqi (((len rs) : Nat) : Int) (0 : Int))
                 (K (.one (.dat Ty.bool true)) [])
                 ((((0 : Int) ≤ (0 : Int)) ∧ ((0 : Int) < (((len rs) : Nat) : Int))) ∧
                  (((List.length b) ≤ 140737488355328) ∧
                  ((((0 : Int) ≤ (0 : Int)) ∧ ((0 : Int) < (((len rs) : Nat) : Int))) ∧
                  (br (eqi (v5).snd (v5).snd)
                   (((List.length (((v5).fst).r).keys) ≤ 140737488355328) ∧
                    (K (.one (.dat Ty.bool v6)) []))
                   (K (.one (.dat Ty.bool false)) [])))))))))))))) := by subst hv6; subst hv5; subst hv4; subst hv3; subst hv2; subst hv1; subst hv0; kernel_rfl
theorem law_TrustSays_w (b : List (List UInt8)) (l : List Signed) (v : Int) (ks : List Int) (t : Int) (n : Int) (rs : List Root) (rg : List (List Int)) (ov : Int) (ou : Int) (ts : List Vm.Target) (sg : List Int) (im : List (List Int)) (now : Int) (units : Int) (name : Int) (m : Nat) (K : V → List Blk → Prop) : goD Γ_law_TrustSays tab fn_law_TrustSays 0 K (m + 1) [.code (bodyOf fn_law_TrustSays)] (initSt [.agg [.dat (Ty.list Ty.str) b], .one (.dat (Ty.list Ty.signed) l), .agg [.dat Ty.int v, .dat (Ty.list Ty.int) ks, .dat Ty.int t, .dat Ty.int n], .agg [.dat (Ty.list Ty.root) rs, .dat (Ty.list (Ty.list Ty.int)) rg, .dat Ty.int ov, .dat Ty.int ou, .dat (Ty.list Ty.target) ts, .dat (Ty.list Ty.int) sg, .dat (Ty.list (Ty.list Ty.int)) im], .one (.dat Ty.int now), .one (.dat Ty.int units), .one (.dat Ty.int name)] []) = segD Γ_law_TrustSays tab fn_law_TrustSays 0 K (goD Γ_law_TrustSays tab fn_law_TrustSays 0 K m) [.code (bodyOf fn_law_TrustSays)] (initSt [.agg [.dat (Ty.list Ty.str) b], .one (.dat (Ty.list Ty.signed) l), .agg [.dat Ty.int v, .dat (Ty.list Ty.int) ks, .dat Ty.int t, .dat Ty.int n], .agg [.dat (Ty.list Ty.root) rs, .dat (Ty.list (Ty.list Ty.int)) rg, .dat Ty.int ov, .dat Ty.int ou, .dat (Ty.list Ty.target) ts, .dat (Ty.list Ty.int) sg, .dat (Ty.list (Ty.list Ty.int)) im], .one (.dat Ty.int now), .one (.dat Ty.int units), .one (.dat Ty.int name)] []) := rfl

set_option maxHeartbeats 4000000 in
theorem run_law_TrustSays (b : List (List UInt8)) (l : List Vm.Signed) (v : Int) (ks : List Int) (t n : Int) (rs : List Vm.Root) (rg : List (List Int)) (ov ou : Int) (ts : List Vm.Target) (sg : List Int) (im : List (List Int)) (now units : Int) (name : Int) (hp : b.length ≤ 140737488355328) (K : V → List Blk → Prop) (hK : K (.one (.dat .bool true)) []) : ∃ m, goD Γ_law_TrustSays tab fn_law_TrustSays 0 K m [.code (bodyOf fn_law_TrustSays)] (initSt [.agg [.dat (.list .str) b], .one (.dat (.list .signed) l), .agg [.dat .int v, .dat (.list .int) ks, .dat .int t, .dat .int n], .agg [.dat (.list .root) rs, .dat (.list (.list .int)) rg, .dat .int ov, .dat .int ou, .dat (.list .target) ts, .dat (.list .int) sg, .dat (.list (.list .int)) im], .one (.dat .int now), .one (.dat .int units), .one (.dat .int name)] []) := by
  refine ⟨1, ?_⟩
  rw [law_TrustSays_w, law_TrustSays_vc _ _ _ _ _ _ _ _ _ _ _ _ _ _ _ _ _ _ _ rfl _ rfl _ rfl _ rfl _ rfl _ rfl _ rfl]
  have okK : ∀ (t0 : Vm.Trust) (e : Int), (e = 0 → checkTrust t0 = 0) → (e ≠ 0 → t0 = noTrust) → len t0.r.keys ≤ 140737488355328 := fun t0 e h1 h2 => by
    by_cases c : e = 0
    · have := (checkRoot_ok (checkTrust_ok (h1 c)).2.2).2.2.2.2.1
      simp only [len]; omega
    · rw [h2 c]; simp [len, noTrust]
  have same : ∀ t0 : Vm.Trust, sameTrust t0 t0 = true := fun t0 => by simp [sameTrust, eqi, eqIs]
  have KT : (takeT b l ⟨⟨v, ks, t⟩, n⟩ ⟨rs, rg, ⟨ov, ou, ts⟩, sg, im⟩ now units).1.r.keys.length ≤ 140737488355328 := by
    refine okK _ (takeT b l ⟨⟨v, ks, t⟩, n⟩ ⟨rs, rg, ⟨ov, ou, ts⟩, sg, im⟩ now units).2 (fun h => ?_) (fun h => ?_)
    · obtain ⟨h1, _, _, h4, h5, h6⟩ := takeT_ok h
      obtain ⟨_, _, q3, _⟩ := rootsT_ok rs rg _ h1 h4
      obtain ⟨r1, _⟩ := relE_ok h5
      obtain ⟨s1, s2, _⟩ := checkRelease_ok r1
      simp only at s1 s2 q3
      rw [h6]
      unfold checkTrust
      simp only
      rw [if_neg (by omega)]
      exact (checkTrust_ok q3).2.2
    · unfold takeT at h ⊢
      by_cases c1 : checkTrust ⟨⟨v, ks, t⟩, n⟩ = 0
      · rw [if_pos c1] at h ⊢
        simp only at h ⊢
        by_cases c2 : 6 < rs.length ∨ rg.length ≠ rs.length
        · rw [if_pos c2]
        · rw [if_neg c2] at h ⊢
          unfold takeEnd at h ⊢
          split at h
          · rename_i c3
            rw [if_pos c3]
            split at h
            · exact absurd rfl h
            · rename_i c4; rw [if_neg c4]
          · rename_i c3; rw [if_neg c3]
      · rw [if_neg c1]
  have KU : ∀ r : Vm.Root, (turnT b l ⟨⟨v, ks, t⟩, n⟩ r sg).1.r.keys.length ≤ 140737488355328 := fun r => by
    refine okK _ (turnT b l ⟨⟨v, ks, t⟩, n⟩ r sg).2 (fun h => ?_) (fun h => ?_)
    · obtain ⟨h1, h2⟩ := turnT_ok h
      obtain ⟨a1, a2, _⟩ := turnE_ok h1
      obtain ⟨b1, b2, _⟩ := checkTrust_ok a1
      simp only at b1 b2
      rw [h2]
      unfold checkTrust
      simp only
      rw [if_neg (by omega)]; exact a2
    · unfold turnT at h ⊢
      by_cases c : turnE b l ⟨⟨v, ks, t⟩, n⟩ r sg = 0
      · rw [if_pos c] at h; exact absurd rfl h
      · rw [if_neg c]
  refine ⟨hp, ne_f rfl (ne_f rfl (ne_f rfl (ne_f rfl (ne_f rfl ⟨KT, ?_⟩))))⟩
  refine nt_f (same _) (eq_s (fun _ => hK) (fun h => ?_))
  refine ⟨⟨by omega, by simp only [len] at h ⊢; omega⟩, hp, ⟨by omega, by simp only [len] at h ⊢; omega⟩, eq_t rfl ⟨KU _, ?_⟩⟩
  have := same (turnT b l ⟨⟨v, ks, t⟩, n⟩ (nth rs (Int.toNat (0 : Int)) (Ty.dflt Ty.root)) sg).1
  rw [show sameTrust _ _ = true from this]
  exact hK
theorem sound_law_TrustSays : SoundC Tryd.prog tab n_law_TrustSays c_law_TrustSays := soundC_of ok_law_TrustSays hf_law_TrustSays hB_law_TrustSays (by
  intro vs bs p v bs' h hp
  unfold c_law_TrustSays at h
  split at h
  · cases h
    exact ⟨by kernel_rfl, rfl, .inl (run_law_TrustSays _ _ _ _ _ _ _ _ _ _ _ _ _ _ _ _ hp.1 _ ⟨rfl, rfl⟩)⟩
  · cases h)
end Go.Proofs.YtlbppjmekiemiabDoor
