/- What the functions of VehicleNet compute (part 4 of 4). No condition. -/
import Derived.Test.YtlbppjmekiemiadGreatDoorFVehicleNetc
import Derived.KernelRfl
namespace Go.Proofs.YtlbppjmekiemiadGreatDoor
open Vm
set_option maxHeartbeats 4000000
def c_q241 : Contract := fun vs bs => match vs, bs with
  | [.one (.dat (.list .target) a), .one (.dat (.list .target) b)], [] => some (some (a.length ≤ 140737488355328), .one (dB (eqL eqT a b)), [])
  | _, _ => none
def Γ_q241 : Ctx := []
theorem ok_q241 : Ok Tryz.prog tab Γ_q241 := ok_nil
noncomputable def q241_L0 : List It := [.inLoop [13, 12, 4, 0, 1] (Code.sub (bodyOf fn_q241) [1, 1, 0, 1, 0, 0]), .inBlock 0, .code (Code.sub (bodyOf fn_q241) [1, 1, 1])]
def q241_S0 (x0 : Int) (x1 : Int) (x2 : Bool) (x3 : (List Vm.Target)) (x4 : (List Vm.Target)) : St := ⟨[(13, .one (dI x0)), (12, .one (dI x1)), (4, .one (dB x2)), (0, .one (.dat (Ty.list Ty.target) x3)), (1, .one (.dat (Ty.list Ty.target) x4))], [], 0⟩
theorem q241_vc (a : List Vm.Target) (b : List Vm.Target) (rec : RK) (K : KK) : segD Γ_q241 tab fn_q241 0 K rec [.code (bodyOf fn_q241)] (initSt [.one (.dat (Ty.list Ty.target) a), .one (.dat (Ty.list Ty.target) b)] []) = (
 br (!(eqi (((len a) : Nat) : Int) (((len b) : Nat) : Int)))
 (K vF [])
 (rec q241_L0 (q241_S0 (0 : Int) (((len a) : Nat) : Int) false a b))) := by kernel_rfl
theorem q241_vc0 (x0 : Int) (x1 : Int) (x2 : Bool) (x3 : (List Vm.Target)) (x4 : (List Vm.Target)) (rec : RK) (K : KK) : segD Γ_q241 tab fn_q241 0 K rec (.code (Code.sub (bodyOf fn_q241) [1, 1, 0, 1, 0, 0]) :: q241_L0) (q241_S0 x0 x1 x2 x3 x4) = (
 br (lti x0 x1)
 ((((0 : Int) ≤ x0) ∧ (x0 < (((len x3) : Nat) : Int))) ∧
 ((((0 : Int) ≤ x0) ∧ (x0 < (((len x4) : Nat) : Int))) ∧
 (br (!((eqi ((nth x3 (Int.toNat x0) (Ty.dflt Ty.target))).unit ((nth x4 (Int.toNat x0) (Ty.dflt Ty.target))).unit) && ((eqi ((nth x3 (Int.toNat x0) (Ty.dflt Ty.target))).image ((nth x4 (Int.toNat x0) (Ty.dflt Ty.target))).image) && ((eqi ((nth x3 (Int.toNat x0) (Ty.dflt Ty.target))).long ((nth x4 (Int.toNat x0) (Ty.dflt Ty.target))).long) && true))))
 (K vF [])
 (rec q241_L0 (q241_S0 (w64 (x0 + (1 : Int))) x1 x2 x3 x4)))))
 (K vT [])) := by kernel_rfl
theorem q241_w0 (m : Nat) (K : KK) (st : St) : goD Γ_q241 tab fn_q241 0 K (m + 1) q241_L0 st = segD Γ_q241 tab fn_q241 0 K (goD Γ_q241 tab fn_q241 0 K m) (.code (Code.sub (bodyOf fn_q241) [1, 1, 0, 1, 0, 0]) :: q241_L0) st := rfl

theorem loop_q241 (a b : List Vm.Target) (hl : a.length = b.length) (hs : a.length ≤ 140737488355328) (K : KK) : ∀ (d k : Nat), k + d = a.length → K (.one (dB (eqL eqT (a.drop k) (b.drop k)))) [] →
    goD Γ_q241 tab fn_q241 0 K (d + 1) q241_L0 (q241_S0 (k : Int) (((len a) : Nat) : Int) false a b)
  | 0, k, hk, hK => by
    rw [q241_w0, q241_vc0 _ _ _ _ _ _ _]
    refine lt_f (by simp only [len]; omega) ?_
    rw [List.drop_of_length_le (by omega), List.drop_of_length_le (by omega)] at hK
    exact hK
  | d + 1, k, hk, hK => by
    rw [q241_w0, q241_vc0 _ _ _ _ _ _ _, toNat_nat]
    rw [drop_step (l := a) (by omega) (Ty.dflt .target), drop_step (l := b) (by omega) (Ty.dflt .target)] at hK
    simp only [eqL] at hK
    refine lt_t (by simp only [len]; omega) ⟨⟨by omega, by simp only [len]; omega⟩, ⟨by omega, by simp only [len]; omega⟩, nt_s (fun hne => ?_) (fun heq => ?_)⟩
    · rw [show eqT (nth a k (Ty.dflt .target)) (nth b k (Ty.dflt .target)) = false from by simpa [eqT] using hne] at hK
      exact hK
    · rw [w64_succ (by omega)]
      rw [show eqT (nth a k (Ty.dflt .target)) (nth b k (Ty.dflt .target)) = true from by simpa [eqT] using heq, Bool.true_and] at hK
      exact loop_q241 a b hl hs K d (k + 1) (by omega) hK
theorem run_q241 (a b : List Vm.Target) (hp : a.length ≤ 140737488355328) (K : KK) (hK : K (.one (dB (eqL eqT a b))) []) : ∃ m, goD Γ_q241 tab fn_q241 0 K m [.code (bodyOf fn_q241)] (initSt [.one (.dat (.list .target) a), .one (.dat (.list .target) b)] []) := by
  refine ⟨a.length + 2, ?_⟩
  rw [goD_code, q241_vc _ _ _ _]
  refine ne_s (fun h => ?_) (fun h => ?_)
  · rw [eqL_len eqT a b (by simp only [len] at h; omega)] at hK
    exact hK
  · exact loop_q241 a b (by simp only [len] at h; omega) hp K a.length 0 (by omega) hK
theorem sound_q241 : SoundC Tryz.prog tab n_q241 c_q241 := soundC_of ok_q241 hf_q241 hB_q241 (by
  intro vs bs p v bs' h hp
  unfold c_q241 at h
  split at h
  · cases h
    exact ⟨by kernel_rfl, rfl, .inl (run_q241 _ _ hp.1 _ ⟨rfl, rfl⟩)⟩
  · cases h)

def c_q247 : Contract := fun vs bs => match vs, bs with
  | [.one (.dat (.list .int) a), .one (.dat (.list .int) b)], [] => some (some (Sm a), .one (dB (eqIs a b)), [])
  | _, _ => none
def Γ_q247 : Ctx := [(n_q0, c_q0)]
theorem ok_q247 : Ok Tryz.prog tab Γ_q247 := (ok_nil.consC hf_q0 hB_q0 sound_q0)
theorem q247_vc (a : List Int) (b : List Int) (rec : RK) (K : KK) v0 (hv0 : v0 = (eqIs a b)) : segD Γ_q247 tab fn_q247 0 K rec [.code (bodyOf fn_q247)] (initSt [.one (dL a), .one (dL b)] []) = (
 ((List.length a) ≤ 140737488355328) ∧
 (K (.one (dB v0)) [])) := by subst_vars; kernel_rfl

theorem run_q247 (a b : List Int) (hp : Sm a) (K : KK) (hK : K (.one (dB (eqIs a b))) []) : ∃ m, goD Γ_q247 tab fn_q247 0 K m [.code (bodyOf fn_q247)] (initSt [.one (dL a), .one (dL b)] []) := by
  refine ⟨1, ?_⟩
  rw [goD_code, q247_vc _ _ _ _ _ rfl]
  exact ⟨hp, hK⟩
theorem sound_q247 : SoundC Tryz.prog tab n_q247 c_q247 := soundC_of ok_q247 hf_q247 hB_q247 (by
  intro vs bs p v bs' h hp
  unfold c_q247 at h
  split at h
  · cases h
    exact ⟨by kernel_rfl, rfl, .inl (run_q247 _ _ hp.1 _ ⟨rfl, rfl⟩)⟩
  · cases h)

def c_q248 : Contract := fun vs bs => match vs, bs with
  | [.one (.dat (.list (.list .int)) a), .one (.dat (.list (.list .int)) b), .one (.fn f [])], [] => (match Nat.beq f n_q247 with | true => some (some (a.length ≤ 140737488355328 ∧ smR a = true), .one (dB (sameRecs a b)), []) | false => none)
  | _, _ => none
def Γ_q248 : Ctx := [(n_q247, c_q247)]
theorem ok_q248 : Ok Tryz.prog tab Γ_q248 := (ok_nil.consC hf_q247 hB_q247 sound_q247)
noncomputable def q248_0_L0 : List It := [.inLoop [17, 16, 15, 6, 1, 2] (Code.sub (bodyOf fn_q248) [1, 1, 0, 1, 0, 0]), .inBlock 0, .code (Code.sub (bodyOf fn_q248) [1, 1, 1])]
def q248_0_S0 (x0 : Int) (x1 : Int) (x2 : (List (List Int))) (x3 : Bool) (x4 : (List (List Int))) : St := ⟨[(17, .one (dI x0)), (16, .one (dI x1)), (15, .one (dR x2)), (6, .one (dB x3)), (1, .one (dR x4)), (2, .one (.fn n_q247 []))], [], 0⟩
theorem q248_0_vc (a : List (List Int)) (b : List (List Int)) (rec : RK) (K : KK) : segD Γ_q248 tab fn_q248 0 K rec [.code (bodyOf fn_q248)] (initSt [.one (dR a), .one (dR b), .one (.fn n_q247 [])] []) = (
 br (!(eqi (((len a) : Nat) : Int) (((len b) : Nat) : Int)))
 (K vF [])
 (rec q248_0_L0 (q248_0_S0 (0 : Int) (((len a) : Nat) : Int) a false b))) := by kernel_rfl
theorem q248_0_vc0 (x0 : Int) (x1 : Int) (x2 : (List (List Int))) (x3 : Bool) (x4 : (List (List Int))) (rec : RK) (K : KK) v0 (hv0 : v0 = (eqIs (nth x2 (Int.toNat x0) (Ty.dflt (Ty.list Ty.int))) (nth x4 (Int.toNat x0) (Ty.dflt (Ty.list Ty.int))))) : segD Γ_q248 tab fn_q248 0 K rec (.code (Code.sub (bodyOf fn_q248) [1, 1, 0, 1, 0, 0]) :: q248_0_L0) (q248_0_S0 x0 x1 x2 x3 x4) = (
 br (lti x0 x1)
 ((((0 : Int) ≤ x0) ∧ (x0 < (((len x2) : Nat) : Int))) ∧
 ((((0 : Int) ≤ x0) ∧ (x0 < (((len x4) : Nat) : Int))) ∧
 (((List.length (nth x2 (Int.toNat x0) (Ty.dflt (Ty.list Ty.int)))) ≤ 140737488355328) ∧
 (br (!v0)
 (K vF [])
 (rec q248_0_L0 (q248_0_S0 (w64 (x0 + (1 : Int))) x1 x2 x3 x4))))))
 (K vT [])) := by subst_vars; kernel_rfl
theorem q248_0_w0 (m : Nat) (K : KK) (st : St) : goD Γ_q248 tab fn_q248 0 K (m + 1) q248_0_L0 st = segD Γ_q248 tab fn_q248 0 K (goD Γ_q248 tab fn_q248 0 K m) (.code (Code.sub (bodyOf fn_q248) [1, 1, 0, 1, 0, 0]) :: q248_0_L0) st := rfl

theorem loop_q248_0 (a b : List (List Int)) (hl : a.length = b.length) (hs : a.length ≤ 140737488355328) (hr : smR a = true) (K : KK) (hK : K (.one (dB (sameRecs a b))) []) : ∀ (d k : Nat), k + d = a.length → a.take k = b.take k →
    goD Γ_q248 tab fn_q248 0 K (d + 1) q248_0_L0 (q248_0_S0 (k : Int) (((len a) : Nat) : Int) a false b)
  | 0, k, hk, he => by
    rw [q248_0_w0, q248_0_vc0 _ _ _ _ _ _ _ _ rfl]
    refine lt_f (by simp only [len]; omega) ?_
    rw [List.take_of_length_le (by omega), List.take_of_length_le (by omega)] at he
    rw [show sameRecs a b = true from by simp [sameRecs, he]] at hK
    exact hK
  | d + 1, k, hk, he => by
    rw [q248_0_w0, q248_0_vc0 _ _ _ _ _ _ _ _ rfl, toNat_nat]
    have hm : nth a k (Ty.dflt (.list .int)) ∈ a := by
      have : k < a.length := by omega
      simp [nth, List.getD_eq_getElem?_getD, this]
    refine lt_t (by simp only [len]; omega) ⟨⟨by omega, by simp only [len]; omega⟩, ⟨by omega, by simp only [len]; omega⟩, by simpa using List.all_eq_true.1 hr _ hm, nt_s (fun hne => ?_) (fun heq => ?_)⟩
    · rw [show sameRecs a b = false from by
        simp only [eqIs, decide_eq_false_iff_not] at hne
        simp only [sameRecs, decide_eq_false_iff_not]; rintro rfl; exact hne rfl] at hK
      exact hK
    · rw [w64_succ (by omega)]
      simp only [eqIs, decide_eq_true_eq] at heq
      refine loop_q248_0 a b hl hs hr K hK d (k + 1) (by omega) ?_
      rw [take_step (by omega) (Ty.dflt (.list .int)), take_step (by omega) (Ty.dflt (.list .int)), he, heq]
theorem run_q248_0 (a b : List (List Int)) (hp : a.length ≤ 140737488355328 ∧ smR a = true) (K : KK) (hK : K (.one (dB (sameRecs a b))) []) : ∃ m, goD Γ_q248 tab fn_q248 0 K m [.code (bodyOf fn_q248)] (initSt [.one (dR a), .one (dR b), .one (.fn n_q247 [])] []) := by
  refine ⟨a.length + 2, ?_⟩
  rw [goD_code, q248_0_vc _ _ _ _]
  refine ne_s (fun h => ?_) (fun h => ?_)
  · rw [show sameRecs a b = false from by simp only [sameRecs, decide_eq_false_iff_not]; rintro rfl; exact h rfl] at hK
    exact hK
  · exact loop_q248_0 a b (by simp only [len] at h; omega) hp.1 hp.2 K hK a.length 0 (by omega) rfl
theorem sound_q248 : SoundC Tryz.prog tab n_q248 c_q248 := soundC_of ok_q248 hf_q248 hB_q248 (by
  intro vs bs p v bs' h hp
  unfold c_q248 at h
  split at h
  · split at h
    · rename_i hfn
      have hfn := Nat.eq_of_beq_eq_true hfn
      subst hfn
      cases h
      exact ⟨by kernel_rfl, rfl, .inl (run_q248_0 _ _ hp.1 _ ⟨rfl, rfl⟩)⟩
    · cases h
  · cases h)

def c_q249 : Contract := fun vs bs => match vs, bs with
  | [.agg [.dat .int cn, .dat .int cv, .dat .int cu, .dat (.list .target) ct, .dat (.list (.list .int)) ci], .agg [.dat .int dn, .dat .int dv, .dat .int du, .dat (.list .target) dt, .dat (.list (.list .int)) di_]], [] => some (some (ct.length ≤ 140737488355328 ∧ ci.length ≤ 140737488355328 ∧ smR ci = true), .one (dB (sameC ⟨cn, ⟨cv, cu, ct⟩, ci⟩ ⟨dn, ⟨dv, du, dt⟩, di_⟩)), [])
  | _, _ => none
def Γ_q249 : Ctx := [(n_q241, c_q241), (n_q248, c_q248), (n_q247, c_q247)]
theorem ok_q249 : Ok Tryz.prog tab Γ_q249 := (((ok_nil.consC hf_q247 hB_q247 sound_q247).consC hf_q248 hB_q248 sound_q248).consC hf_q241 hB_q241 sound_q241)
theorem q249_vc (cn : Int) (cv : Int) (cu : Int) (ct : List Vm.Target) (ci : List (List Int)) (dn : Int) (dv : Int) (du : Int) (dt : List Vm.Target) (di_ : List (List Int)) (rec : RK) (K : KK) v0 (hv0 : v0 = (eqL eqT ct dt)) v1 (hv1 : v1 = (smR ci)) v2 (hv2 : v2 = (sameRecs ci di_)) : segD Γ_q249 tab fn_q249 0 K rec [.code (bodyOf fn_q249)] (initSt [.agg [dI cn, dI cv, dI cu, .dat (Ty.list Ty.target) ct, dR ci], .agg [dI dn, dI dv, dI du, .dat (Ty.list Ty.target) dt, dR di_]] []) = (
 br (eqi cn dn)
 (br (eqi cv dv)
 (br (eqi cu du)
 (((List.length ct) ≤ 140737488355328) ∧
 (br v0
 ((((List.length ci) ≤ 140737488355328) ∧ (v1 = true)) ∧
 (K (.one (dB v2)) []))
 (K vF [])))
 (K vF []))
 (K vF []))
 (K vF [])) := by subst_vars; kernel_rfl

theorem run_q249 (cn cv cu : Int) (ct : List Vm.Target) (ci : List (List Int))(dn dv du : Int) (dt : List Vm.Target) (di_ : List (List Int)) (hp : ct.length ≤ 140737488355328 ∧ ci.length ≤ 140737488355328 ∧ smR ci = true) (K : KK) (hK : K (.one (dB (sameC ⟨cn, ⟨cv, cu, ct⟩, ci⟩ ⟨dn, ⟨dv, du, dt⟩, di_⟩))) []) : ∃ m, goD Γ_q249 tab fn_q249 0 K m [.code (bodyOf fn_q249)] (initSt [.agg [dI cn, dI cv, dI cu, .dat (.list .target) ct, dR ci], .agg [dI dn, dI dv, dI du, .dat (.list .target) dt, dR di_]] []) := by
  obtain ⟨p1, p2, p3⟩ := hp
  refine ⟨1, ?_⟩
  rw [goD_code, q249_vc _ _ _ _ _ _ _ _ _ _ _ _ _ rfl _ rfl _ rfl]
  unfold sameC at hK
  simp only at hK
  refine br_split (fun h1 => br_split (fun h2 => br_split (fun h3 => ⟨p1, br_split (fun h4 => ⟨⟨p2, p3⟩, ?_⟩) (fun h4 => ?_)⟩) (fun h3 => ?_)) (fun h2 => ?_)) (fun h1 => ?_)
  · rw [h1, h2, h3, h4] at hK; exact hK
  · rw [h1, h2, h3, h4] at hK; exact hK
  · rw [h1, h2, h3] at hK; exact hK
  · rw [h1, h2] at hK; exact hK
  · rw [h1] at hK; exact hK
theorem sound_q249 : SoundC Tryz.prog tab n_q249 c_q249 := soundC_of ok_q249 hf_q249 hB_q249 (by
  intro vs bs p v bs' h hp
  unfold c_q249 at h
  split at h
  · cases h
    exact ⟨by kernel_rfl, rfl, .inl (run_q249 _ _ _ _ _ _ _ _ _ _ hp.1 _ ⟨rfl, rfl⟩)⟩
  · cases h)

def c_q250 : Contract := fun vs bs => match vs, bs with
  | [.one (.dat (.list .campaign) a), .one (.dat (.list .campaign) b), .one (.fn f [])], [] => (match Nat.beq f n_q249 with | true => some (some (a.length ≤ 140737488355328 ∧ szCs a = true), .one (dB (eqL sameC a b)), []) | false => none)
  | _, _ => none
def Γ_q250 : Ctx := [(n_q249, c_q249)]
theorem ok_q250 : Ok Tryz.prog tab Γ_q250 := (ok_nil.consC hf_q249 hB_q249 sound_q249)
noncomputable def q250_0_L0 : List It := [.inLoop [17, 16, 15, 6, 1, 2] (Code.sub (bodyOf fn_q250) [1, 1, 0, 1, 0, 0]), .inBlock 0, .code (Code.sub (bodyOf fn_q250) [1, 1, 1])]
def q250_0_S0 (x0 : Int) (x1 : Int) (x2 : (List Vm.Campaign)) (x3 : Bool) (x4 : (List Vm.Campaign)) : St := ⟨[(17, .one (dI x0)), (16, .one (dI x1)), (15, .one (.dat (Ty.list Ty.campaign) x2)), (6, .one (dB x3)), (1, .one (.dat (Ty.list Ty.campaign) x4)), (2, .one (.fn n_q249 []))], [], 0⟩
theorem q250_0_vc (a : List Campaign) (b : List Campaign) (rec : RK) (K : KK) : segD Γ_q250 tab fn_q250 0 K rec [.code (bodyOf fn_q250)] (initSt [.one (.dat (Ty.list Ty.campaign) a), .one (.dat (Ty.list Ty.campaign) b), .one (.fn n_q249 [])] []) = (
 br (!(eqi (((len a) : Nat) : Int) (((len b) : Nat) : Int)))
 (K vF [])
 (rec q250_0_L0 (q250_0_S0 (0 : Int) (((len a) : Nat) : Int) a false b))) := by kernel_rfl
theorem q250_0_vc0 (x0 : Int) (x1 : Int) (x2 : (List Vm.Campaign)) (x3 : Bool) (x4 : (List Vm.Campaign)) (rec : RK) (K : KK) v0 (hv0 : v0 = (smR ((nth x2 (Int.toNat x0) (Ty.dflt Ty.campaign))).images)) v1 (hv1 : v1 = (sameC ⟨((nth x2 (Int.toNat x0) (Ty.dflt Ty.campaign))).n, ⟨(((nth x2 (Int.toNat x0) (Ty.dflt Ty.campaign))).r).version, (((nth x2 (Int.toNat x0) (Ty.dflt Ty.campaign))).r).til, (((nth x2 (Int.toNat x0) (Ty.dflt Ty.campaign))).r).targets⟩, ((nth x2 (Int.toNat x0) (Ty.dflt Ty.campaign))).images⟩ ⟨((nth x4 (Int.toNat x0) (Ty.dflt Ty.campaign))).n, ⟨(((nth x4 (Int.toNat x0) (Ty.dflt Ty.campaign))).r).version, (((nth x4 (Int.toNat x0) (Ty.dflt Ty.campaign))).r).til, (((nth x4 (Int.toNat x0) (Ty.dflt Ty.campaign))).r).targets⟩, ((nth x4 (Int.toNat x0) (Ty.dflt Ty.campaign))).images⟩)) : segD Γ_q250 tab fn_q250 0 K rec (.code (Code.sub (bodyOf fn_q250) [1, 1, 0, 1, 0, 0]) :: q250_0_L0) (q250_0_S0 x0 x1 x2 x3 x4) = (
 br (lti x0 x1)
 ((((0 : Int) ≤ x0) ∧ (x0 < (((len x2) : Nat) : Int))) ∧
 ((((0 : Int) ≤ x0) ∧ (x0 < (((len x4) : Nat) : Int))) ∧
 ((((List.length (((nth x2 (Int.toNat x0) (Ty.dflt Ty.campaign))).r).targets) ≤ 140737488355328) ∧ (((List.length ((nth x2 (Int.toNat x0) (Ty.dflt Ty.campaign))).images) ≤ 140737488355328) ∧ (v0 = true))) ∧
 (br (!v1)
 (K vF [])
 (rec q250_0_L0 (q250_0_S0 (w64 (x0 + (1 : Int))) x1 x2 x3 x4))))))
 (K vT [])) := by subst_vars; kernel_rfl
theorem q250_0_w0 (m : Nat) (K : KK) (st : St) : goD Γ_q250 tab fn_q250 0 K (m + 1) q250_0_L0 st = segD Γ_q250 tab fn_q250 0 K (goD Γ_q250 tab fn_q250 0 K m) (.code (Code.sub (bodyOf fn_q250) [1, 1, 0, 1, 0, 0]) :: q250_0_L0) st := rfl

theorem loop_q250_0 (a b : List Vm.Campaign) (hl : a.length = b.length) (hs : a.length ≤ 140737488355328) (hr : szCs a = true) (K : KK) : ∀ (d k : Nat), k + d = a.length → K (.one (dB (eqL sameC (a.drop k) (b.drop k)))) [] →
    goD Γ_q250 tab fn_q250 0 K (d + 1) q250_0_L0 (q250_0_S0 (k : Int) (((len a) : Nat) : Int) a false b)
  | 0, k, hk, hK => by
    rw [q250_0_w0, q250_0_vc0 _ _ _ _ _ _ _ _ rfl _ rfl]
    refine lt_f (by simp only [len]; omega) ?_
    rw [List.drop_of_length_le (by omega), List.drop_of_length_le (by omega)] at hK
    exact hK
  | d + 1, k, hk, hK => by
    rw [q250_0_w0, q250_0_vc0 _ _ _ _ _ _ _ _ rfl _ rfl, toNat_nat]
    have hm : nth a k (Ty.dflt .campaign) ∈ a := by
      have : k < a.length := by omega
      simp [nth, List.getD_eq_getElem?_getD, this]
    rw [drop_step (l := a) (by omega) (Ty.dflt .campaign), drop_step (l := b) (by omega) (Ty.dflt .campaign)] at hK
    simp only [eqL] at hK
    refine lt_t (by simp only [len]; omega) ⟨⟨by omega, by simp only [len]; omega⟩, ⟨by omega, by simp only [len]; omega⟩, szCs_mem hr hm, nt_s (fun hne => ?_) (fun heq => ?_)⟩
    · rw [show sameC (nth a k (Ty.dflt .campaign)) (nth b k (Ty.dflt .campaign)) = false from hne] at hK
      exact hK
    · rw [w64_succ (by omega)]
      rw [show sameC (nth a k (Ty.dflt .campaign)) (nth b k (Ty.dflt .campaign)) = true from heq, Bool.true_and] at hK
      exact loop_q250_0 a b hl hs hr K d (k + 1) (by omega) hK
theorem run_q250_0 (a b : List Vm.Campaign) (hp : a.length ≤ 140737488355328 ∧ szCs a = true) (K : KK) (hK : K (.one (dB (eqL sameC a b))) []) : ∃ m, goD Γ_q250 tab fn_q250 0 K m [.code (bodyOf fn_q250)] (initSt [.one (.dat (Ty.list Ty.campaign) a), .one (.dat (Ty.list Ty.campaign) b), .one (.fn n_q249 [])] []) := by
  refine ⟨a.length + 2, ?_⟩
  rw [goD_code, q250_0_vc _ _ _ _]
  refine ne_s (fun h => ?_) (fun h => ?_)
  · rw [eqL_len sameC a b (by simp only [len] at h; omega)] at hK
    exact hK
  · exact loop_q250_0 a b (by simp only [len] at h; omega) hp.1 hp.2 K a.length 0 (by omega) hK
theorem sound_q250 : SoundC Tryz.prog tab n_q250 c_q250 := soundC_of ok_q250 hf_q250 hB_q250 (by
  intro vs bs p v bs' h hp
  unfold c_q250 at h
  split at h
  · split at h
    · rename_i hfn
      have hfn := Nat.eq_of_beq_eq_true hfn
      subst hfn
      cases h
      exact ⟨by kernel_rfl, rfl, .inl (run_q250_0 _ _ hp.1 _ ⟨rfl, rfl⟩)⟩
    · cases h
  · cases h)

def c_q251 : Contract := fun vs bs => match vs, bs with
  | [.one (.dat (.list .campaign) a), .one (.dat (.list .campaign) b)], [] => some (some (a.length ≤ 140737488355328 ∧ szCs a = true), .one (dB (eqL sameC a b)), [])
  | _, _ => none
def Γ_q251 : Ctx := [(n_q250, c_q250), (n_q249, c_q249)]
theorem ok_q251 : Ok Tryz.prog tab Γ_q251 := ((ok_nil.consC hf_q249 hB_q249 sound_q249).consC hf_q250 hB_q250 sound_q250)
theorem q251_vc (a : List Campaign) (b : List Campaign) (rec : RK) (K : KK) v0 (hv0 : v0 = (szCs a)) v1 (hv1 : v1 = (eqL sameC a b)) : segD Γ_q251 tab fn_q251 0 K rec [.code (bodyOf fn_q251)] (initSt [.one (.dat (Ty.list Ty.campaign) a), .one (.dat (Ty.list Ty.campaign) b)] []) = (
 (((List.length a) ≤ 140737488355328) ∧ (v0 = true)) ∧
 (K (.one (dB v1)) [])) := by subst_vars; kernel_rfl

theorem run_q251 (a b : List Vm.Campaign) (hp : a.length ≤ 140737488355328 ∧ szCs a = true) (K : KK) (hK : K (.one (dB (eqL sameC a b))) []) : ∃ m, goD Γ_q251 tab fn_q251 0 K m [.code (bodyOf fn_q251)] (initSt [.one (.dat (Ty.list Ty.campaign) a), .one (.dat (Ty.list Ty.campaign) b)] []) := by
  refine ⟨1, ?_⟩
  rw [goD_code, q251_vc _ _ _ _ _ rfl _ rfl]
  exact ⟨hp, hK⟩
theorem sound_q251 : SoundC Tryz.prog tab n_q251 c_q251 := soundC_of ok_q251 hf_q251 hB_q251 (by
  intro vs bs p v bs' h hp
  unfold c_q251 at h
  split at h
  · cases h
    exact ⟨by kernel_rfl, rfl, .inl (run_q251 _ _ hp.1 _ ⟨rfl, rfl⟩)⟩
  · cases h)

def c_q245 : Contract := fun vs bs => match vs, bs with
  | [.agg [.dat .int mk, .dat .int mu, .dat .int mn, .dat .int ma, .dat .int mi, .dat (.list .int) mw, .dat .bool my], .agg [.dat .int qk, .dat .int qu, .dat .int qn, .dat .int qa, .dat .int qi, .dat (.list .int) qw, .dat .bool qy]], [] => some (some (Sm mw), .one (dB (sameMsg ⟨mk, mu, mn, ma, mi, mw, my⟩ ⟨qk, qu, qn, qa, qi, qw, qy⟩)), [])
  | _, _ => none
def Γ_q245 : Ctx := [(n_q0, c_q0)]
theorem ok_q245 : Ok Tryz.prog tab Γ_q245 := (ok_nil.consC hf_q0 hB_q0 sound_q0)
theorem q245_vc (mk : Int) (mu : Int) (mn : Int) (ma : Int) (mi : Int) (mw : List Int) (my : Bool) (qk : Int) (qu : Int) (qn : Int) (qa : Int) (qi : Int) (qw : List Int) (qy : Bool) (rec : RK) (K : KK) v0 (hv0 : v0 = (eqIs mw qw)) : segD Γ_q245 tab fn_q245 0 K rec [.code (bodyOf fn_q245)] (initSt [.agg [dI mk, dI mu, dI mn, dI ma, dI mi, dL mw, dB my], .agg [dI qk, dI qu, dI qn, dI qa, dI qi, dL qw, dB qy]] []) = (
 br (eqi mk qk)
 (br (eqi mu qu)
 (br (eqi mn qn)
 (br (eqi ma qa)
 (br (eqi mi qi)
 (((List.length mw) ≤ 140737488355328) ∧
 (br v0
 (K (.one (dB (eqb my qy))) [])
 (K vF [])))
 (K vF []))
 (K vF []))
 (K vF []))
 (K vF []))
 (K vF [])) := by subst_vars; kernel_rfl

theorem run_q245 (mk mu mn ma mi : Int) (mw : List Int) (my : Bool)(qk qu qn qa qi : Int) (qw : List Int) (qy : Bool) (hp : Sm mw) (K : KK) (hK : K (.one (dB (sameMsg ⟨mk, mu, mn, ma, mi, mw, my⟩ ⟨qk, qu, qn, qa, qi, qw, qy⟩))) []) : ∃ m, goD Γ_q245 tab fn_q245 0 K m [.code (bodyOf fn_q245)] (initSt [.agg [dI mk, dI mu, dI mn, dI ma, dI mi, dL mw, dB my], .agg [dI qk, dI qu, dI qn, dI qa, dI qi, dL qw, dB qy]] []) := by
  refine ⟨1, ?_⟩
  rw [goD_code, q245_vc _ _ _ _ _ _ _ _ _ _ _ _ _ _ _ _ _ rfl]
  unfold sameMsg at hK
  simp only at hK
  refine br_split (fun h1 => br_split (fun h2 => br_split (fun h3 => br_split (fun h4 => br_split (fun h5 => ⟨hp, br_split (fun h6 => ?_) (fun h6 => ?_)⟩) (fun h5 => ?_)) (fun h4 => ?_)) (fun h3 => ?_)) (fun h2 => ?_)) (fun h1 => ?_)
  · rw [h1, h2, h3, h4, h5, h6] at hK; simpa using hK
  · rw [h1, h2, h3, h4, h5, h6] at hK; simpa using hK
  · rw [h1, h2, h3, h4, h5] at hK; exact hK
  · rw [h1, h2, h3, h4] at hK; exact hK
  · rw [h1, h2, h3] at hK; exact hK
  · rw [h1, h2] at hK; exact hK
  · rw [h1] at hK; exact hK
theorem sound_q245 : SoundC Tryz.prog tab n_q245 c_q245 := soundC_of ok_q245 hf_q245 hB_q245 (by
  intro vs bs p v bs' h hp
  unfold c_q245 at h
  split at h
  · cases h
    exact ⟨by kernel_rfl, rfl, .inl (run_q245 _ _ _ _ _ _ _ _ _ _ _ _ _ _ hp.1 _ ⟨rfl, rfl⟩)⟩
  · cases h)

def c_q150 : Contract := fun vs bs => match vs, bs with
  | [.one (.dat (.list .message) a), .one (.dat (.list .message) b), .one (.fn f [])], [] => (match Nat.beq f n_q245 with | true => some (some (a.length ≤ 140737488355328 ∧ smM a = true), .one (dB (sameMsgs a b)), []) | false => none)
  | _, _ => none
def Γ_q150 : Ctx := [(n_q245, c_q245)]
theorem ok_q150 : Ok Tryz.prog tab Γ_q150 := (ok_nil.consC hf_q245 hB_q245 sound_q245)
noncomputable def q150_1_L0 : List It := [.inLoop [17, 16, 15, 6, 1, 2] (Code.sub (bodyOf fn_q150) [1, 1, 0, 1, 0, 0]), .inBlock 0, .code (Code.sub (bodyOf fn_q150) [1, 1, 1])]
def q150_1_S0 (x0 : Int) (x1 : Int) (x2 : (List Vm.Message)) (x3 : Bool) (x4 : (List Vm.Message)) : St := ⟨[(17, .one (dI x0)), (16, .one (dI x1)), (15, .one (dM x2)), (6, .one (dB x3)), (1, .one (dM x4)), (2, .one (.fn n_q245 []))], [], 0⟩
theorem q150_1_vc (a : List Message) (b : List Message) (rec : RK) (K : KK) : segD Γ_q150 tab fn_q150 0 K rec [.code (bodyOf fn_q150)] (initSt [.one (dM a), .one (dM b), .one (.fn n_q245 [])] []) = (
 br (!(eqi (((len a) : Nat) : Int) (((len b) : Nat) : Int)))
 (K vF [])
 (rec q150_1_L0 (q150_1_S0 (0 : Int) (((len a) : Nat) : Int) a false b))) := by kernel_rfl
theorem q150_1_vc0 (x0 : Int) (x1 : Int) (x2 : (List Vm.Message)) (x3 : Bool) (x4 : (List Vm.Message)) (rec : RK) (K : KK) v0 (hv0 : v0 = (sameMsg ⟨((nth x2 (Int.toNat x0) (Ty.dflt Ty.message))).kind, ((nth x2 (Int.toNat x0) (Ty.dflt Ty.message))).unit, ((nth x2 (Int.toNat x0) (Ty.dflt Ty.message))).n, ((nth x2 (Int.toNat x0) (Ty.dflt Ty.message))).at_, ((nth x2 (Int.toNat x0) (Ty.dflt Ty.message))).image, ((nth x2 (Int.toNat x0) (Ty.dflt Ty.message))).words, ((nth x2 (Int.toNat x0) (Ty.dflt Ty.message))).yes⟩ ⟨((nth x4 (Int.toNat x0) (Ty.dflt Ty.message))).kind, ((nth x4 (Int.toNat x0) (Ty.dflt Ty.message))).unit, ((nth x4 (Int.toNat x0) (Ty.dflt Ty.message))).n, ((nth x4 (Int.toNat x0) (Ty.dflt Ty.message))).at_, ((nth x4 (Int.toNat x0) (Ty.dflt Ty.message))).image, ((nth x4 (Int.toNat x0) (Ty.dflt Ty.message))).words, ((nth x4 (Int.toNat x0) (Ty.dflt Ty.message))).yes⟩)) : segD Γ_q150 tab fn_q150 0 K rec (.code (Code.sub (bodyOf fn_q150) [1, 1, 0, 1, 0, 0]) :: q150_1_L0) (q150_1_S0 x0 x1 x2 x3 x4) = (
 br (lti x0 x1)
 ((((0 : Int) ≤ x0) ∧ (x0 < (((len x2) : Nat) : Int))) ∧
 ((((0 : Int) ≤ x0) ∧ (x0 < (((len x4) : Nat) : Int))) ∧
 (((List.length ((nth x2 (Int.toNat x0) (Ty.dflt Ty.message))).words) ≤ 140737488355328) ∧
 (br (!v0)
 (K vF [])
 (rec q150_1_L0 (q150_1_S0 (w64 (x0 + (1 : Int))) x1 x2 x3 x4))))))
 (K vT [])) := by subst_vars; kernel_rfl
theorem q150_1_w0 (m : Nat) (K : KK) (st : St) : goD Γ_q150 tab fn_q150 0 K (m + 1) q150_1_L0 st = segD Γ_q150 tab fn_q150 0 K (goD Γ_q150 tab fn_q150 0 K m) (.code (Code.sub (bodyOf fn_q150) [1, 1, 0, 1, 0, 0]) :: q150_1_L0) st := rfl

theorem loop_q150_1 (a b : List Vm.Message) (hl : a.length = b.length) (hs : a.length ≤ 140737488355328) (hr : smM a = true) (K : KK) : ∀ (d k : Nat), k + d = a.length → K (.one (dB (sameMsgs (a.drop k) (b.drop k)))) [] →
    goD Γ_q150 tab fn_q150 0 K (d + 1) q150_1_L0 (q150_1_S0 (k : Int) (((len a) : Nat) : Int) a false b)
  | 0, k, hk, hK => by
    rw [q150_1_w0, q150_1_vc0 _ _ _ _ _ _ _ _ rfl]
    refine lt_f (by simp only [len]; omega) ?_
    rw [List.drop_of_length_le (by omega), List.drop_of_length_le (by omega)] at hK
    exact hK
  | d + 1, k, hk, hK => by
    rw [q150_1_w0, q150_1_vc0 _ _ _ _ _ _ _ _ rfl, toNat_nat]
    have hm : nth a k (Ty.dflt .message) ∈ a := by
      have : k < a.length := by omega
      simp [nth, List.getD_eq_getElem?_getD, this]
    rw [drop_step (l := a) (by omega) (Ty.dflt .message), drop_step (l := b) (by omega) (Ty.dflt .message)] at hK
    simp only [sameMsgs] at hK
    refine lt_t (by simp only [len]; omega) ⟨⟨by omega, by simp only [len]; omega⟩, ⟨by omega, by simp only [len]; omega⟩, by simpa using List.all_eq_true.1 hr _ hm, nt_s (fun hne => ?_) (fun heq => ?_)⟩
    · rw [show sameMsg (nth a k (Ty.dflt .message)) (nth b k (Ty.dflt .message)) = false from hne] at hK
      exact hK
    · rw [w64_succ (by omega)]
      rw [show sameMsg (nth a k (Ty.dflt .message)) (nth b k (Ty.dflt .message)) = true from heq, Bool.true_and] at hK
      exact loop_q150_1 a b hl hs hr K d (k + 1) (by omega) hK
theorem run_q150_1 (a b : List Vm.Message) (hp : a.length ≤ 140737488355328 ∧ smM a = true) (K : KK) (hK : K (.one (dB (sameMsgs a b))) []) : ∃ m, goD Γ_q150 tab fn_q150 0 K m [.code (bodyOf fn_q150)] (initSt [.one (dM a), .one (dM b), .one (.fn n_q245 [])] []) := by
  refine ⟨a.length + 2, ?_⟩
  rw [goD_code, q150_1_vc _ _ _ _]
  refine ne_s (fun h => ?_) (fun h => ?_)
  · rw [sameMsgs_len a b (by simp only [len] at h; omega)] at hK
    exact hK
  · exact loop_q150_1 a b (by simp only [len] at h; omega) hp.1 hp.2 K a.length 0 (by omega) hK
theorem sound_q150 : SoundC Tryz.prog tab n_q150 c_q150 := soundC_of ok_q150 hf_q150 hB_q150 (by
  intro vs bs p v bs' h hp
  unfold c_q150 at h
  split at h
  · split at h
    · rename_i hfn
      have hfn := Nat.eq_of_beq_eq_true hfn
      subst hfn
      cases h
      exact ⟨by kernel_rfl, rfl, .inl (run_q150_1 _ _ hp.1 _ ⟨rfl, rfl⟩)⟩
    · cases h
  · cases h)

def c_q252 : Contract := fun vs bs => match vs, bs with
  | [.agg [.dat (.list .str) vb, .dat (.list .signed) vs, .dat (.list .int) ws, .dat .int fu, .dat .bool up, .dat .int tv, .dat (.list .int) tk, .dat .int tt, .dat .int tn, .dat (.list .bool) vo, .dat (.list .bool) di, .dat (.list .unitd) us, .dat (.list .campaign) cs, .dat (.list .message) net, .dat .int now], .agg [.dat (.list .str) vb2, .dat (.list .signed) vs2, .dat (.list .int) ws2, .dat .int fu2, .dat .bool up2, .dat .int tv2, .dat (.list .int) tk2, .dat .int tt2, .dat .int tn2, .dat (.list .bool) vo2, .dat (.list .bool) di2, .dat (.list .unitd) us2, .dat (.list .campaign) cs2, .dat (.list .message) net2, .dat .int now2]], [] => some (some (szV ⟨vb, vs, ⟨⟨ws, fu⟩, up, ⟨⟨tv, tk, tt⟩, tn⟩, vo, di⟩, us, cs, net, now⟩ = true), .one (dB (sameV ⟨vb, vs, ⟨⟨ws, fu⟩, up, ⟨⟨tv, tk, tt⟩, tn⟩, vo, di⟩, us, cs, net, now⟩ ⟨vb2, vs2, ⟨⟨ws2, fu2⟩, up2, ⟨⟨tv2, tk2, tt2⟩, tn2⟩, vo2, di2⟩, us2, cs2, net2, now2⟩)), [])
  | _, _ => none
def Γ_q252 : Ctx := [(n_q22, c_q22), (n_q0, c_q0), (n_q164, c_q164), (n_q243, c_q243), (n_q242, c_q242), (n_q246, c_q246), (n_q244, c_q244), (n_q251, c_q251), (n_q150, c_q150), (n_q245, c_q245)]
theorem ok_q252 : Ok Tryz.prog tab Γ_q252 := ((((((((((ok_nil.consC hf_q245 hB_q245 sound_q245).consC hf_q150 hB_q150 sound_q150).consC hf_q251 hB_q251 sound_q251).consC hf_q244 hB_q244 sound_q244).consC hf_q246 hB_q246 sound_q246).consC hf_q242 hB_q242 sound_q242).consC hf_q243 hB_q243 sound_q243).consC hf_q164 hB_q164 sound_q164).consC hf_q0 hB_q0 sound_q0).consC hf_q22 hB_q22 sound_q22)
theorem q252_vc (vb : List (List UInt8)) (vs : List Signed) (ws : List Int) (fu : Int) (up : Bool) (tv : Int) (tk : List Int) (tt : Int) (tn : Int) (vo : List Bool) (di : List Bool) (us : List UnitD) (cs : List Campaign) (net : List Message) (now : Int) (vb2 : List (List UInt8)) (vs2 : List Signed) (ws2 : List Int) (fu2 : Int) (up2 : Bool) (tv2 : Int) (tk2 : List Int) (tt2 : Int) (tn2 : Int) (vo2 : List Bool) (di2 : List Bool) (us2 : List UnitD) (cs2 : List Campaign) (net2 : List Message) (now2 : Int) (rec : RK) (K : KK) v0 (hv0 : v0 = (sameFlash ⟨ws, fu⟩ ⟨ws2, fu2⟩)) v1 (hv1 : v1 = (eqIs tk tk2)) v2 (hv2 : v2 = (eqBs vo vo2)) v3 (hv3 : v3 = (eqBs di di2)) v4 (hv4 : v4 = (eqL eqs vb vb2)) v5 (hv5 : v5 = (eqL eqG vs vs2)) v6 (hv6 : v6 = (smUs us)) v7 (hv7 : v7 = (eqL sameUnit us us2)) v8 (hv8 : v8 = (szCs cs)) v9 (hv9 : v9 = (eqL sameC cs cs2)) v10 (hv10 : v10 = (smM net)) v11 (hv11 : v11 = (sameMsgs net net2)) : segD Γ_q252 tab fn_q252 0 K rec [.code (bodyOf fn_q252)] (initSt [.agg (aV vb vs ws fu up tv tk tt tn vo di (.dat (Ty.list Ty.unitd) us) (.dat (Ty.list Ty.campaign) cs) (dM net) now), .agg [.dat (Ty.list Ty.str) vb2, .dat (Ty.list Ty.signed) vs2, dL ws2, dI fu2, dB up2, dI tv2, dL tk2, dI tt2, dI tn2, dLb vo2, dLb di2, .dat (Ty.list Ty.unitd) us2, .dat (Ty.list Ty.campaign) cs2, dM net2, dI now2]] []) = (
 ((List.length ws) ≤ 140737488355328) ∧
 (br v0
 (br (eqb up up2)
 (br (eqi tn tn2)
 (br (eqi tv tv2)
 (br (eqi tt tt2)
 (((List.length tk) ≤ 140737488355328) ∧
 (br v1
 (((len vo) ≤ 140737488355328) ∧
 (br v2
 (((len di) ≤ 140737488355328) ∧
 (br v3
 (((List.length vb) ≤ 140737488355328) ∧
 (br v4
 (((List.length vs) ≤ 140737488355328) ∧
 (br v5
 ((((List.length us) ≤ 140737488355328) ∧ (v6 = true)) ∧
 (br v7
 (br (eqi now now2)
 ((((List.length cs) ≤ 140737488355328) ∧ (v8 = true)) ∧
 (br v9
 ((((List.length net) ≤ 140737488355328) ∧ (v10 = true)) ∧
 (K (.one (dB v11)) []))
 (K vF [])))
 (K vF []))
 (K vF [])))
 (K vF [])))
 (K vF [])))
 (K vF [])))
 (K vF [])))
 (K vF [])))
 (K vF []))
 (K vF []))
 (K vF []))
 (K vF []))
 (K vF []))) := by subst_vars; kernel_rfl

theorem run_q252 (vb : List (List UInt8)) (vs : List Vm.Signed) (ws : List Int) (fu : Int) (up : Bool) (tv : Int) (tk : List Int) (tt tn : Int) (vo di : List Bool) (us : List Vm.UnitD) (cs : List Vm.Campaign) (net : List Vm.Message) (now : Int) (vb2 : List (List UInt8)) (vs2 : List Vm.Signed) (ws2 : List Int) (fu2 : Int) (up2 : Bool) (tv2 : Int) (tk2 : List Int) (tt2 tn2 : Int) (vo2 di2 : List Bool) (us2 : List Vm.UnitD) (cs2 : List Vm.Campaign) (net2 : List Vm.Message) (now2 : Int) (hp : szV ⟨vb, vs, ⟨⟨ws, fu⟩, up, ⟨⟨tv, tk, tt⟩, tn⟩, vo, di⟩, us, cs, net, now⟩ = true) (K : KK) (hK : K (.one (dB (sameV ⟨vb, vs, ⟨⟨ws, fu⟩, up, ⟨⟨tv, tk, tt⟩, tn⟩, vo, di⟩, us, cs, net, now⟩ ⟨vb2, vs2, ⟨⟨ws2, fu2⟩, up2, ⟨⟨tv2, tk2, tt2⟩, tn2⟩, vo2, di2⟩, us2, cs2, net2, now2⟩))) []) : ∃ m, goD Γ_q252 tab fn_q252 0 K m [.code (bodyOf fn_q252)] (initSt [.agg (aV vb vs ws fu up tv tk tt tn vo di (.dat (Ty.list Ty.unitd) us) (.dat (Ty.list Ty.campaign) cs) (dM net) now), .agg [.dat (Ty.list Ty.str) vb2, .dat (Ty.list Ty.signed) vs2, dL ws2, dI fu2, dB up2, dI tv2, dL tk2, dI tt2, dI tn2, dLb vo2, dLb di2, .dat (Ty.list Ty.unitd) us2, .dat (Ty.list Ty.campaign) cs2, dM net2, dI now2]] []) := by
  have S := szV_iff.1 hp
  refine ⟨1, ?_⟩
  rw [goD_code, q252_vc _ _ _ _ _ _ _ _ _ _ _ _ _ _ _ _ _ _ _ _ _ _ _ _ _ _ _ _ _ _ _ _ _ rfl _ rfl _ rfl _ rfl _ rfl _ rfl _ rfl _ rfl _ rfl _ rfl _ rfl _ rfl]
  unfold sameV sameG2 at hK
  simp only at hK
  refine ⟨S.ws, br_split (fun h0 => br_split (fun h1 => br_split (fun h2 => br_split (fun h3 => br_split (fun h4 => ⟨S.ks, br_split (fun h5 => ⟨S.vo, br_split (fun h6 => ⟨S.di, br_split (fun h7 => ⟨S.b, br_split (fun h8 => ⟨S.s, br_split (fun h9 => ⟨⟨S.us, S.u⟩, br_split (fun h10 => br_split (fun h11 => ⟨⟨S.cs, S.c⟩, br_split (fun h12 => ⟨⟨S.ns, S.m⟩, ?_⟩) (fun h12 => ?_)⟩) (fun h11 => ?_)) (fun h10 => ?_)⟩) (fun h9 => ?_)⟩) (fun h8 => ?_)⟩) (fun h7 => ?_)⟩) (fun h6 => ?_)⟩) (fun h5 => ?_)⟩) (fun h4 => ?_)) (fun h3 => ?_)) (fun h2 => ?_)) (fun h1 => ?_)) (fun h0 => ?_)⟩
  · rw [h0, h1, h2, h3, h4, h5, h6, h7, h8, h9, h10, h11, h12] at hK; simpa using hK
  · rw [h0, h1, h2, h3, h4, h5, h6, h7, h8, h9, h10, h11, h12] at hK; simpa using hK
  · rw [h0, h1, h2, h3, h4, h5, h6, h7, h8, h9, h10, h11] at hK; simpa using hK
  · rw [h0, h1, h2, h3, h4, h5, h6, h7, h8, h9, h10] at hK; simpa using hK
  · rw [h0, h1, h2, h3, h4, h5, h6, h7, h8, h9] at hK; simpa using hK
  · rw [h0, h1, h2, h3, h4, h5, h6, h7, h8] at hK; simpa using hK
  · rw [h0, h1, h2, h3, h4, h5, h6, h7] at hK; simpa using hK
  · rw [h0, h1, h2, h3, h4, h5, h6] at hK; simpa using hK
  · rw [h0, h1, h2, h3, h4, h5] at hK; simpa using hK
  · rw [h0, h1, h2, h3, h4] at hK; simpa using hK
  · rw [h0, h1, h2, h3] at hK; simpa using hK
  · rw [h0, h1, h2] at hK; simpa using hK
  · rw [h0, h1] at hK; simpa using hK
  · rw [h0] at hK; simpa using hK
theorem sound_q252 : SoundC Tryz.prog tab n_q252 c_q252 := soundC_of ok_q252 hf_q252 hB_q252 (by
  intro vs bs p v bs' h hp
  unfold c_q252 at h
  split at h
  · cases h
    exact ⟨by kernel_rfl, rfl, .inl (run_q252 _ _ _ _ _ _ _ _ _ _ _ _ _ _ _ _ _ _ _ _ _ _ _ _ _ _ _ _ _ _ hp.1 _ ⟨rfl, rfl⟩)⟩
  · cases h)

def c_q20 : Contract := fun vs bs => match vs, bs with
  | [.one (.dat .int k), .one (.dat .int n)], [] => some (some (0 < n ∧ n ≤ 1000), .one (dI (k % n)), [])
  | _, _ => none
def Γ_q20 : Ctx := []
theorem ok_q20 : Ok Tryz.prog tab Γ_q20 := ok_nil
theorem q20_vc (k : Int) (n : Int) (rec : RK) (K : KK) : segD Γ_q20 tab fn_q20 0 K rec [.code (bodyOf fn_q20)] (initSt [.one (dI k), .one (dI n)] []) = (
 (n ≠ (0 : Int)) ∧
 (br (lti (Int.tmod k n) (0 : Int))
 (K (.one (dI (w64 ((Int.tmod k n) + n)))) [])
 (K (.one (dI (Int.tmod k n))) []))) := by kernel_rfl

theorem run_q20 (k n : Int) (hp : 0 < n ∧ n ≤ 1000) (K : KK) (hK : K (.one (dI (k % n))) []) : ∃ m, goD Γ_q20 tab fn_q20 0 K m [.code (bodyOf fn_q20)] (initSt [.one (dI k), .one (dI n)] []) := by
  refine ⟨1, ?_⟩
  rw [goD_code, q20_vc _ _ _ _]
  refine ⟨by omega, ?_⟩
  have h1 := Int.tmod_eq_emod (a := k) (b := n)
  have h2 := Int.emod_nonneg k (show n ≠ 0 by omega)
  have h3 := Int.emod_lt_of_pos k (show 0 < n by omega)
  have h4 : Int.tmod k n = k % n ∨ Int.tmod k n = k % n - n := by
    rw [h1]; split
    · left; omega
    · right; omega
  have h5 : (Int.tmod k n < 0 → Int.tmod k n = k % n - n) := by omega
  refine lt_s (fun h => ?_) (fun h => ?_)
  · rw [w64_id (by omega) (by omega), show Int.tmod k n + n = k % n by omega]; exact hK
  · rw [show Int.tmod k n = k % n by omega]; exact hK
theorem sound_q20 : SoundC Tryz.prog tab n_q20 c_q20 := soundC_of ok_q20 hf_q20 hB_q20 (by
  intro vs bs p v bs' h hp
  unfold c_q20 at h
  split at h
  · cases h
    exact ⟨by kernel_rfl, rfl, .inl (run_q20 _ _ hp.1 _ ⟨rfl, rfl⟩)⟩
  · cases h)

def c_q261 : Contract := fun vs bs => match vs, bs with
  | [.agg [.dat (.list .str) _, .dat (.list .signed) _, .dat (.list .int) _, .dat .int _, .dat .bool _, .dat .int _, .dat (.list .int) _, .dat .int _, .dat .int _, .dat (.list .bool) _, .dat (.list .bool) _, .dat (.list .unitd) _, .dat (.list .campaign) _, .dat (.list .message) _, .dat .int _], .one (.dat .int _)], [] => some (none, .one (dB true), [])
  | _, _ => none
def Γ_q261 : Ctx := [(n_q260, c_q260), (n_q230, c_q230), (n_q240, c_q240), (n_q252, c_q252), (n_q20, c_q20)]
theorem ok_q261 : Ok Tryz.prog tab Γ_q261 := (((((ok_nil.consC hf_q20 hB_q20 sound_q20).consC hf_q252 hB_q252 sound_q252).consC hf_q240 hB_q240 sound_q240).consC hf_q230 hB_q230 sound_q230).consC hf_q260 hB_q260 sound_q260)
theorem q261_vc (vb : List (List UInt8)) (vs : List Signed) (ws : List Int) (fu : Int) (up : Bool) (tv : Int) (tk : List Int) (tt : Int) (tn : Int) (vo : List Bool) (di : List Bool) (us : List UnitD) (cs : List Campaign) (net : List Message) (now : Int) (k : Int) (rec : RK) (K : KK) v0 (hv0 : v0 = (checkV ⟨vb, vs, ⟨⟨ws, fu⟩, up, ⟨⟨tv, tk, tt⟩, tn⟩, vo, di⟩, us, cs, net, now⟩)) v1 (hv1 : v1 = (doV ⟨vb, vs, ⟨⟨ws, fu⟩, up, ⟨⟨tv, tk, tt⟩, tn⟩, vo, di⟩, us, cs, net, now⟩ ⟨(10 : Int), (0 : Int), (0 : Int), ⟨[], [], ⟨(0 : Int), (0 : Int), []⟩, [], []⟩⟩)) v2 (hv2 : v2 = (szV ⟨v1.fst.b, v1.fst.s, ⟨⟨v1.fst.g.f.words, v1.fst.g.f.fuel⟩, v1.fst.g.up, ⟨⟨v1.fst.g.t.r.version, v1.fst.g.t.r.keys, v1.fst.g.t.r.thr⟩, v1.fst.g.t.version⟩, v1.fst.g.voted, v1.fst.g.did⟩, v1.fst.units, v1.fst.campaigns, v1.fst.net, (w64 (v1.fst.now - (1 : Int)))⟩)) v3 (hv3 : v3 = (sameV ⟨v1.fst.b, v1.fst.s, ⟨⟨v1.fst.g.f.words, v1.fst.g.f.fuel⟩, v1.fst.g.up, ⟨⟨v1.fst.g.t.r.version, v1.fst.g.t.r.keys, v1.fst.g.t.r.thr⟩, v1.fst.g.t.version⟩, v1.fst.g.voted, v1.fst.g.did⟩, v1.fst.units, v1.fst.campaigns, v1.fst.net, (w64 (v1.fst.now - (1 : Int)))⟩ ⟨vb, vs, ⟨⟨ws, fu⟩, up, ⟨⟨tv, tk, tt⟩, tn⟩, vo, di⟩, us, cs, net, now⟩)) v4 (hv4 : v4 = (doV ⟨vb, vs, ⟨⟨ws, fu⟩, up, ⟨⟨tv, tk, tt⟩, tn⟩, vo, di⟩, us, cs, net, now⟩ ⟨(4 : Int), (0 : Int), (k % (((len net) : Nat) : Int)), ⟨[], [], ⟨(0 : Int), (0 : Int), []⟩, [], []⟩⟩)) v5 (hv5 : v5 = (szV ⟨v4.fst.b, v4.fst.s, ⟨⟨v4.fst.g.f.words, v4.fst.g.f.fuel⟩, v4.fst.g.up, ⟨⟨v4.fst.g.t.r.version, v4.fst.g.t.r.keys, v4.fst.g.t.r.thr⟩, v4.fst.g.t.version⟩, v4.fst.g.voted, v4.fst.g.did⟩, v4.fst.units, v4.fst.campaigns, net, v4.fst.now⟩)) v6 (hv6 : v6 = (sameV ⟨v4.fst.b, v4.fst.s, ⟨⟨v4.fst.g.f.words, v4.fst.g.f.fuel⟩, v4.fst.g.up, ⟨⟨v4.fst.g.t.r.version, v4.fst.g.t.r.keys, v4.fst.g.t.r.thr⟩, v4.fst.g.t.version⟩, v4.fst.g.voted, v4.fst.g.did⟩, v4.fst.units, v4.fst.campaigns, net, v4.fst.now⟩ ⟨vb, vs, ⟨⟨ws, fu⟩, up, ⟨⟨tv, tk, tt⟩, tn⟩, vo, di⟩, us, cs, net, now⟩)) v7 (hv7 : v7 = (doV ⟨vb, vs, ⟨⟨ws, fu⟩, up, ⟨⟨tv, tk, tt⟩, tn⟩, vo, di⟩, us, cs, net, now⟩ ⟨(5 : Int), (0 : Int), (k % (((len net) : Nat) : Int)), ⟨[], [], ⟨(0 : Int), (0 : Int), []⟩, [], []⟩⟩)) v8 (hv8 : v8 = (doV ⟨v7.fst.b, v7.fst.s, ⟨⟨v7.fst.g.f.words, v7.fst.g.f.fuel⟩, v7.fst.g.up, ⟨⟨v7.fst.g.t.r.version, v7.fst.g.t.r.keys, v7.fst.g.t.r.thr⟩, v7.fst.g.t.version⟩, v7.fst.g.voted, v7.fst.g.did⟩, v7.fst.units, v7.fst.campaigns, v7.fst.net, v7.fst.now⟩ ⟨(4 : Int), (0 : Int), (((len net) : Nat) : Int), ⟨[], [], ⟨(0 : Int), (0 : Int), []⟩, [], []⟩⟩)) v9 (hv9 : v9 = (szV ⟨v8.fst.b, v8.fst.s, ⟨⟨v8.fst.g.f.words, v8.fst.g.f.fuel⟩, v8.fst.g.up, ⟨⟨v8.fst.g.t.r.version, v8.fst.g.t.r.keys, v8.fst.g.t.r.thr⟩, v8.fst.g.t.version⟩, v8.fst.g.voted, v8.fst.g.did⟩, v8.fst.units, v8.fst.campaigns, v8.fst.net, v8.fst.now⟩)) v10 (hv10 : v10 = (sameV ⟨v8.fst.b, v8.fst.s, ⟨⟨v8.fst.g.f.words, v8.fst.g.f.fuel⟩, v8.fst.g.up, ⟨⟨v8.fst.g.t.r.version, v8.fst.g.t.r.keys, v8.fst.g.t.r.thr⟩, v8.fst.g.t.version⟩, v8.fst.g.voted, v8.fst.g.did⟩, v8.fst.units, v8.fst.campaigns, v8.fst.net, v8.fst.now⟩ ⟨vb, vs, ⟨⟨ws, fu⟩, up, ⟨⟨tv, tk, tt⟩, tn⟩, vo, di⟩, us, cs, net, now⟩)) v11 (hv11 : v11 = (br (eqi (((len net) : Nat) : Int) (0 : Int))
 (K vT [])
 ((((0 : Int) < (((len net) : Nat) : Int)) ∧ ((((len net) : Nat) : Int) ≤ (1000 : Int))) ∧
 (br (!(eqi v4.snd (0 : Int)))
 (K vF [])
 (br (!(eqi (((len v4.fst.net) : Nat) : Int) (w64 ((((len net) : Nat) : Int) - (1 : Int)))))
 (K vF [])
 ((v5 = true) ∧
 (br (!v6)
 (K vF [])
 (br (!(eqi v7.snd (0 : Int)))
 (br (eqi v7.snd (8 : Int))
 (K (.one (dB (eqi (((len net) : Nat) : Int) (24 : Int)))) [])
 (K vF []))
 (br (eqi v8.snd (0 : Int))
 ((v9 = true) ∧
 (K (.one (dB v10)) []))
 (K vF [])))))))))) : segD Γ_q261 tab fn_q261 0 K rec [.code (bodyOf fn_q261)] (initSt [.agg (aV vb vs ws fu up tv tk tt tn vo di (.dat (Ty.list Ty.unitd) us) (.dat (Ty.list Ty.campaign) cs) (dM net) now), .one (dI k)] []) = (
 br (!(eqi v0 (0 : Int)))
 (K vT [])
 (br (eqi v1.snd (0 : Int))
 ((v2 = true) ∧
 (br (!v3)
 (K vF [])
 v11))
 v11)) := by subst_vars; kernel_rfl

theorem run_q261 (vb : List (List UInt8)) (vs : List Vm.Signed) (ws : List Int) (fu : Int) (up : Bool) (tv : Int) (tk : List Int) (tt tn : Int) (vo di : List Bool) (us : List Vm.UnitD) (cs : List Vm.Campaign) (net : List Vm.Message) (now : Int) (k : Int) (K : KK) (hK : K (.one (dB true)) []) : ∃ m, goD Γ_q261 tab fn_q261 0 K m [.code (bodyOf fn_q261)] (initSt [.agg (aV vb vs ws fu up tv tk tt tn vo di (.dat (Ty.list Ty.unitd) us) (.dat (Ty.list Ty.campaign) cs) (dM net) now), .one (dI k)] []) := by
  refine ⟨1, ?_⟩
  rw [goD_code, q261_vc _ _ _ _ _ _ _ _ _ _ _ _ _ _ _ _ _ _ _ rfl _ rfl _ rfl _ rfl _ rfl _ rfl _ rfl _ rfl _ rfl _ rfl _ rfl _ rfl]
  obtain ⟨v, hv⟩ : ∃ v : Vm.Vehicle, v = ⟨vb, vs, ⟨⟨ws, fu⟩, up, ⟨⟨tv, tk, tt⟩, tn⟩, vo, di⟩, us, cs, net, now⟩ := ⟨_, rfl⟩
  have hnet : net = v.net := by rw [hv]
  rw [← hv]
  refine ne_s (fun h => hK) (fun h => ?_)
  have H := checkV_ok h
  have n24 := H.n24
  have T := do_tick H
  unfold happen noOffer at T
  refine eq_s (fun h1 => ?_) (fun h1 => ?_)
  · rw [T] at h1 ⊢
    by_cases c : v.now = 100000
    · rw [if_pos c] at h1; cases h1
    rw [if_neg c]
    have t0 := H.t0
    have t1 := H.t1
    rw [show w64 (v.now + 1 - 1) = v.now by rw [w64_id (by omega) (by omega)]; omega]
    refine ⟨H.sz, nt_s (fun h => absurd (sameV_refl v) (by rw [show sameV v v = false from h]; simp)) (fun _ => ?_)⟩
    rw [hnet]
    refine eq_s (fun _ => hK) (fun hn => ⟨⟨by simp only [len] at hn ⊢; omega, by simp only [len]; omega⟩, ?_⟩)
    have k0 : 0 ≤ k % ((v.net.length : Nat) : Int) := Int.emod_nonneg _ (by simp only [len] at hn; omega)
    have k1 : k % ((v.net.length : Nat) : Int) < ((v.net.length : Nat) : Int) := Int.emod_lt_of_pos _ (by simp only [len] at hn; omega)
    have L := do_lose H k0 k1
    have D := do_double H k0 k1
    unfold happen noOffer at L D
    simp only [len]
    rw [L]
    obtain ⟨j, hj⟩ : ∃ j, k % ((v.net.length : Nat) : Int) = j := ⟨_, rfl⟩
    rw [hj] at k0 k1 L D ⊢
    have el : ((dropM v j.toNat).net.length : Int) = w64 ((v.net.length : Nat) - 1) := by
      have : (dropM v j.toNat).net.length = v.net.length - 1 := List.length_eraseIdx_of_lt (by omega)
      rw [this, w64_id (by omega) (by omega)]
      omega
    refine ne_s (fun h => absurd rfl h) (fun _ => ne_s (fun h => absurd el h) (fun _ => ⟨H.sz, nt_s (fun h => absurd (sameV_refl v) (by rw [show sameV v v = false from h]; simp)) (fun _ => ?_)⟩))
    rw [D]
    by_cases c : v.net.length = 24
    · rw [if_pos c]
      refine ne_s (fun _ => eq_t rfl ?_) (fun h => by cases h)
      rw [show eqi ((v.net.length : Nat) : Int) 24 = true from by rw [c]; rfl]
      exact hK
    · rw [if_neg c]
      obtain ⟨HD, eD⟩ := doubled_ok H k0 k1 c
      have L2 := do_lose HD (k := ((v.net.length : Nat) : Int)) (by omega) (by rw [eD]; simp; omega)
      unfold happen noOffer at L2
      rw [show (((v.net.length : Nat) : Int)).toNat = v.net.length by omega, drop_doubled (by omega)] at L2
      refine ne_s (fun h => absurd rfl h) (fun _ => eq_s (fun _ => ⟨?_, ?_⟩) (fun h => absurd (congrArg Prod.snd L2) h))
      · exact (congrArg (fun q : Vehicle × Int => szV q.1) L2).trans H.sz
      · have e : sameV _ v = true := (congrArg (fun q : Vehicle × Int => sameV q.1 v) L2).trans (sameV_refl v)
        refine Eq.mp ?_ hK
        exact congrArg (fun b => K (.one (dB b)) []) e.symm
  · rw [hnet]
    refine eq_s (fun _ => hK) (fun hn => ⟨⟨by simp only [len] at hn ⊢; omega, by simp only [len]; omega⟩, ?_⟩)
    have k0 : 0 ≤ k % ((v.net.length : Nat) : Int) := Int.emod_nonneg _ (by simp only [len] at hn; omega)
    have k1 : k % ((v.net.length : Nat) : Int) < ((v.net.length : Nat) : Int) := Int.emod_lt_of_pos _ (by simp only [len] at hn; omega)
    have L := do_lose H k0 k1
    have D := do_double H k0 k1
    unfold happen noOffer at L D
    simp only [len]
    rw [L]
    obtain ⟨j, hj⟩ : ∃ j, k % ((v.net.length : Nat) : Int) = j := ⟨_, rfl⟩
    rw [hj] at k0 k1 L D ⊢
    have el : ((dropM v j.toNat).net.length : Int) = w64 ((v.net.length : Nat) - 1) := by
      have : (dropM v j.toNat).net.length = v.net.length - 1 := List.length_eraseIdx_of_lt (by omega)
      rw [this, w64_id (by omega) (by omega)]
      omega
    refine ne_s (fun h => absurd rfl h) (fun _ => ne_s (fun h => absurd el h) (fun _ => ⟨H.sz, nt_s (fun h => absurd (sameV_refl v) (by rw [show sameV v v = false from h]; simp)) (fun _ => ?_)⟩))
    rw [D]
    by_cases c : v.net.length = 24
    · rw [if_pos c]
      refine ne_s (fun _ => eq_t rfl ?_) (fun h => by cases h)
      rw [show eqi ((v.net.length : Nat) : Int) 24 = true from by rw [c]; rfl]
      exact hK
    · rw [if_neg c]
      obtain ⟨HD, eD⟩ := doubled_ok H k0 k1 c
      have L2 := do_lose HD (k := ((v.net.length : Nat) : Int)) (by omega) (by rw [eD]; simp; omega)
      unfold happen noOffer at L2
      rw [show (((v.net.length : Nat) : Int)).toNat = v.net.length by omega, drop_doubled (by omega)] at L2
      refine ne_s (fun h => absurd rfl h) (fun _ => eq_s (fun _ => ⟨?_, ?_⟩) (fun h => absurd (congrArg Prod.snd L2) h))
      · exact (congrArg (fun q : Vehicle × Int => szV q.1) L2).trans H.sz
      · have e : sameV _ v = true := (congrArg (fun q : Vehicle × Int => sameV q.1 v) L2).trans (sameV_refl v)
        refine Eq.mp ?_ hK
        exact congrArg (fun b => K (.one (dB b)) []) e.symm
theorem sound_q261 : SoundC Tryz.prog tab n_q261 c_q261 := soundC_of ok_q261 hf_q261 hB_q261 (by
  intro vs bs p v bs' h hp
  unfold c_q261 at h
  split at h
  · cases h
    exact ⟨by kernel_rfl, rfl, .inl (run_q261 _ _ _ _ _ _ _ _ _ _ _ _ _ _ _ _ _ ⟨rfl, rfl⟩)⟩
  · cases h)
end Go.Proofs.YtlbppjmekiemiadGreatDoor
