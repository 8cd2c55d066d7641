/- What the functions of GateTwice compute (part 2 of 2). No condition. -/
import Derived.Test.YtlbppjmekiemiacDoorFGateTwicea
import Derived.KernelRfl
namespace Go.Proofs.YtlbppjmekiemiacDoor
open Vm
def c_log_Format : Contract := fun vs bs => match vs, bs with
  | [.agg [.dat (.list .int) ws, .dat .int fu]], [] => some (none, .tup [.agg [.dat (.list .int) (formatF ⟨ws, fu⟩).1.words, .dat .int (formatF ⟨ws, fu⟩).1.fuel], .one (.dat .int (formatF ⟨ws, fu⟩).2)], [])
  | _, _ => none
def Γ_log_Format : Ctx := [(n_flash_Check, c_flash_Check), (n_flash_Copy, c_flash_Copy), (n_flash_Wipe, c_flash_Wipe), (n_flash_Burn, (orC c_flash_Burn c_flash_Burn_b))]
theorem ok_log_Format : Ok Tryd.prog tab Γ_log_Format := ((((ok_nil.consC hf_flash_Burn hB_flash_Burn (soundC_or sound_flash_Burn sound_flash_Burn_b)).consC hf_flash_Wipe hB_flash_Wipe sound_flash_Wipe).consC hf_flash_Copy hB_flash_Copy sound_flash_Copy).consC hf_flash_Check hB_flash_Check sound_flash_Check)
theorem log_Format_vc (ws : List Int) (fu : Int) (rec : List It → St → Prop) (K : V → List Blk → Prop) v0 (hv0 : v0 = (checkFlash (⟨ws, fu⟩ : Flash))) v1 (hv1 : v1 = (wipeCh (1 : Int))) v2 (hv2 : v2 = (doCh (⟨ws, fu⟩ : Flash) v1)) v3 (hv3 : v3 = (wipeCh (0 : Int))) v4 (hv4 : v4 = (doCh (⟨((v2).fst).words, ((v2).fst).fuel⟩ : Flash) v3)) v5 (hv5 : v5 = (burnCh (0 : Int) ((1 : Int) :: []))) v6 (hv6 : v6 = (doCh (⟨((v4).fst).words, ((v4).fst).fuel⟩ : Flash) v5)) : segD Γ_log_Format tab fn_log_Format 0 K rec [.code (bodyOf fn_log_Format)] (initSt [.agg [.dat (Ty.list Ty.int) ws, .dat Ty.int fu]] []) = (
    br (!(eqi v0 (0 : Int)))
     (K (.tup [.agg [.dat (Ty.list Ty.int) [], .dat Ty.int (0 : Int)], .one (.dat Ty.int v0)]) [])
     (br (lti (((len ws) : Nat) : Int) (64 : Int))
       (K (.tup [.agg [.dat (Ty.list Ty.int) [], .dat Ty.int (0 : Int)], .one (.dat Ty.int (4 : Int))]) [])
       ((((len ws) * 8) ≤ 140737488355328) ∧
        ((((-(1 : Int)) ≤ fu) ∧ ((fu ≤ (100000 : Int)) ∧ (((0 : Int) ≤ (1 : Int)) ∧ (((((1 : Int) + (1 : Int)) * (32 : Int)) ≤ (((len ws) : Nat) : Int)) ∧ ((len ws) ≤ 192))))) ∧
        (br (!(v2).snd)
         (K (.tup [.agg [.dat (Ty.list Ty.int) ((v2).fst).words, .dat Ty.int ((v2).fst).fuel], .one (.dat Ty.int (7 : Int))]) [])
         ((((-(1 : Int)) ≤ ((v2).fst).fuel) ∧ ((((v2).fst).fuel ≤ (100000 : Int)) ∧ (((0 : Int) ≤ (0 : Int)) ∧ (((((0 : Int) + (1 : Int)) * (32 : Int)) ≤ (((len ((v2).fst).words) : Nat) : Int)) ∧ ((len ((v2).fst).words) ≤ 192))))) ∧
          (br (!(v4).snd)
           (K (.tup [.agg [.dat (Ty.list Ty.int) ((v4).fst).words, .dat Ty.int ((v4).fst).fuel], .one (.dat Ty.int (7 : Int))]) [])
           ((((-(1 : Int)) ≤ ((v4).fst).fuel) ∧ ((((v4).fst).fuel ≤ (100000 : Int)) ∧ (((0 : Int) ≤ (0 : Int)) ∧ ((((0 : Int) + (((len ((1 : Int) :: [])) : Nat) : Int)) ≤ (((len ((v4).fst).words) : Nat) : Int)) ∧ ((len ((v4).fst).words) ≤ 192))))) ∧
            (br (!(v6).snd)
             (K (.tup [.agg [.dat (Ty.list Ty.int) ((v6).fst).words, .dat Ty.int ((v6).fst).fuel], .one (.dat Ty.int (7 : Int))]) [])
             (K (.tup [.agg [.dat (Ty.list Ty.int) ((v6).fst).words, .dat Ty.int ((v6).fst).fuel], .one (.dat Ty.int (0 : Int))]) [])))))))))) := by subst hv6; subst hv5; subst hv4; subst hv3; subst hv2; subst hv1; subst hv0; kernel_rfl
theorem log_Format_w (ws : List Int) (fu : Int) (m : Nat) (K : V → List Blk → Prop) : goD Γ_log_Format tab fn_log_Format 0 K (m + 1) [.code (bodyOf fn_log_Format)] (initSt [.agg [.dat (Ty.list Ty.int) ws, .dat Ty.int fu]] []) = segD Γ_log_Format tab fn_log_Format 0 K (goD Γ_log_Format tab fn_log_Format 0 K m) [.code (bodyOf fn_log_Format)] (initSt [.agg [.dat (Ty.list Ty.int) ws, .dat Ty.int fu]] []) := rfl

set_option maxHeartbeats 4000000 in
theorem run_log_Format (ws : List Int) (fu : Int) (K : V → List Blk → Prop) (hK : K (.tup [.agg [.dat (.list .int) (formatF ⟨ws, fu⟩).1.words, .dat .int (formatF ⟨ws, fu⟩).1.fuel], .one (.dat .int (formatF ⟨ws, fu⟩).2)]) []) : ∃ m, goD Γ_log_Format tab fn_log_Format 0 K m [.code (bodyOf fn_log_Format)] (initSt [.agg [.dat (.list .int) ws, .dat .int fu]] []) := by
  refine ⟨1, ?_⟩
  rw [log_Format_w, log_Format_vc _ _ _ _ _ rfl _ rfl _ rfl _ rfl _ rfl _ rfl _ rfl]
  unfold formatF at hK
  refine ne_s (fun h => ?_) (fun h => ?_)
  · rw [if_neg h] at hK; exact hK
  rw [if_pos h] at hK
  obtain ⟨c1, c2, c3, c4⟩ := checkFlash_ok h
  obtain ⟨c5, c6⟩ := okLen_le c1
  simp only at c2 c3 c5 c6
  refine lt_s (fun h2 => ?_) (fun h2 => ?_)
  · rw [if_neg (by simp only [len] at h2 ⊢; omega)] at hK; exact hK
  rw [if_pos (by simp only [len] at h2 ⊢; omega)] at hK
  unfold formatCh at hK
  rw [doCh_append, doCh_append] at hK
  obtain ⟨f1, f2⟩ := doCh_fuel ⟨ws, fu⟩ (wipeCh 1) c2 c3
  have l1 := doCh_len ⟨ws, fu⟩ (wipeCh 1)
  obtain ⟨g1, g2⟩ := doCh_fuel (doCh ⟨ws, fu⟩ (wipeCh 1)).1 (wipeCh 0) f1 f2
  have l2 := doCh_len (doCh ⟨ws, fu⟩ (wipeCh 1)).1 (wipeCh 0)
  simp only [len] at h2 l1 l2 ⊢
  refine ⟨by omega, ⟨c2, c3, by omega, by omega, by omega⟩, nt_s (fun h3 => ?_) (fun h3 => ⟨⟨f1, f2, by omega, by omega, by omega⟩, nt_s (fun h4 => ?_) (fun h4 => ⟨⟨g1, g2, by omega, ?_, ?_⟩, nt_s (fun h5 => ?_) (fun h5 => ?_)⟩)⟩)⟩
  · rw [if_neg (show ¬ (doCh ⟨ws, fu⟩ (wipeCh 1)).2 = true by simp [h3]), if_neg (by simp [h3])] at hK
    simp only [power, powerE, h3] at hK; exact hK
  · rw [if_pos h3, if_neg (show ¬ (doCh (doCh ⟨ws, fu⟩ (wipeCh 1)).1 (wipeCh 0)).2 = true from by rw [show (doCh (doCh ⟨ws, fu⟩ (wipeCh 1)).1 (wipeCh 0)).2 = false from h4]; simp)] at hK
    simp only [power] at hK
    rw [show (doCh (doCh ⟨ws, fu⟩ (wipeCh 1)).1 (wipeCh 0)).2 = false from h4] at hK
    exact hK
  · show (0 : Int) + _ ≤ ((doCh (doCh ⟨ws, fu⟩ (wipeCh 1)).1 (wipeCh 0)).1.words.length : Int)
    simp only [List.length_cons, List.length_nil]; omega
  · show (doCh (doCh ⟨ws, fu⟩ (wipeCh 1)).1 (wipeCh 0)).1.words.length ≤ _
    omega
  · rw [if_pos h3, if_pos (show (doCh (doCh ⟨ws, fu⟩ (wipeCh 1)).1 (wipeCh 0)).2 = true from h4)] at hK
    simp only [power] at hK
    rw [show (doCh (doCh (doCh ⟨ws, fu⟩ (wipeCh 1)).1 (wipeCh 0)).1 (burnCh 0 [1])).2 = false from h5] at hK
    exact hK
  · rw [if_pos h3, if_pos (show (doCh (doCh ⟨ws, fu⟩ (wipeCh 1)).1 (wipeCh 0)).2 = true from h4)] at hK
    simp only [power] at hK
    rw [show (doCh (doCh (doCh ⟨ws, fu⟩ (wipeCh 1)).1 (wipeCh 0)).1 (burnCh 0 [1])).2 = true from h5] at hK
    exact hK
theorem sound_log_Format : SoundC Tryd.prog tab n_log_Format c_log_Format := soundC_of ok_log_Format hf_log_Format hB_log_Format (by
  intro vs bs p v bs' h hp
  unfold c_log_Format at h
  split at h
  · cases h
    exact ⟨by kernel_rfl, rfl, .inl (run_log_Format _ _ _ ⟨rfl, rfl⟩)⟩
  · cases h)

def c_gate_New : Contract := fun vs bs => match vs, bs with
  | [.agg [.dat .int rv, .dat (.list .int) rk, .dat .int rt], .one (.dat .int units)], [] => some (some (len rk * 8 ≤ 140737488355328), .tup [.agg [.dat (.list .int) (newG ⟨rv, rk, rt⟩ units).1.f.words, .dat .int (newG ⟨rv, rk, rt⟩ units).1.f.fuel, .dat .bool (newG ⟨rv, rk, rt⟩ units).1.up, .dat .int (newG ⟨rv, rk, rt⟩ units).1.t.r.version, .dat (.list .int) (newG ⟨rv, rk, rt⟩ units).1.t.r.keys, .dat .int (newG ⟨rv, rk, rt⟩ units).1.t.r.thr, .dat .int (newG ⟨rv, rk, rt⟩ units).1.t.version, .dat (.list .bool) (newG ⟨rv, rk, rt⟩ units).1.voted, .dat (.list .bool) (newG ⟨rv, rk, rt⟩ units).1.did], .one (.dat .int (newG ⟨rv, rk, rt⟩ units).2)], [])
  | _, _ => none
def Γ_gate_New : Ctx := [(n_flash_New, c_flash_New), (n_log_Format, c_log_Format), (n_slices_Clone_Lint_d, c_slices_Clone_Lint_d), (n_gate_Check, c_gate_Check)]
theorem ok_gate_New : Ok Tryd.prog tab Γ_gate_New := ((((ok_nil.consC hf_gate_Check hB_gate_Check sound_gate_Check).consC hf_slices_Clone_Lint_d hB_slices_Clone_Lint_d sound_slices_Clone_Lint_d).consC hf_log_Format hB_log_Format sound_log_Format).consC hf_flash_New hB_flash_New sound_flash_New)
theorem gate_New_vc (rv : Int) (rk : List Int) (rt : Int) (units : Int) (rec : List It → St → Prop) (K : V → List Blk → Prop) v0 (hv0 : v0 = (applyCh (zeros (Int.toNat ((2 : Int) * (32 : Int))) (65535 : Int)) formatCh)) v1 (hv1 : v1 = (checkG (⟨(⟨v0, (-(1 : Int))⟩ : Vm.Flash), true, (⟨(⟨rv, rk, rt⟩ : Vm.Root), (0 : Int)⟩ : Vm.Trust), (zeros (Int.toNat units) (Ty.dflt Ty.bool)), (zeros (Int.toNat units) (Ty.dflt Ty.bool))⟩ : Vm.Gate))) : segD Γ_gate_New tab fn_gate_New 0 K rec [.code (bodyOf fn_gate_New)] (initSt [.agg [.dat Ty.int rv, .dat (Ty.list Ty.int) rk, .dat Ty.int rt], .one (.dat Ty.int units)] []) = (
    br (lti units (1 : Int))
     (K (.tup [.agg [.dat (Ty.list Ty.int) [], .dat Ty.int (0 : Int), .dat Ty.bool false, .dat Ty.int (0 : Int), .dat (Ty.list Ty.int) [], .dat Ty.int (0 : Int), .dat Ty.int (0 : Int), .dat (Ty.list Ty.bool) [], .dat (Ty.list Ty.bool) []], .one (.dat Ty.int (3 : Int))]) [])
     (br (lti (4 : Int) units)
       (K (.tup [.agg [.dat (Ty.list Ty.int) [], .dat Ty.int (0 : Int), .dat Ty.bool false, .dat Ty.int (0 : Int), .dat (Ty.list Ty.int) [], .dat Ty.int (0 : Int), .dat Ty.int (0 : Int), .dat (Ty.list Ty.bool) [], .dat (Ty.list Ty.bool) []], .one (.dat Ty.int (3 : Int))]) [])
       ((((len rk) * 8) ≤ 140737488355328) ∧
        ((((0 : Int) ≤ units) ∧ (((units * ((1 : Nat) : Int)) ≤ (140737488355328 : Int)) ∧ (units ≤ (140737488355328 : Int)))) ∧
        ((((0 : Int) ≤ units) ∧ (((units * ((1 : Nat) : Int)) ≤ (140737488355328 : Int)) ∧ (units ≤ (140737488355328 : Int)))) ∧
        (br (!(eqi v1 (0 : Int)))
         (K (.tup [.agg [.dat (Ty.list Ty.int) [], .dat Ty.int (0 : Int), .dat Ty.bool false, .dat Ty.int (0 : Int), .dat (Ty.list Ty.int) [], .dat Ty.int (0 : Int), .dat Ty.int (0 : Int), .dat (Ty.list Ty.bool) [], .dat (Ty.list Ty.bool) []], .one (.dat Ty.int v1)]) [])
         (K (.tup [.agg [.dat (Ty.list Ty.int) v0, .dat Ty.int (-(1 : Int)), .dat Ty.bool true, .dat Ty.int rv, .dat (Ty.list Ty.int) rk, .dat Ty.int rt, .dat Ty.int (0 : Int), .dat (Ty.list Ty.bool) (zeros (Int.toNat units) (Ty.dflt Ty.bool)), .dat (Ty.list Ty.bool) (zeros (Int.toNat units) (Ty.dflt Ty.bool))], .one (.dat Ty.int (0 : Int))]) []))))))) := by subst hv1; subst hv0; kernel_rfl
theorem gate_New_w (rv : Int) (rk : List Int) (rt : Int) (units : Int) (m : Nat) (K : V → List Blk → Prop) : goD Γ_gate_New tab fn_gate_New 0 K (m + 1) [.code (bodyOf fn_gate_New)] (initSt [.agg [.dat Ty.int rv, .dat (Ty.list Ty.int) rk, .dat Ty.int rt], .one (.dat Ty.int units)] []) = segD Γ_gate_New tab fn_gate_New 0 K (goD Γ_gate_New tab fn_gate_New 0 K m) [.code (bodyOf fn_gate_New)] (initSt [.agg [.dat Ty.int rv, .dat (Ty.list Ty.int) rk, .dat Ty.int rt], .one (.dat Ty.int units)] []) := rfl

set_option maxHeartbeats 4000000 in
theorem run_gate_New (rv : Int) (rk : List Int) (rt units : Int) (hp : len rk * 8 ≤ 140737488355328) (K : V → List Blk → Prop) (hK : K (.tup [.agg [.dat (.list .int) (newG ⟨rv, rk, rt⟩ units).1.f.words, .dat .int (newG ⟨rv, rk, rt⟩ units).1.f.fuel, .dat .bool (newG ⟨rv, rk, rt⟩ units).1.up, .dat .int (newG ⟨rv, rk, rt⟩ units).1.t.r.version, .dat (.list .int) (newG ⟨rv, rk, rt⟩ units).1.t.r.keys, .dat .int (newG ⟨rv, rk, rt⟩ units).1.t.r.thr, .dat .int (newG ⟨rv, rk, rt⟩ units).1.t.version, .dat (.list .bool) (newG ⟨rv, rk, rt⟩ units).1.voted, .dat (.list .bool) (newG ⟨rv, rk, rt⟩ units).1.did], .one (.dat .int (newG ⟨rv, rk, rt⟩ units).2)]) []) : ∃ m, goD Γ_gate_New tab fn_gate_New 0 K m [.code (bodyOf fn_gate_New)] (initSt [.agg [.dat .int rv, .dat (.list .int) rk, .dat .int rt], .one (.dat .int units)] []) := by
  refine ⟨1, ?_⟩
  rw [gate_New_w, gate_New_vc _ _ _ _ _ _ _ rfl _ rfl]
  have e0 : (formatF (newFlash 2).1).1 = ⟨applyCh (zeros (Int.toNat ((2 : Int) * (32 : Int))) (65535 : Int)) formatCh, -1⟩ := by kernel_rfl
  unfold newG madeG at hK
  rw [e0] at hK
  by_cases c : units < 1 ∨ 4 < units
  · rw [if_pos c] at hK
    exact lt_s (fun _ => hK) (fun _ => lt_t (by omega) hK)
  rw [if_neg c] at hK
  refine lt_f (by omega) (lt_f (by omega) ⟨hp, ⟨by omega, by omega, by omega⟩, ⟨by omega, by omega, by omega⟩, ne_s (fun h => ?_) (fun h => ?_)⟩)
  · rw [if_neg (by exact h)] at hK; exact hK
  · rw [if_pos (by exact h)] at hK; exact hK
theorem sound_gate_New : SoundC Tryd.prog tab n_gate_New c_gate_New := soundC_of ok_gate_New hf_gate_New hB_gate_New (by
  intro vs bs p v bs' h hp
  unfold c_gate_New at h
  split at h
  · cases h
    exact ⟨by kernel_rfl, rfl, .inl (run_gate_New _ _ _ _ hp.1 _ ⟨rfl, rfl⟩)⟩
  · cases h)

def c_gate_up : Contract := fun vs bs => match vs, bs with
  | [.agg [.dat (.list .int) ws, .dat .int fu, .dat .bool up, .dat .int tv, .dat (.list .int) tk, .dat .int tt, .dat .int tn, .dat (.list .bool) vo, .dat (.list .bool) di]], [] => some (none, .one (.dat .int (upG ⟨⟨ws, fu⟩, up, ⟨⟨tv, tk, tt⟩, tn⟩, vo, di⟩)), [])
  | _, _ => none
def Γ_gate_up : Ctx := [(n_gate_Check, c_gate_Check)]
theorem ok_gate_up : Ok Tryd.prog tab Γ_gate_up := (ok_nil.consC hf_gate_Check hB_gate_Check sound_gate_Check)
theorem gate_up_vc (ws : List Int) (fu : Int) (up : Bool) (tv : Int) (tk : List Int) (tt : Int) (tn : Int) (vo : List Bool) (di : List Bool) (rec : List It → St → Prop) (K : V → List Blk → Prop) v0 (hv0 : v0 = (checkG (⟨(⟨ws, fu⟩ : Vm.Flash), up, (⟨(⟨tv, tk, tt⟩ : Vm.Root), tn⟩ : Vm.Trust), vo, di⟩ : Vm.Gate))) : segD Γ_gate_up tab fn_gate_up 0 K rec [.code (bodyOf fn_gate_up)] (initSt [.agg [.dat (Ty.list Ty.int) ws, .dat Ty.int fu, .dat Ty.bool up, .dat Ty.int tv, .dat (Ty.list Ty.int) tk, .dat Ty.int tt, .dat Ty.int tn, .dat (Ty.list Ty.bool) vo, .dat (Ty.list Ty.bool) di]] []) = (
    br (!(eqi v0 (0 : Int)))
     (K (.one (.dat Ty.int v0)) [])
     (br (!up)
       (K (.one (.dat Ty.int (7 : Int))) [])
       (K (.one (.dat Ty.int (0 : Int))) []))) := by subst hv0; kernel_rfl
theorem gate_up_w (ws : List Int) (fu : Int) (up : Bool) (tv : Int) (tk : List Int) (tt : Int) (tn : Int) (vo : List Bool) (di : List Bool) (m : Nat) (K : V → List Blk → Prop) : goD Γ_gate_up tab fn_gate_up 0 K (m + 1) [.code (bodyOf fn_gate_up)] (initSt [.agg [.dat (Ty.list Ty.int) ws, .dat Ty.int fu, .dat Ty.bool up, .dat Ty.int tv, .dat (Ty.list Ty.int) tk, .dat Ty.int tt, .dat Ty.int tn, .dat (Ty.list Ty.bool) vo, .dat (Ty.list Ty.bool) di]] []) = segD Γ_gate_up tab fn_gate_up 0 K (goD Γ_gate_up tab fn_gate_up 0 K m) [.code (bodyOf fn_gate_up)] (initSt [.agg [.dat (Ty.list Ty.int) ws, .dat Ty.int fu, .dat Ty.bool up, .dat Ty.int tv, .dat (Ty.list Ty.int) tk, .dat Ty.int tt, .dat Ty.int tn, .dat (Ty.list Ty.bool) vo, .dat (Ty.list Ty.bool) di]] []) := rfl

set_option maxHeartbeats 4000000 in
theorem run_gate_up (ws : List Int) (fu : Int) (up : Bool) (tv : Int) (tk : List Int) (tt tn : Int) (vo di : List Bool) (K : V → List Blk → Prop) (hK : K (.one (.dat .int (upG ⟨⟨ws, fu⟩, up, ⟨⟨tv, tk, tt⟩, tn⟩, vo, di⟩))) []) : ∃ m, goD Γ_gate_up tab fn_gate_up 0 K m [.code (bodyOf fn_gate_up)] (initSt [.agg [.dat (.list .int) ws, .dat .int fu, .dat .bool up, .dat .int tv, .dat (.list .int) tk, .dat .int tt, .dat .int tn, .dat (.list .bool) vo, .dat (.list .bool) di]] []) := by
  refine ⟨1, ?_⟩
  rw [gate_up_w, gate_up_vc _ _ _ _ _ _ _ _ _ _ _ _ rfl]
  unfold upG at hK
  refine ne_s (fun h => ?_) (fun h => ?_)
  · rw [if_neg h] at hK; exact hK
  · rw [if_pos h] at hK
    cases up
    · exact nt_t rfl hK
    · exact nt_f rfl hK
theorem sound_gate_up : SoundC Tryd.prog tab n_gate_up c_gate_up := soundC_of ok_gate_up hf_gate_up hB_gate_up (by
  intro vs bs p v bs' h hp
  unfold c_gate_up at h
  split at h
  · cases h
    exact ⟨by kernel_rfl, rfl, .inl (run_gate_up _ _ _ _ _ _ _ _ _ _ ⟨rfl, rfl⟩)⟩
  · cases h)

def c_gate_of : Contract := fun vs bs => match vs, bs with
  | [.agg [.dat (.list .int) ws, .dat .int fu, .dat .bool _, .dat .int _, .dat (.list .int) _, .dat .int _, .dat .int _, .dat (.list .bool) _, .dat (.list .bool) _]], [] => some (none, .agg [.dat .int (ofG ⟨ws, fu⟩).n, .dat .int (ofG ⟨ws, fu⟩).version, .dat .bool (ofG ⟨ws, fu⟩).commit, .dat .bool (ofG ⟨ws, fu⟩).abort, .dat .bool (ofG ⟨ws, fu⟩).ended], [])
  | _, _ => none
def Γ_gate_of : Ctx := [(n_log_Records, c_log_Records), (n_gate_state, c_gate_state)]
theorem ok_gate_of : Ok Tryd.prog tab Γ_gate_of := ((ok_nil.consC hf_gate_state hB_gate_state sound_gate_state).consC hf_log_Records hB_log_Records sound_log_Records)
theorem gate_of_vc (ws : List Int) (fu : Int) (up : Bool) (tv : Int) (tk : List Int) (tt : Int) (tn : Int) (vo : List Bool) (di : List Bool) (rec : List It → St → Prop) (K : V → List Blk → Prop) v0 (hv0 : v0 = (recordsF (⟨ws, fu⟩ : Vm.Flash))) v1 (hv1 : v1 = (nonE (v0).fst)) v2 (hv2 : v2 = (stateG (v0).fst)) : segD Γ_gate_of tab fn_gate_of 0 K rec [.code (bodyOf fn_gate_of)] (initSt [.agg [.dat (Ty.list Ty.int) ws, .dat Ty.int fu, .dat Ty.bool up, .dat Ty.int tv, .dat (Ty.list Ty.int) tk, .dat Ty.int tt, .dat Ty.int tn, .dat (Ty.list Ty.bool) vo, .dat (Ty.list Ty.bool) di]] []) = (
    (((len (v0).fst) ≤ 1000) ∧ (v1 = true)) ∧
    (K (.agg [.dat Ty.int (v2).n, .dat Ty.int (v2).version, .dat Ty.bool (v2).commit, .dat Ty.bool (v2).abort, .dat Ty.bool (v2).ended]) [])) := by subst hv2; subst hv1; subst hv0; kernel_rfl
theorem gate_of_w (ws : List Int) (fu : Int) (up : Bool) (tv : Int) (tk : List Int) (tt : Int) (tn : Int) (vo : List Bool) (di : List Bool) (m : Nat) (K : V → List Blk → Prop) : goD Γ_gate_of tab fn_gate_of 0 K (m + 1) [.code (bodyOf fn_gate_of)] (initSt [.agg [.dat (Ty.list Ty.int) ws, .dat Ty.int fu, .dat Ty.bool up, .dat Ty.int tv, .dat (Ty.list Ty.int) tk, .dat Ty.int tt, .dat Ty.int tn, .dat (Ty.list Ty.bool) vo, .dat (Ty.list Ty.bool) di]] []) = segD Γ_gate_of tab fn_gate_of 0 K (goD Γ_gate_of tab fn_gate_of 0 K m) [.code (bodyOf fn_gate_of)] (initSt [.agg [.dat (Ty.list Ty.int) ws, .dat Ty.int fu, .dat Ty.bool up, .dat Ty.int tv, .dat (Ty.list Ty.int) tk, .dat Ty.int tt, .dat Ty.int tn, .dat (Ty.list Ty.bool) vo, .dat (Ty.list Ty.bool) di]] []) := rfl

set_option maxHeartbeats 4000000 in
theorem run_gate_of (ws : List Int) (fu : Int) (up : Bool) (tv : Int) (tk : List Int) (tt tn : Int) (vo di : List Bool) (K : V → List Blk → Prop) (hK : K (.agg [.dat .int (ofG ⟨ws, fu⟩).n, .dat .int (ofG ⟨ws, fu⟩).version, .dat .bool (ofG ⟨ws, fu⟩).commit, .dat .bool (ofG ⟨ws, fu⟩).abort, .dat .bool (ofG ⟨ws, fu⟩).ended]) []) : ∃ m, goD Γ_gate_of tab fn_gate_of 0 K m [.code (bodyOf fn_gate_of)] (initSt [.agg [.dat (.list .int) ws, .dat .int fu, .dat .bool up, .dat .int tv, .dat (.list .int) tk, .dat .int tt, .dat .int tn, .dat (.list .bool) vo, .dat (.list .bool) di]] []) := by
  refine ⟨1, ?_⟩
  rw [gate_of_w, gate_of_vc _ _ _ _ _ _ _ _ _ _ _ _ rfl _ rfl _ rfl]
  have h := recordsF_ok2 ⟨ws, fu⟩
  exact ⟨⟨by simp only [len]; omega, nonE_of h.2⟩, hK⟩
theorem sound_gate_of : SoundC Tryd.prog tab n_gate_of c_gate_of := soundC_of ok_gate_of hf_gate_of hB_gate_of (by
  intro vs bs p v bs' h hp
  unfold c_gate_of at h
  split at h
  · cases h
    exact ⟨by kernel_rfl, rfl, .inl (run_gate_of _ _ _ _ _ _ _ _ _ _ ⟨rfl, rfl⟩)⟩
  · cases h)

def c_meta_list : Contract := fun vs bs => match vs, bs with
  | [.one (.dat (.list .int) l)], [] => some (some (len l ≤ 1000 ∧ nums l = true), .one (.dat .str (listT l)), [])
  | _, _ => none
def Γ_meta_list : Ctx := [(n_strconv_Itoa, c_strconv_Itoa), (n_strings_Join, c_strings_Join)]
theorem ok_meta_list : Ok Tryd.prog tab Γ_meta_list := ((ok_nil.consC hf_strings_Join hB_strings_Join sound_strings_Join).consC hf_strconv_Itoa hB_strconv_Itoa sound_strconv_Itoa)
noncomputable def meta_list_L0 : List It := [.inLoop [8, 7, 6, 3, 2] (Code.sub (bodyOf fn_meta_list) [1, 1, 0, 1, 0, 0]), .inBlock 0, .code (Code.sub (bodyOf fn_meta_list) [1, 1, 1])]
def meta_list_S0 (x0 : Int) (x1 : Int) (x2 : (List Int)) (x3 : (List UInt8)) (x4 : (List (List UInt8))) : St := ⟨[(8, .one (.dat Ty.int x0)), (7, .one (.dat Ty.int x1)), (6, .one (.dat (Ty.list Ty.int) x2)), (3, .one (.own 0)), (2, .one (.dat Ty.str x3))], [(0, .arr Ty.str x4)], 1⟩
theorem meta_list_vc (l : List Int) (rec : List It → St → Prop) (K : V → List Blk → Prop) : segD Γ_meta_list tab fn_meta_list 0 K rec [.code (bodyOf fn_meta_list)] (initSt [.one (.dat (Ty.list Ty.int) l)] []) = (
    rec meta_list_L0 (meta_list_S0 (0 : Int) (((len l) : Nat) : Int) l [] [])) := by kernel_rfl
theorem meta_list_w (l : List Int) (m : Nat) (K : V → List Blk → Prop) : goD Γ_meta_list tab fn_meta_list 0 K (m + 1) [.code (bodyOf fn_meta_list)] (initSt [.one (.dat (Ty.list Ty.int) l)] []) = segD Γ_meta_list tab fn_meta_list 0 K (goD Γ_meta_list tab fn_meta_list 0 K m) [.code (bodyOf fn_meta_list)] (initSt [.one (.dat (Ty.list Ty.int) l)] []) := rfl
theorem meta_list_vc0 (x0 : Int) (x1 : Int) (x2 : (List Int)) (x3 : (List UInt8)) (x4 : (List (List UInt8))) (rec : List It → St → Prop) (K : V → List Blk → Prop) v0 (hv0 : v0 = (numT (nth x2 (Int.toNat x0) (Ty.dflt Ty.int)))) v1 (hv1 : v1 = (joinT ((32 : UInt8) :: []) x4)) : segD Γ_meta_list tab fn_meta_list 0 K rec (.code (Code.sub (bodyOf fn_meta_list) [1, 1, 0, 1, 0, 0]) :: meta_list_L0) (meta_list_S0 x0 x1 x2 x3 x4) = (
    br (lti x0 x1)
     ((((0 : Int) ≤ x0) ∧ (x0 < (((len x2) : Nat) : Int))) ∧
      ((((0 : Int) ≤ (nth x2 (Int.toNat x0) (Ty.dflt Ty.int))) ∧ ((nth x2 (Int.toNat x0) (Ty.dflt Ty.int)) ≤ (9223372036854775807 : Int))) ∧
      (((((len x4) + (len (v0 :: []))) * 16) ≤ 140737488355328) ∧
      (rec meta_list_L0 (meta_list_S0 (w64 (x0 + (1 : Int))) x1 x2 x3 (cat x4 (v0 :: [])))))))
     ((((List.length x4) ≤ 140737488355328) ∧ ((List.length v1) ≤ 140737488355328)) ∧
      (K (.one (.dat Ty.str v1)) []))) := by subst hv1; subst hv0; kernel_rfl
theorem meta_list_w0 (x0 : Int) (x1 : Int) (x2 : (List Int)) (x3 : (List UInt8)) (x4 : (List (List UInt8))) (m : Nat) (K : V → List Blk → Prop) : goD Γ_meta_list tab fn_meta_list 0 K (m + 1) meta_list_L0 (meta_list_S0 x0 x1 x2 x3 x4) = segD Γ_meta_list tab fn_meta_list 0 K (goD Γ_meta_list tab fn_meta_list 0 K m) (.code (Code.sub (bodyOf fn_meta_list) [1, 1, 0, 1, 0, 0]) :: meta_list_L0) (meta_list_S0 x0 x1 x2 x3 x4) := rfl

theorem loop_meta_list (l : List Int) (hl : l.length ≤ 1000) (hn : nums l = true) (K : V → List Blk → Prop) (hK : K (.one (.dat .str (listT l))) []) (y : List UInt8) : ∀ (d k : Nat), k + d = l.length →
    goD Γ_meta_list tab fn_meta_list 0 K (d + 1) meta_list_L0 (meta_list_S0 (k : Int) (((len l) : Nat) : Int) l y ((l.take k).map numT))
  | 0, k, hk => by
    rw [meta_list_w0, meta_list_vc0 _ _ _ _ _ _ _ _ rfl _ rfl, List.take_of_length_le (by omega)]
    have h1 := listT_len l
    unfold listT at h1
    exact lt_f (by simp only [len]; omega) ⟨⟨by rw [List.length_map]; omega, by omega⟩, hK⟩
  | d + 1, k, hk => by
    rw [meta_list_w0, meta_list_vc0 _ _ _ _ _ _ _ _ rfl _ rfl, toNat_nat]
    have hm : nth l k (Ty.dflt Ty.int) ∈ l := by
      have : k < l.length := by omega
      simp [nth, List.getD_eq_getElem?_getD, this]
    have h1 := List.all_eq_true.1 hn _ hm
    simp only [Bool.and_eq_true, decide_eq_true_eq] at h1
    refine lt_t (by simp only [len]; omega) ⟨⟨by omega, by simp only [len]; omega⟩, h1, by simp only [len, List.length_map, List.length_take, List.length_cons, List.length_nil]; omega, ?_⟩
    rw [w64_succ (by omega), show cat ((l.take k).map numT) [numT (nth l k (Ty.dflt Ty.int))] = (l.take (k + 1)).map numT from by rw [take_step (by omega) (Ty.dflt Ty.int)]; simp [cat]]
    exact loop_meta_list l hl hn K hK y d (k + 1) (by omega)
set_option maxHeartbeats 4000000 in
theorem run_meta_list (l : List Int) (hp : len l ≤ 1000 ∧ nums l = true) (K : V → List Blk → Prop) (hK : K (.one (.dat .str (listT l))) []) : ∃ m, goD Γ_meta_list tab fn_meta_list 0 K m [.code (bodyOf fn_meta_list)] (initSt [.one (.dat (.list .int) l)] []) := by
  refine ⟨l.length + 2, ?_⟩
  rw [meta_list_w, meta_list_vc _ _ _]
  exact loop_meta_list l hp.1 hp.2 K hK [] l.length 0 (by omega)
theorem sound_meta_list : SoundC Tryd.prog tab n_meta_list c_meta_list := soundC_of ok_meta_list hf_meta_list hB_meta_list (by
  intro vs bs p v bs' h hp
  unfold c_meta_list at h
  split at h
  · cases h
    exact ⟨by kernel_rfl, rfl, .inl (run_meta_list _ hp.1 _ ⟨rfl, rfl⟩)⟩
  · cases h)

def c_meta_RootText : Contract := fun vs bs => match vs, bs with
  | [.agg [.dat .int v, .dat (.list .int) ks, .dat .int t]], [] => some (none, .tup [.one (.dat .str (rootTextE v ks t).1), .one (.dat .int (rootTextE v ks t).2)], [])
  | _, _ => none
def Γ_meta_RootText : Ctx := [(n_meta_CheckRoot, c_meta_CheckRoot), (n_strconv_Itoa, c_strconv_Itoa), (n_meta_list, c_meta_list)]
theorem ok_meta_RootText : Ok Tryd.prog tab Γ_meta_RootText := (((ok_nil.consC hf_meta_list hB_meta_list sound_meta_list).consC hf_strconv_Itoa hB_strconv_Itoa sound_strconv_Itoa).consC hf_meta_CheckRoot hB_meta_CheckRoot sound_meta_CheckRoot)
theorem meta_RootText_vc (v : Int) (ks : List Int) (t : Int) (rec : List It → St → Prop) (K : V → List Blk → Prop) v0 (hv0 : v0 = (checkRoot v ks t)) v1 (hv1 : v1 = (numT v)) v2 (hv2 : v2 = (numT t)) v3 (hv3 : v3 = (nums ks)) v4 (hv4 : v4 = (listT ks)) : segD Γ_meta_RootText tab fn_meta_RootText 0 K rec [.code (bodyOf fn_meta_RootText)] (initSt [.agg [.dat Ty.int v, .dat (Ty.list Ty.int) ks, .dat Ty.int t]] []) = (
    br (!(eqi v0 (0 : Int)))
     (K (.tup [.one (.dat Ty.str []), .one (.dat Ty.int v0)]) [])
     ((((0 : Int) ≤ v) ∧ (v ≤ (9223372036854775807 : Int))) ∧
      ((((len ((114 : UInt8) :: ((111 : UInt8) :: ((111 : UInt8) :: ((116 : UInt8) :: ((32 : UInt8) :: [])))))) + (len v1)) ≤ 140737488355328) ∧
      ((((len (cat ((114 : UInt8) :: ((111 : UInt8) :: ((111 : UInt8) :: ((116 : UInt8) :: ((32 : UInt8) :: []))))) v1)) + (len ((32 : UInt8) :: []))) ≤ 140737488355328) ∧
      ((((0 : Int) ≤ t) ∧ (t ≤ (9223372036854775807 : Int))) ∧
      ((((len (cat (cat ((114 : UInt8) :: ((111 : UInt8) :: ((111 : UInt8) :: ((116 : UInt8) :: ((32 : UInt8) :: []))))) v1) ((32 : UInt8) :: []))) + (len v2)) ≤ 140737488355328) ∧
      ((((len (cat (cat (cat ((114 : UInt8) :: ((111 : UInt8) :: ((111 : UInt8) :: ((116 : UInt8) :: ((32 : UInt8) :: []))))) v1) ((32 : UInt8) :: [])) v2)) + (len ((32 : UInt8) :: ((111 : UInt8) :: ((102 : UInt8) :: ((32 : UInt8) :: [])))))) ≤ 140737488355328) ∧
      ((((len ks) ≤ 1000) ∧ (v3 = true)) ∧
      ((((len (cat (cat (cat (cat ((114 : UInt8) :: ((111 : UInt8) :: ((111 : UInt8) :: ((116 : UInt8) :: ((32 : UInt8) :: []))))) v1) ((32 : UInt8) :: [])) v2) ((32 : UInt8) :: ((111 : UInt8) :: ((102 : UInt8) :: ((32 : UInt8) :: [])))))) + (len v4)) ≤ 140737488355328) ∧
      (K (.tup [.one (.dat Ty.str (cat (cat (cat (cat (cat ((114 : UInt8) :: ((111 : UInt8) :: ((111 : UInt8) :: ((116 : UInt8) :: ((32 : UInt8) :: []))))) v1) ((32 : UInt8) :: [])) v2) ((32 : UInt8) :: ((111 : UInt8) :: ((102 : UInt8) :: ((32 : UInt8) :: []))))) v4)), .one (.dat Ty.int (0 : Int))]) [])))))))))) := by subst hv4; subst hv3; subst hv2; subst hv1; subst hv0; kernel_rfl
theorem meta_RootText_w (v : Int) (ks : List Int) (t : Int) (m : Nat) (K : V → List Blk → Prop) : goD Γ_meta_RootText tab fn_meta_RootText 0 K (m + 1) [.code (bodyOf fn_meta_RootText)] (initSt [.agg [.dat Ty.int v, .dat (Ty.list Ty.int) ks, .dat Ty.int t]] []) = segD Γ_meta_RootText tab fn_meta_RootText 0 K (goD Γ_meta_RootText tab fn_meta_RootText 0 K m) [.code (bodyOf fn_meta_RootText)] (initSt [.agg [.dat Ty.int v, .dat (Ty.list Ty.int) ks, .dat Ty.int t]] []) := rfl

set_option maxHeartbeats 4000000 in
theorem run_meta_RootText (v : Int) (ks : List Int) (t : Int) (K : V → List Blk → Prop) (hK : K (.tup [.one (.dat .str (rootTextE v ks t).1), .one (.dat .int (rootTextE v ks t).2)]) []) : ∃ m, goD Γ_meta_RootText tab fn_meta_RootText 0 K m [.code (bodyOf fn_meta_RootText)] (initSt [.agg [.dat .int v, .dat (.list .int) ks, .dat .int t]] []) := by
  refine ⟨1, ?_⟩
  rw [meta_RootText_w, meta_RootText_vc _ _ _ _ _ _ rfl _ rfl _ rfl _ rfl _ rfl]
  unfold rootTextE at hK
  refine ne_s (fun h => ?_) (fun h => ?_)
  · rw [if_neg h] at hK; exact hK
  rw [if_pos h] at hK
  obtain ⟨h1, h2, h3, h4, h5, h6⟩ := checkRoot_ok h
  have n1 := numT_len v
  have n2 := numT_len t
  have n3 := listT_len ks
  refine ⟨by omega, by simp only [len, List.length_cons, List.length_nil]; omega, by simp only [len, cat, List.length_append, List.length_cons, List.length_nil]; omega, by omega, by simp only [len, cat, List.length_append, List.length_cons, List.length_nil]; omega, by simp only [len, cat, List.length_append, List.length_cons, List.length_nil]; omega, ⟨by simp only [len]; omega, h6⟩, by simp only [len, cat, List.length_append, List.length_cons, List.length_nil]; omega, hK⟩
theorem sound_meta_RootText : SoundC Tryd.prog tab n_meta_RootText c_meta_RootText := soundC_of ok_meta_RootText hf_meta_RootText hB_meta_RootText (by
  intro vs bs p v bs' h hp
  unfold c_meta_RootText at h
  split at h
  · cases h
    exact ⟨by kernel_rfl, rfl, .inl (run_meta_RootText _ _ _ _ ⟨rfl, rfl⟩)⟩
  · cases h)

def c_slices_Index_Lstring : Contract := fun vs bs => match vs, bs with
  | [.one (.dat (.list .str) l), .one (.dat .str s)], [] => some (some (l.length ≤ 140737488355328), .one (.dat .int (indexS s l)), [])
  | _, _ => none
def Γ_slices_Index_Lstring : Ctx := []
theorem ok_slices_Index_Lstring : Ok Tryd.prog tab Γ_slices_Index_Lstring := ok_nil
noncomputable def slices_Index_Lstring_L0 : List It := [.inLoop [8, 7, 4, 0, 1] (Code.sub (bodyOf fn_slices_Index_Lstring) [1, 0, 1, 0, 0]), .inBlock 0, .code (Code.sub (bodyOf fn_slices_Index_Lstring) [1, 1])]
def slices_Index_Lstring_S0 (x0 : Int) (x1 : Int) (x2 : Int) (x3 : (List (List UInt8))) (x4 : (List UInt8)) : St := ⟨[(8, .one (.dat Ty.int x0)), (7, .one (.dat Ty.int x1)), (4, .one (.dat Ty.int x2)), (0, .one (.dat (Ty.list Ty.str) x3)), (1, .one (.dat Ty.str x4))], [], 0⟩
theorem slices_Index_Lstring_vc (l : List (List UInt8)) (s : List UInt8) (rec : List It → St → Prop) (K : V → List Blk → Prop) : segD Γ_slices_Index_Lstring tab fn_slices_Index_Lstring 0 K rec [.code (bodyOf fn_slices_Index_Lstring)] (initSt [.one (.dat (Ty.list Ty.str) l), .one (.dat Ty.str s)] []) = (
    rec slices_Index_Lstring_L0 (slices_Index_Lstring_S0 (0 : Int) (((len l) : Nat) : Int) (0 : Int) l s)) := by kernel_rfl
theorem slices_Index_Lstring_w (l : List (List UInt8)) (s : List UInt8) (m : Nat) (K : V → List Blk → Prop) : goD Γ_slices_Index_Lstring tab fn_slices_Index_Lstring 0 K (m + 1) [.code (bodyOf fn_slices_Index_Lstring)] (initSt [.one (.dat (Ty.list Ty.str) l), .one (.dat Ty.str s)] []) = segD Γ_slices_Index_Lstring tab fn_slices_Index_Lstring 0 K (goD Γ_slices_Index_Lstring tab fn_slices_Index_Lstring 0 K m) [.code (bodyOf fn_slices_Index_Lstring)] (initSt [.one (.dat (Ty.list Ty.str) l), .one (.dat Ty.str s)] []) := rfl
theorem slices_Index_Lstring_vc0 (x0 : Int) (x1 : Int) (x2 : Int) (x3 : (List (List UInt8))) (x4 : (List UInt8)) (rec : List It → St → Prop) (K : V → List Blk → Prop) : segD Γ_slices_Index_Lstring tab fn_slices_Index_Lstring 0 K rec (.code (Code.sub (bodyOf fn_slices_Index_Lstring) [1, 0, 1, 0, 0]) :: slices_Index_Lstring_L0) (slices_Index_Lstring_S0 x0 x1 x2 x3 x4) = (
    br (lti x0 x1)
     ((((0 : Int) ≤ x0) ∧ (x0 < (((len x3) : Nat) : Int))) ∧
      (br (eqs x4 (nth x3 (Int.toNat x0) (Ty.dflt Ty.str)))
       (K (.one (.dat Ty.int x0)) [])
       (rec slices_Index_Lstring_L0 (slices_Index_Lstring_S0 (w64 (x0 + (1 : Int))) x1 x2 x3 x4))))
     (K (.one (.dat Ty.int (-(1 : Int)))) [])) := by kernel_rfl
theorem slices_Index_Lstring_w0 (x0 : Int) (x1 : Int) (x2 : Int) (x3 : (List (List UInt8))) (x4 : (List UInt8)) (m : Nat) (K : V → List Blk → Prop) : goD Γ_slices_Index_Lstring tab fn_slices_Index_Lstring 0 K (m + 1) slices_Index_Lstring_L0 (slices_Index_Lstring_S0 x0 x1 x2 x3 x4) = segD Γ_slices_Index_Lstring tab fn_slices_Index_Lstring 0 K (goD Γ_slices_Index_Lstring tab fn_slices_Index_Lstring 0 K m) (.code (Code.sub (bodyOf fn_slices_Index_Lstring) [1, 0, 1, 0, 0]) :: slices_Index_Lstring_L0) (slices_Index_Lstring_S0 x0 x1 x2 x3 x4) := rfl

theorem loop_slices_Index_Lstring (l : List (List UInt8)) (s : List UInt8) (hl : l.length ≤ 140737488355328) (K : V → List Blk → Prop) : ∀ (d k : Nat), k + d = l.length → K (.one (.dat .int (indexFrom k s (l.drop k)))) [] →
    goD Γ_slices_Index_Lstring tab fn_slices_Index_Lstring 0 K (d + 1) slices_Index_Lstring_L0 (slices_Index_Lstring_S0 (k : Int) (((len l) : Nat) : Int) 0 l s)
  | 0, k, hk, hK => by
    rw [slices_Index_Lstring_w0, slices_Index_Lstring_vc0 _ _ _ _ _ _ _]
    rw [List.drop_of_length_le (by omega)] at hK
    exact lt_f (by simp only [len]; omega) hK
  | d + 1, k, hk, hK => by
    rw [slices_Index_Lstring_w0, slices_Index_Lstring_vc0 _ _ _ _ _ _ _, toNat_nat]
    rw [drop_step (by omega) (Ty.dflt Ty.str)] at hK
    simp only [indexFrom] at hK
    refine lt_t (by simp only [len]; omega) ⟨⟨by omega, by simp only [len]; omega⟩, br_split (fun h => ?_) (fun h => ?_)⟩
    · rw [eqs_true] at h
      rw [if_pos h.symm] at hK; exact hK
    · rw [eqs_false] at h
      rw [if_neg (fun e => h e.symm)] at hK
      rw [w64_succ (by omega)]
      exact loop_slices_Index_Lstring l s hl K d (k + 1) (by omega) hK
set_option maxHeartbeats 4000000 in
theorem run_slices_Index_Lstring (l : List (List UInt8)) (s : List UInt8) (hp : l.length ≤ 140737488355328) (K : V → List Blk → Prop) (hK : K (.one (.dat .int (indexS s l))) []) : ∃ m, goD Γ_slices_Index_Lstring tab fn_slices_Index_Lstring 0 K m [.code (bodyOf fn_slices_Index_Lstring)] (initSt [.one (.dat (.list .str) l), .one (.dat .str s)] []) := by
  refine ⟨l.length + 2, ?_⟩
  rw [slices_Index_Lstring_w, slices_Index_Lstring_vc _ _ _ _]
  exact loop_slices_Index_Lstring l s hp K l.length 0 (by omega) hK
theorem sound_slices_Index_Lstring : SoundC Tryd.prog tab n_slices_Index_Lstring c_slices_Index_Lstring := soundC_of ok_slices_Index_Lstring hf_slices_Index_Lstring hB_slices_Index_Lstring (by
  intro vs bs p v bs' h hp
  unfold c_slices_Index_Lstring at h
  split at h
  · cases h
    exact ⟨by kernel_rfl, rfl, .inl (run_slices_Index_Lstring _ _ hp.1 _ ⟨rfl, rfl⟩)⟩
  · cases h)

def c_slices_Contains_Lstring : Contract := fun vs bs => match vs, bs with
  | [.one (.dat (.list .str) l), .one (.dat .str s)], [] => some (some (l.length ≤ 140737488355328), .one (.dat .bool (hasS s l)), [])
  | _, _ => none
def Γ_slices_Contains_Lstring : Ctx := [(n_slices_Index_Lstring, c_slices_Index_Lstring)]
theorem ok_slices_Contains_Lstring : Ok Tryd.prog tab Γ_slices_Contains_Lstring := (ok_nil.consC hf_slices_Index_Lstring hB_slices_Index_Lstring sound_slices_Index_Lstring)
theorem slices_Contains_Lstring_vc (l : List (List UInt8)) (s : List UInt8) (rec : List It → St → Prop) (K : V → List Blk → Prop) v0 (hv0 : v0 = (indexS s l)) : segD Γ_slices_Contains_Lstring tab fn_slices_Contains_Lstring 0 K rec [.code (bodyOf fn_slices_Contains_Lstring)] (initSt [.one (.dat (Ty.list Ty.str) l), .one (.dat Ty.str s)] []) = (
    ((List.length l) ≤ 140737488355328) ∧
    (K (.one (.dat Ty.bool (lei (0 : Int) v0))) [])) := by subst hv0; kernel_rfl
theorem slices_Contains_Lstring_w (l : List (List UInt8)) (s : List UInt8) (m : Nat) (K : V → List Blk → Prop) : goD Γ_slices_Contains_Lstring tab fn_slices_Contains_Lstring 0 K (m + 1) [.code (bodyOf fn_slices_Contains_Lstring)] (initSt [.one (.dat (Ty.list Ty.str) l), .one (.dat Ty.str s)] []) = segD Γ_slices_Contains_Lstring tab fn_slices_Contains_Lstring 0 K (goD Γ_slices_Contains_Lstring tab fn_slices_Contains_Lstring 0 K m) [.code (bodyOf fn_slices_Contains_Lstring)] (initSt [.one (.dat (Ty.list Ty.str) l), .one (.dat Ty.str s)] []) := rfl

set_option maxHeartbeats 4000000 in
theorem run_slices_Contains_Lstring (l : List (List UInt8)) (s : List UInt8) (hp : l.length ≤ 140737488355328) (K : V → List Blk → Prop) (hK : K (.one (.dat .bool (hasS s l))) []) : ∃ m, goD Γ_slices_Contains_Lstring tab fn_slices_Contains_Lstring 0 K m [.code (bodyOf fn_slices_Contains_Lstring)] (initSt [.one (.dat (.list .str) l), .one (.dat .str s)] []) := by
  refine ⟨1, ?_⟩
  rw [slices_Contains_Lstring_w, slices_Contains_Lstring_vc _ _ _ _ _ rfl]
  rw [show lei 0 (indexS s l) = hasS s l from indexS_has s l]
  exact ⟨hp, hK⟩
theorem sound_slices_Contains_Lstring : SoundC Tryd.prog tab n_slices_Contains_Lstring c_slices_Contains_Lstring := soundC_of ok_slices_Contains_Lstring hf_slices_Contains_Lstring hB_slices_Contains_Lstring (by
  intro vs bs p v bs' h hp
  unfold c_slices_Contains_Lstring at h
  split at h
  · cases h
    exact ⟨by kernel_rfl, rfl, .inl (run_slices_Contains_Lstring _ _ hp.1 _ ⟨rfl, rfl⟩)⟩
  · cases h)

def c_meta_CheckBook : Contract := fun vs bs => match vs, bs with
  | [.agg [.dat (.list .str) l]], [] => some (none, .one (.dat .int (checkBook l)), [])
  | _, _ => none
def Γ_meta_CheckBook : Ctx := [(n_slices_Contains_Lstring, c_slices_Contains_Lstring)]
theorem ok_meta_CheckBook : Ok Tryd.prog tab Γ_meta_CheckBook := (ok_nil.consC hf_slices_Contains_Lstring hB_slices_Contains_Lstring sound_slices_Contains_Lstring)
noncomputable def meta_CheckBook_L0 : List It := [.inLoop [12, 11, 10, 2, 1] (Code.sub (bodyOf fn_meta_CheckBook) [1, 1, 0, 1, 0, 0]), .inBlock 0, .code (Code.sub (bodyOf fn_meta_CheckBook) [1, 1, 1])]
def meta_CheckBook_S0 (x0 : Int) (x1 : Int) (x2 : (List (List UInt8))) (x3 : Int) (x4 : (List (List UInt8))) : St := ⟨[(12, .one (.dat Ty.int x0)), (11, .one (.dat Ty.int x1)), (10, .one (.dat (Ty.list Ty.str) x2)), (2, .one (.dat Ty.int x3)), (1, .one (.ptr 0 0))], [(0, .box [.dat (Ty.list Ty.str) x4])], 1⟩
theorem meta_CheckBook_vc (l : List (List UInt8)) (rec : List It → St → Prop) (K : V → List Blk → Prop) : segD Γ_meta_CheckBook tab fn_meta_CheckBook 0 K rec [.code (bodyOf fn_meta_CheckBook)] (initSt [.agg [.dat (Ty.list Ty.str) l]] []) = (
    br (lti (60 : Int) (((len l) : Nat) : Int))
     (K (.one (.dat Ty.int (2 : Int))) [])
     (rec meta_CheckBook_L0 (meta_CheckBook_S0 (0 : Int) (((len l) : Nat) : Int) l (0 : Int) l))) := by kernel_rfl
theorem meta_CheckBook_w (l : List (List UInt8)) (m : Nat) (K : V → List Blk → Prop) : goD Γ_meta_CheckBook tab fn_meta_CheckBook 0 K (m + 1) [.code (bodyOf fn_meta_CheckBook)] (initSt [.agg [.dat (Ty.list Ty.str) l]] []) = segD Γ_meta_CheckBook tab fn_meta_CheckBook 0 K (goD Γ_meta_CheckBook tab fn_meta_CheckBook 0 K m) [.code (bodyOf fn_meta_CheckBook)] (initSt [.agg [.dat (Ty.list Ty.str) l]] []) := rfl
theorem meta_CheckBook_vc0 (x0 : Int) (x1 : Int) (x2 : (List (List UInt8))) (x3 : Int) (x4 : (List (List UInt8))) (rec : List It → St → Prop) (K : V → List Blk → Prop) v0 (hv0 : v0 = (hasS (nth x2 (Int.toNat x0) (Ty.dflt Ty.str)) (slc x4 (Int.toNat (0 : Int)) (Int.toNat x0)))) : segD Γ_meta_CheckBook tab fn_meta_CheckBook 0 K rec (.code (Code.sub (bodyOf fn_meta_CheckBook) [1, 1, 0, 1, 0, 0]) :: meta_CheckBook_L0) (meta_CheckBook_S0 x0 x1 x2 x3 x4) = (
    br (lti x0 x1)
     ((((0 : Int) ≤ x0) ∧ (x0 < (((len x2) : Nat) : Int))) ∧
      (br (lti (2000 : Int) (((len (nth x2 (Int.toNat x0) (Ty.dflt Ty.str))) : Nat) : Int))
       (K (.one (.dat Ty.int (2 : Int))) [])
       ((((0 : Int) ≤ (0 : Int)) ∧ (((0 : Int) ≤ x0) ∧ (x0 ≤ (((len x4) : Nat) : Int)))) ∧
        (((List.length (slc x4 (Int.toNat (0 : Int)) (Int.toNat x0))) ≤ 140737488355328) ∧
        (br v0
         (K (.one (.dat Ty.int (6 : Int))) [])
         (rec meta_CheckBook_L0 (meta_CheckBook_S0 (w64 (x0 + (1 : Int))) x1 x2 x3 x4)))))))
     (K (.one (.dat Ty.int (0 : Int))) [])) := by subst hv0; kernel_rfl
theorem meta_CheckBook_w0 (x0 : Int) (x1 : Int) (x2 : (List (List UInt8))) (x3 : Int) (x4 : (List (List UInt8))) (m : Nat) (K : V → List Blk → Prop) : goD Γ_meta_CheckBook tab fn_meta_CheckBook 0 K (m + 1) meta_CheckBook_L0 (meta_CheckBook_S0 x0 x1 x2 x3 x4) = segD Γ_meta_CheckBook tab fn_meta_CheckBook 0 K (goD Γ_meta_CheckBook tab fn_meta_CheckBook 0 K m) (.code (Code.sub (bodyOf fn_meta_CheckBook) [1, 1, 0, 1, 0, 0]) :: meta_CheckBook_L0) (meta_CheckBook_S0 x0 x1 x2 x3 x4) := rfl

theorem loop_meta_CheckBook (l : List (List UInt8)) (hl : l.length ≤ 60) (K : V → List Blk → Prop) : ∀ (d k : Nat), k + d = l.length → K (.one (.dat .int (bookFrom (l.take k) (l.drop k)))) [] →
    goD Γ_meta_CheckBook tab fn_meta_CheckBook 0 K (d + 1) meta_CheckBook_L0 (meta_CheckBook_S0 (k : Int) (((len l) : Nat) : Int) l 0 l)
  | 0, k, hk, hK => by
    rw [meta_CheckBook_w0, meta_CheckBook_vc0 _ _ _ _ _ _ _ _ rfl]
    rw [List.drop_of_length_le (by omega)] at hK
    exact lt_f (by simp only [len]; omega) hK
  | d + 1, k, hk, hK => by
    rw [meta_CheckBook_w0, meta_CheckBook_vc0 _ _ _ _ _ _ _ _ rfl, toNat_nat, show Int.toNat (0 : Int) = 0 from rfl, slc_take]
    rw [drop_step (by omega) (Ty.dflt Ty.str)] at hK
    simp only [bookFrom] at hK
    refine lt_t (by simp only [len]; omega) ⟨⟨by omega, by simp only [len]; omega⟩, lt_s (fun h => ?_) (fun h => ⟨⟨by omega, by omega, by simp only [len]; omega⟩, by rw [List.length_take]; omega, br_split (fun h2 => ?_) (fun h2 => ?_)⟩)⟩
    · rw [if_pos (by simp only [len] at h; omega)] at hK; exact hK
    · rw [if_neg (by simp only [len] at h; omega), if_pos h2] at hK; exact hK
    · rw [if_neg (by simp only [len] at h; omega), if_neg (by rw [h2]; simp)] at hK
      rw [w64_succ (by omega)]
      rw [← take_step (by omega) (Ty.dflt Ty.str)] at hK
      exact loop_meta_CheckBook l hl K d (k + 1) (by omega) hK
set_option maxHeartbeats 4000000 in
theorem run_meta_CheckBook (l : List (List UInt8)) (K : V → List Blk → Prop) (hK : K (.one (.dat .int (checkBook l))) []) : ∃ m, goD Γ_meta_CheckBook tab fn_meta_CheckBook 0 K m [.code (bodyOf fn_meta_CheckBook)] (initSt [.agg [.dat (.list .str) l]] []) := by
  refine ⟨l.length + 2, ?_⟩
  rw [meta_CheckBook_w, meta_CheckBook_vc _ _ _]
  unfold checkBook at hK
  refine lt_s (fun h => ?_) (fun h => ?_)
  · rw [if_pos (by simp only [len] at h; omega)] at hK; exact hK
  · rw [if_neg (by simp only [len] at h; omega)] at hK
    exact loop_meta_CheckBook l (by simp only [len] at h; omega) K l.length 0 (by omega) hK
theorem sound_meta_CheckBook : SoundC Tryd.prog tab n_meta_CheckBook c_meta_CheckBook := soundC_of ok_meta_CheckBook hf_meta_CheckBook hB_meta_CheckBook (by
  intro vs bs p v bs' h hp
  unfold c_meta_CheckBook at h
  split at h
  · cases h
    exact ⟨by kernel_rfl, rfl, .inl (run_meta_CheckBook _ _ ⟨rfl, rfl⟩)⟩
  · cases h)

def c_meta_Name : Contract := fun vs bs => match vs, bs with
  | [.agg [.dat (.list .str) l], .one (.dat .str s)], [] => some (some (l.length ≤ 140737488355328), .tup [.one (.dat .int (nameB l s).1), .one (.dat .int (nameB l s).2)], [])
  | _, _ => none
def Γ_meta_Name : Ctx := [(n_meta_CheckBook, c_meta_CheckBook), (n_slices_Index_Lstring, c_slices_Index_Lstring)]
theorem ok_meta_Name : Ok Tryd.prog tab Γ_meta_Name := ((ok_nil.consC hf_slices_Index_Lstring hB_slices_Index_Lstring sound_slices_Index_Lstring).consC hf_meta_CheckBook hB_meta_CheckBook sound_meta_CheckBook)
theorem meta_Name_vc (l : List (List UInt8)) (s : List UInt8) (rec : List It → St → Prop) (K : V → List Blk → Prop) v0 (hv0 : v0 = (checkBook l)) v1 (hv1 : v1 = (indexS s l)) : segD Γ_meta_Name tab fn_meta_Name 0 K rec [.code (bodyOf fn_meta_Name)] (initSt [.agg [.dat (Ty.list Ty.str) l], .one (.dat Ty.str s)] []) = (
    br (!(eqi v0 (0 : Int)))
     (K (.tup [.one (.dat Ty.int (0 : Int)), .one (.dat Ty.int v0)]) [])
     (((List.length l) ≤ 140737488355328) ∧
      (K (.tup [.one (.dat Ty.int (w64 (v1 + (1 : Int)))), .one (.dat Ty.int (0 : Int))]) []))) := by subst hv1; subst hv0; kernel_rfl
theorem meta_Name_w (l : List (List UInt8)) (s : List UInt8) (m : Nat) (K : V → List Blk → Prop) : goD Γ_meta_Name tab fn_meta_Name 0 K (m + 1) [.code (bodyOf fn_meta_Name)] (initSt [.agg [.dat (Ty.list Ty.str) l], .one (.dat Ty.str s)] []) = segD Γ_meta_Name tab fn_meta_Name 0 K (goD Γ_meta_Name tab fn_meta_Name 0 K m) [.code (bodyOf fn_meta_Name)] (initSt [.agg [.dat (Ty.list Ty.str) l], .one (.dat Ty.str s)] []) := rfl

set_option maxHeartbeats 4000000 in
theorem run_meta_Name (l : List (List UInt8)) (s : List UInt8) (hp : l.length ≤ 140737488355328) (K : V → List Blk → Prop) (hK : K (.tup [.one (.dat .int (nameB l s).1), .one (.dat .int (nameB l s).2)]) []) : ∃ m, goD Γ_meta_Name tab fn_meta_Name 0 K m [.code (bodyOf fn_meta_Name)] (initSt [.agg [.dat (.list .str) l], .one (.dat .str s)] []) := by
  refine ⟨1, ?_⟩
  rw [meta_Name_w, meta_Name_vc _ _ _ _ _ rfl _ rfl]
  unfold nameB at hK
  refine ne_s (fun h => ?_) (fun h => ⟨hp, ?_⟩)
  · rw [if_neg h] at hK; exact hK
  · rw [if_pos h] at hK
    have := indexFrom_range s l 0 (by omega)
    rw [w64_id (by unfold indexS; omega) (by unfold indexS; omega)]
    exact hK
theorem sound_meta_Name : SoundC Tryd.prog tab n_meta_Name c_meta_Name := soundC_of ok_meta_Name hf_meta_Name hB_meta_Name (by
  intro vs bs p v bs' h hp
  unfold c_meta_Name at h
  split at h
  · cases h
    exact ⟨by kernel_rfl, rfl, .inl (run_meta_Name _ _ hp.1 _ ⟨rfl, rfl⟩)⟩
  · cases h)

def c_trust_CheckSigned : Contract := fun vs bs => match vs, bs with
  | [.one (.dat (.list .signed) l)], [] => some (none, .one (.dat .int (checkSigned l)), [])
  | _, _ => none
def Γ_trust_CheckSigned : Ctx := []
theorem ok_trust_CheckSigned : Ok Tryd.prog tab Γ_trust_CheckSigned := ok_nil
noncomputable def trust_CheckSigned_L0 : List It := [.inLoop [10, 9, 8, 2] (Code.sub (bodyOf fn_trust_CheckSigned) [1, 1, 0, 1, 0, 0]), .inBlock 0, .code (Code.sub (bodyOf fn_trust_CheckSigned) [1, 1, 1])]
def trust_CheckSigned_S0 (x0 : Int) (x1 : Int) (x2 : (List Vm.Signed)) (x3 : Int) : St := ⟨[(10, .one (.dat Ty.int x0)), (9, .one (.dat Ty.int x1)), (8, .one (.dat (Ty.list Ty.signed) x2)), (2, .one (.dat Ty.int x3))], [], 0⟩
theorem trust_CheckSigned_vc (l : List Signed) (rec : List It → St → Prop) (K : V → List Blk → Prop) : segD Γ_trust_CheckSigned tab fn_trust_CheckSigned 0 K rec [.code (bodyOf fn_trust_CheckSigned)] (initSt [.one (.dat (Ty.list Ty.signed) l)] []) = (
    br (lti (360 : Int) (((len l) : Nat) : Int))
     (K (.one (.dat Ty.int (2 : Int))) [])
     (rec trust_CheckSigned_L0 (trust_CheckSigned_S0 (0 : Int) (((len l) : Nat) : Int) l (0 : Int)))) := by kernel_rfl
theorem trust_CheckSigned_w (l : List Signed) (m : Nat) (K : V → List Blk → Prop) : goD Γ_trust_CheckSigned tab fn_trust_CheckSigned 0 K (m + 1) [.code (bodyOf fn_trust_CheckSigned)] (initSt [.one (.dat (Ty.list Ty.signed) l)] []) = segD Γ_trust_CheckSigned tab fn_trust_CheckSigned 0 K (goD Γ_trust_CheckSigned tab fn_trust_CheckSigned 0 K m) [.code (bodyOf fn_trust_CheckSigned)] (initSt [.one (.dat (Ty.list Ty.signed) l)] []) := rfl
theorem trust_CheckSigned_vc0 (x0 : Int) (x1 : Int) (x2 : (List Vm.Signed)) (x3 : Int) (rec : List It → St → Prop) (K : V → List Blk → Prop) : segD Γ_trust_CheckSigned tab fn_trust_CheckSigned 0 K rec (.code (Code.sub (bodyOf fn_trust_CheckSigned) [1, 1, 0, 1, 0, 0]) :: trust_CheckSigned_L0) (trust_CheckSigned_S0 x0 x1 x2 x3) = (
    br (lti x0 x1)
     ((((0 : Int) ≤ x0) ∧ (x0 < (((len x2) : Nat) : Int))) ∧
      (br (lti ((nth x2 (Int.toNat x0) (Ty.dflt Ty.signed))).key (1 : Int))
       (K (.one (.dat Ty.int (3 : Int))) [])
       (br (lti (50 : Int) ((nth x2 (Int.toNat x0) (Ty.dflt Ty.signed))).key)
         (K (.one (.dat Ty.int (3 : Int))) [])
         (br (lti ((nth x2 (Int.toNat x0) (Ty.dflt Ty.signed))).name (1 : Int))
           (K (.one (.dat Ty.int (3 : Int))) [])
           (br (lti (60 : Int) ((nth x2 (Int.toNat x0) (Ty.dflt Ty.signed))).name)
             (K (.one (.dat Ty.int (3 : Int))) [])
             (rec trust_CheckSigned_L0 (trust_CheckSigned_S0 (w64 (x0 + (1 : Int))) x1 x2 x3)))))))
     (K (.one (.dat Ty.int (0 : Int))) [])) := by kernel_rfl
theorem trust_CheckSigned_w0 (x0 : Int) (x1 : Int) (x2 : (List Vm.Signed)) (x3 : Int) (m : Nat) (K : V → List Blk → Prop) : goD Γ_trust_CheckSigned tab fn_trust_CheckSigned 0 K (m + 1) trust_CheckSigned_L0 (trust_CheckSigned_S0 x0 x1 x2 x3) = segD Γ_trust_CheckSigned tab fn_trust_CheckSigned 0 K (goD Γ_trust_CheckSigned tab fn_trust_CheckSigned 0 K m) (.code (Code.sub (bodyOf fn_trust_CheckSigned) [1, 1, 0, 1, 0, 0]) :: trust_CheckSigned_L0) (trust_CheckSigned_S0 x0 x1 x2 x3) := rfl

theorem loop_trust_CheckSigned (l : List Vm.Signed) (hl : l.length ≤ 360) (K : V → List Blk → Prop) (x3 : Int) : ∀ (d k : Nat), k + d = l.length → K (.one (.dat .int (if (l.drop k).all okSigned then 0 else 3))) [] →
    goD Γ_trust_CheckSigned tab fn_trust_CheckSigned 0 K (d + 1) trust_CheckSigned_L0 (trust_CheckSigned_S0 (k : Int) (((len l) : Nat) : Int) l x3)
  | 0, k, hk, hK => by
    rw [trust_CheckSigned_w0, trust_CheckSigned_vc0 _ _ _ _ _ _]
    rw [List.drop_of_length_le (by omega)] at hK
    exact lt_f (by simp only [len]; omega) hK
  | d + 1, k, hk, hK => by
    rw [trust_CheckSigned_w0, trust_CheckSigned_vc0 _ _ _ _ _ _, toNat_nat]
    rw [drop_step (by omega) (Ty.dflt Ty.signed)] at hK
    obtain ⟨x, hx⟩ : ∃ x, nth l k (Ty.dflt Ty.signed) = x := ⟨_, rfl⟩
    rw [hx] at hK ⊢
    rw [List.all_cons] at hK
    have bad : ¬ (1 ≤ x.key ∧ x.key ≤ 50 ∧ 1 ≤ x.name ∧ x.name ≤ 60) → K (.one (.dat .int 3)) [] := fun h => by
      rw [show okSigned x = false from by
        cases hc : okSigned x
        · rfl
        · simp only [okSigned, Bool.and_eq_true, decide_eq_true_eq] at hc; exact absurd hc (by omega)] at hK
      exact hK
    rw [w64_succ (by omega)]
    refine lt_t (by simp only [len]; omega) ⟨⟨by omega, by simp only [len]; omega⟩, lt_s (fun h => bad (by omega)) (fun h => lt_s (fun h2 => bad (by omega)) (fun h2 => lt_s (fun h3 => bad (by omega)) (fun h3 => lt_s (fun h4 => bad (by omega)) (fun h4 => ?_))))⟩
    rw [show okSigned x = true from by simp only [okSigned, Bool.and_eq_true, decide_eq_true_eq]; omega, Bool.true_and] at hK
    exact loop_trust_CheckSigned l hl K x3 d (k + 1) (by omega) hK
set_option maxHeartbeats 4000000 in
theorem run_trust_CheckSigned (l : List Vm.Signed) (K : V → List Blk → Prop) (hK : K (.one (.dat .int (checkSigned l))) []) : ∃ m, goD Γ_trust_CheckSigned tab fn_trust_CheckSigned 0 K m [.code (bodyOf fn_trust_CheckSigned)] (initSt [.one (.dat (.list .signed) l)] []) := by
  refine ⟨l.length + 2, ?_⟩
  rw [trust_CheckSigned_w, trust_CheckSigned_vc _ _ _]
  unfold checkSigned at hK
  refine lt_s (fun h => ?_) (fun h => ?_)
  · rw [if_pos (by simp only [len] at h; omega)] at hK; exact hK
  · rw [if_neg (by simp only [len] at h; omega)] at hK
    exact loop_trust_CheckSigned l (by simp only [len] at h; omega) K 0 l.length 0 (by omega) hK
theorem sound_trust_CheckSigned : SoundC Tryd.prog tab n_trust_CheckSigned c_trust_CheckSigned := soundC_of ok_trust_CheckSigned hf_trust_CheckSigned hB_trust_CheckSigned (by
  intro vs bs p v bs' h hp
  unfold c_trust_CheckSigned at h
  split at h
  · cases h
    exact ⟨by kernel_rfl, rfl, .inl (run_trust_CheckSigned _ _ ⟨rfl, rfl⟩)⟩
  · cases h)

def c_slices_Index_Lint : Contract := fun vs bs => match vs, bs with
  | [.one (.dat (.list .int) l), .one (.dat .int k)], [] => some (some (l.length ≤ 140737488355328), .one (.dat .int (indexI k 0 l)), [])
  | _, _ => none
def Γ_slices_Index_Lint : Ctx := []
theorem ok_slices_Index_Lint : Ok Tryd.prog tab Γ_slices_Index_Lint := ok_nil
noncomputable def slices_Index_Lint_L0 : List It := [.inLoop [8, 7, 4, 0, 1] (Code.sub (bodyOf fn_slices_Index_Lint) [1, 0, 1, 0, 0]), .inBlock 0, .code (Code.sub (bodyOf fn_slices_Index_Lint) [1, 1])]
def slices_Index_Lint_S0 (x0 : Int) (x1 : Int) (x2 : Int) (x3 : (List Int)) (x4 : Int) : St := ⟨[(8, .one (.dat Ty.int x0)), (7, .one (.dat Ty.int x1)), (4, .one (.dat Ty.int x2)), (0, .one (.dat (Ty.list Ty.int) x3)), (1, .one (.dat Ty.int x4))], [], 0⟩
theorem slices_Index_Lint_vc (l : List Int) (k : Int) (rec : List It → St → Prop) (K : V → List Blk → Prop) : segD Γ_slices_Index_Lint tab fn_slices_Index_Lint 0 K rec [.code (bodyOf fn_slices_Index_Lint)] (initSt [.one (.dat (Ty.list Ty.int) l), .one (.dat Ty.int k)] []) = (
    rec slices_Index_Lint_L0 (slices_Index_Lint_S0 (0 : Int) (((len l) : Nat) : Int) (0 : Int) l k)) := by kernel_rfl
theorem slices_Index_Lint_w (l : List Int) (k : Int) (m : Nat) (K : V → List Blk → Prop) : goD Γ_slices_Index_Lint tab fn_slices_Index_Lint 0 K (m + 1) [.code (bodyOf fn_slices_Index_Lint)] (initSt [.one (.dat (Ty.list Ty.int) l), .one (.dat Ty.int k)] []) = segD Γ_slices_Index_Lint tab fn_slices_Index_Lint 0 K (goD Γ_slices_Index_Lint tab fn_slices_Index_Lint 0 K m) [.code (bodyOf fn_slices_Index_Lint)] (initSt [.one (.dat (Ty.list Ty.int) l), .one (.dat Ty.int k)] []) := rfl
theorem slices_Index_Lint_vc0 (x0 : Int) (x1 : Int) (x2 : Int) (x3 : (List Int)) (x4 : Int) (rec : List It → St → Prop) (K : V → List Blk → Prop) : segD Γ_slices_Index_Lint tab fn_slices_Index_Lint 0 K rec (.code (Code.sub (bodyOf fn_slices_Index_Lint) [1, 0, 1, 0, 0]) :: slices_Index_Lint_L0) (slices_Index_Lint_S0 x0 x1 x2 x3 x4) = (
    br (lti x0 x1)
     ((((0 : Int) ≤ x0) ∧ (x0 < (((len x3) : Nat) : Int))) ∧
      (br (eqi x4 (nth x3 (Int.toNat x0) (Ty.dflt Ty.int)))
       (K (.one (.dat Ty.int x0)) [])
       (rec slices_Index_Lint_L0 (slices_Index_Lint_S0 (w64 (x0 + (1 : Int))) x1 x2 x3 x4))))
     (K (.one (.dat Ty.int (-(1 : Int)))) [])) := by kernel_rfl
theorem slices_Index_Lint_w0 (x0 : Int) (x1 : Int) (x2 : Int) (x3 : (List Int)) (x4 : Int) (m : Nat) (K : V → List Blk → Prop) : goD Γ_slices_Index_Lint tab fn_slices_Index_Lint 0 K (m + 1) slices_Index_Lint_L0 (slices_Index_Lint_S0 x0 x1 x2 x3 x4) = segD Γ_slices_Index_Lint tab fn_slices_Index_Lint 0 K (goD Γ_slices_Index_Lint tab fn_slices_Index_Lint 0 K m) (.code (Code.sub (bodyOf fn_slices_Index_Lint) [1, 0, 1, 0, 0]) :: slices_Index_Lint_L0) (slices_Index_Lint_S0 x0 x1 x2 x3 x4) := rfl

theorem loop_slices_Index_Lint (l : List Int) (s : Int) (hl : l.length ≤ 140737488355328) (K : V → List Blk → Prop) : ∀ (d k : Nat), k + d = l.length → K (.one (.dat .int (indexI s k (l.drop k)))) [] →
    goD Γ_slices_Index_Lint tab fn_slices_Index_Lint 0 K (d + 1) slices_Index_Lint_L0 (slices_Index_Lint_S0 (k : Int) (((len l) : Nat) : Int) 0 l s)
  | 0, k, hk, hK => by
    rw [slices_Index_Lint_w0, slices_Index_Lint_vc0 _ _ _ _ _ _ _]
    rw [List.drop_of_length_le (by omega)] at hK
    exact lt_f (by simp only [len]; omega) hK
  | d + 1, k, hk, hK => by
    rw [slices_Index_Lint_w0, slices_Index_Lint_vc0 _ _ _ _ _ _ _, toNat_nat]
    rw [drop_step (by omega) (Ty.dflt Ty.int)] at hK
    simp only [indexI] at hK
    refine lt_t (by simp only [len]; omega) ⟨⟨by omega, by simp only [len]; omega⟩, eq_s (fun h => ?_) (fun h => ?_)⟩
    · rw [if_pos h.symm] at hK; exact hK
    · rw [if_neg (fun e => h e.symm)] at hK
      rw [w64_succ (by omega)]
      exact loop_slices_Index_Lint l s hl K d (k + 1) (by omega) hK
set_option maxHeartbeats 4000000 in
theorem run_slices_Index_Lint (l : List Int) (k : Int) (hp : l.length ≤ 140737488355328) (K : V → List Blk → Prop) (hK : K (.one (.dat .int (indexI k 0 l))) []) : ∃ m, goD Γ_slices_Index_Lint tab fn_slices_Index_Lint 0 K m [.code (bodyOf fn_slices_Index_Lint)] (initSt [.one (.dat (.list .int) l), .one (.dat .int k)] []) := by
  refine ⟨l.length + 2, ?_⟩
  rw [slices_Index_Lint_w, slices_Index_Lint_vc _ _ _ _]
  exact loop_slices_Index_Lint l k hp K l.length 0 (by omega) hK
theorem sound_slices_Index_Lint : SoundC Tryd.prog tab n_slices_Index_Lint c_slices_Index_Lint := soundC_of ok_slices_Index_Lint hf_slices_Index_Lint hB_slices_Index_Lint (by
  intro vs bs p v bs' h hp
  unfold c_slices_Index_Lint at h
  split at h
  · cases h
    exact ⟨by kernel_rfl, rfl, .inl (run_slices_Index_Lint _ _ hp.1 _ ⟨rfl, rfl⟩)⟩
  · cases h)

def c_slices_Contains_Lint : Contract := fun vs bs => match vs, bs with
  | [.one (.dat (.list .int) l), .one (.dat .int k)], [] => some (some (l.length ≤ 140737488355328), .one (.dat .bool (hasI k l)), [])
  | _, _ => none
def Γ_slices_Contains_Lint : Ctx := [(n_slices_Index_Lint, c_slices_Index_Lint)]
theorem ok_slices_Contains_Lint : Ok Tryd.prog tab Γ_slices_Contains_Lint := (ok_nil.consC hf_slices_Index_Lint hB_slices_Index_Lint sound_slices_Index_Lint)
theorem slices_Contains_Lint_vc (l : List Int) (k : Int) (rec : List It → St → Prop) (K : V → List Blk → Prop) v0 (hv0 : v0 = (indexI k (0 : Int) l)) : segD Γ_slices_Contains_Lint tab fn_slices_Contains_Lint 0 K rec [.code (bodyOf fn_slices_Contains_Lint)] (initSt [.one (.dat (Ty.list Ty.int) l), .one (.dat Ty.int k)] []) = (
    ((List.length l) ≤ 140737488355328) ∧
    (K (.one (.dat Ty.bool (lei (0 : Int) v0))) [])) := by subst hv0; kernel_rfl
theorem slices_Contains_Lint_w (l : List Int) (k : Int) (m : Nat) (K : V → List Blk → Prop) : goD Γ_slices_Contains_Lint tab fn_slices_Contains_Lint 0 K (m + 1) [.code (bodyOf fn_slices_Contains_Lint)] (initSt [.one (.dat (Ty.list Ty.int) l), .one (.dat Ty.int k)] []) = segD Γ_slices_Contains_Lint tab fn_slices_Contains_Lint 0 K (goD Γ_slices_Contains_Lint tab fn_slices_Contains_Lint 0 K m) [.code (bodyOf fn_slices_Contains_Lint)] (initSt [.one (.dat (Ty.list Ty.int) l), .one (.dat Ty.int k)] []) := rfl

set_option maxHeartbeats 4000000 in
theorem run_slices_Contains_Lint (l : List Int) (k : Int) (hp : l.length ≤ 140737488355328) (K : V → List Blk → Prop) (hK : K (.one (.dat .bool (hasI k l))) []) : ∃ m, goD Γ_slices_Contains_Lint tab fn_slices_Contains_Lint 0 K m [.code (bodyOf fn_slices_Contains_Lint)] (initSt [.one (.dat (.list .int) l), .one (.dat .int k)] []) := by
  refine ⟨1, ?_⟩
  rw [slices_Contains_Lint_w, slices_Contains_Lint_vc _ _ _ _ _ rfl]
  rw [← indexI_has k l 0 (by omega)] at hK
  exact ⟨hp, hK⟩
theorem sound_slices_Contains_Lint : SoundC Tryd.prog tab n_slices_Contains_Lint c_slices_Contains_Lint := soundC_of ok_slices_Contains_Lint hf_slices_Contains_Lint hB_slices_Contains_Lint (by
  intro vs bs p v bs' h hp
  unfold c_slices_Contains_Lint at h
  split at h
  · cases h
    exact ⟨by kernel_rfl, rfl, .inl (run_slices_Contains_Lint _ _ hp.1 _ ⟨rfl, rfl⟩)⟩
  · cases h)

def c_slices_Index_LSigned : Contract := fun vs bs => match vs, bs with
  | [.one (.dat (.list .signed) l), .agg [.dat .int k, .dat .int n]], [] => some (some (l.length ≤ 140737488355328), .one (.dat .int (indexG k n 0 l)), [])
  | _, _ => none
def Γ_slices_Index_LSigned : Ctx := []
theorem ok_slices_Index_LSigned : Ok Tryd.prog tab Γ_slices_Index_LSigned := ok_nil
noncomputable def slices_Index_LSigned_L0 : List It := [.inLoop [8, 7, 4, 3, 0] (Code.sub (bodyOf fn_slices_Index_LSigned) [1, 0, 1, 0, 0]), .inBlock 0, .code (Code.sub (bodyOf fn_slices_Index_LSigned) [1, 1])]
def slices_Index_LSigned_S0 (x0 : Int) (x1 : Int) (x2 : Int) (x3 : (List Vm.Signed)) (x4 : Int) (x5 : Int) : St := ⟨[(8, .one (.dat Ty.int x0)), (7, .one (.dat Ty.int x1)), (4, .one (.dat Ty.int x2)), (3, .one (.ptr 0 0)), (0, .one (.dat (Ty.list Ty.signed) x3))], [(0, .box [.dat Ty.int x4, .dat Ty.int x5])], 1⟩
theorem slices_Index_LSigned_vc (l : List Signed) (k : Int) (n : Int) (rec : List It → St → Prop) (K : V → List Blk → Prop) : segD Γ_slices_Index_LSigned tab fn_slices_Index_LSigned 0 K rec [.code (bodyOf fn_slices_Index_LSigned)] (initSt [.one (.dat (Ty.list Ty.signed) l), .agg [.dat Ty.int k, .dat Ty.int n]] []) = (
    rec slices_Index_LSigned_L0 (slices_Index_LSigned_S0 (0 : Int) (((len l) : Nat) : Int) (0 : Int) l k n)) := by kernel_rfl
theorem slices_Index_LSigned_w (l : List Signed) (k : Int) (n : Int) (m : Nat) (K : V → List Blk → Prop) : goD Γ_slices_Index_LSigned tab fn_slices_Index_LSigned 0 K (m + 1) [.code (bodyOf fn_slices_Index_LSigned)] (initSt [.one (.dat (Ty.list Ty.signed) l), .agg [.dat Ty.int k, .dat Ty.int n]] []) = segD Γ_slices_Index_LSigned tab fn_slices_Index_LSigned 0 K (goD Γ_slices_Index_LSigned tab fn_slices_Index_LSigned 0 K m) [.code (bodyOf fn_slices_Index_LSigned)] (initSt [.one (.dat (Ty.list Ty.signed) l), .agg [.dat Ty.int k, .dat Ty.int n]] []) := rfl
theorem slices_Index_LSigned_vc0 (x0 : Int) (x1 : Int) (x2 : Int) (x3 : (List Vm.Signed)) (x4 : Int) (x5 : Int) (rec : List It → St → Prop) (K : V → List Blk → Prop) : segD Γ_slices_Index_LSigned tab fn_slices_Index_LSigned 0 K rec (.code (Code.sub (bodyOf fn_slices_Index_LSigned) [1, 0, 1, 0, 0]) :: slices_Index_LSigned_L0) (slices_Index_LSigned_S0 x0 x1 x2 x3 x4 x5) = (
    br (lti x0 x1)
     ((((0 : Int) ≤ x0) ∧ (x0 < (((len x3) : Nat) : Int))) ∧
      (br ((eqi x4 ((nth x3 (Int.toNat x0) (Ty.dflt Ty.signed))).key) && ((eqi x5 ((nth x3 (Int.toNat x0) (Ty.dflt Ty.signed))).name) && true))
       (K (.one (.dat Ty.int x0)) [])
       (rec slices_Index_LSigned_L0 (slices_Index_LSigned_S0 (w64 (x0 + (1 : Int))) x1 x2 x3 x4 x5))))
     (K (.one (.dat Ty.int (-(1 : Int)))) [])) := by kernel_rfl
theorem slices_Index_LSigned_w0 (x0 : Int) (x1 : Int) (x2 : Int) (x3 : (List Vm.Signed)) (x4 : Int) (x5 : Int) (m : Nat) (K : V → List Blk → Prop) : goD Γ_slices_Index_LSigned tab fn_slices_Index_LSigned 0 K (m + 1) slices_Index_LSigned_L0 (slices_Index_LSigned_S0 x0 x1 x2 x3 x4 x5) = segD Γ_slices_Index_LSigned tab fn_slices_Index_LSigned 0 K (goD Γ_slices_Index_LSigned tab fn_slices_Index_LSigned 0 K m) (.code (Code.sub (bodyOf fn_slices_Index_LSigned) [1, 0, 1, 0, 0]) :: slices_Index_LSigned_L0) (slices_Index_LSigned_S0 x0 x1 x2 x3 x4 x5) := rfl

theorem loop_slices_Index_LSigned (l : List Vm.Signed) (s n : Int) (hl : l.length ≤ 140737488355328) (K : V → List Blk → Prop) : ∀ (d k : Nat), k + d = l.length → K (.one (.dat .int (indexG s n k (l.drop k)))) [] →
    goD Γ_slices_Index_LSigned tab fn_slices_Index_LSigned 0 K (d + 1) slices_Index_LSigned_L0 (slices_Index_LSigned_S0 (k : Int) (((len l) : Nat) : Int) 0 l s n)
  | 0, k, hk, hK => by
    rw [slices_Index_LSigned_w0, slices_Index_LSigned_vc0 _ _ _ _ _ _ _ _]
    rw [List.drop_of_length_le (by omega)] at hK
    exact lt_f (by simp only [len]; omega) hK
  | d + 1, k, hk, hK => by
    rw [slices_Index_LSigned_w0, slices_Index_LSigned_vc0 _ _ _ _ _ _ _ _, toNat_nat]
    rw [drop_step (by omega) (Ty.dflt Ty.signed)] at hK
    simp only [indexG] at hK
    refine lt_t (by simp only [len]; omega) ⟨⟨by omega, by simp only [len]; omega⟩, br_split (fun h => ?_) (fun h => ?_)⟩
    · rw [if_pos (show isSig s n _ = true from h)] at hK; exact hK
    · rw [if_neg (show ¬ isSig s n _ = true from by rw [show isSig s n (nth l k (Ty.dflt Ty.signed)) = false from h]; simp)] at hK
      rw [w64_succ (by omega)]
      exact loop_slices_Index_LSigned l s n hl K d (k + 1) (by omega) hK
set_option maxHeartbeats 4000000 in
theorem run_slices_Index_LSigned (l : List Vm.Signed) (k n : Int) (hp : l.length ≤ 140737488355328) (K : V → List Blk → Prop) (hK : K (.one (.dat .int (indexG k n 0 l))) []) : ∃ m, goD Γ_slices_Index_LSigned tab fn_slices_Index_LSigned 0 K m [.code (bodyOf fn_slices_Index_LSigned)] (initSt [.one (.dat (.list .signed) l), .agg [.dat .int k, .dat .int n]] []) := by
  refine ⟨l.length + 2, ?_⟩
  rw [slices_Index_LSigned_w, slices_Index_LSigned_vc _ _ _ _ _]
  exact loop_slices_Index_LSigned l k n hp K l.length 0 (by omega) hK
theorem sound_slices_Index_LSigned : SoundC Tryd.prog tab n_slices_Index_LSigned c_slices_Index_LSigned := soundC_of ok_slices_Index_LSigned hf_slices_Index_LSigned hB_slices_Index_LSigned (by
  intro vs bs p v bs' h hp
  unfold c_slices_Index_LSigned at h
  split at h
  · cases h
    exact ⟨by kernel_rfl, rfl, .inl (run_slices_Index_LSigned _ _ _ hp.1 _ ⟨rfl, rfl⟩)⟩
  · cases h)

def c_slices_Contains_LSigned : Contract := fun vs bs => match vs, bs with
  | [.one (.dat (.list .signed) l), .agg [.dat .int k, .dat .int n]], [] => some (some (l.length ≤ 140737488355328), .one (.dat .bool (hasSig k n l)), [])
  | _, _ => none
def Γ_slices_Contains_LSigned : Ctx := [(n_slices_Index_LSigned, c_slices_Index_LSigned)]
theorem ok_slices_Contains_LSigned : Ok Tryd.prog tab Γ_slices_Contains_LSigned := (ok_nil.consC hf_slices_Index_LSigned hB_slices_Index_LSigned sound_slices_Index_LSigned)
theorem slices_Contains_LSigned_vc (l : List Signed) (k : Int) (n : Int) (rec : List It → St → Prop) (K : V → List Blk → Prop) v0 (hv0 : v0 = (indexG k n (0 : Int) l)) : segD Γ_slices_Contains_LSigned tab fn_slices_Contains_LSigned 0 K rec [.code (bodyOf fn_slices_Contains_LSigned)] (initSt [.one (.dat (Ty.list Ty.signed) l), .agg [.dat Ty.int k, .dat Ty.int n]] []) = (
    ((List.length l) ≤ 140737488355328) ∧
    (K (.one (.dat Ty.bool (lei (0 : Int) v0))) [])) := by subst hv0; kernel_rfl
theorem slices_Contains_LSigned_w (l : List Signed) (k : Int) (n : Int) (m : Nat) (K : V → List Blk → Prop) : goD Γ_slices_Contains_LSigned tab fn_slices_Contains_LSigned 0 K (m + 1) [.code (bodyOf fn_slices_Contains_LSigned)] (initSt [.one (.dat (Ty.list Ty.signed) l), .agg [.dat Ty.int k, .dat Ty.int n]] []) = segD Γ_slices_Contains_LSigned tab fn_slices_Contains_LSigned 0 K (goD Γ_slices_Contains_LSigned tab fn_slices_Contains_LSigned 0 K m) [.code (bodyOf fn_slices_Contains_LSigned)] (initSt [.one (.dat (Ty.list Ty.signed) l), .agg [.dat Ty.int k, .dat Ty.int n]] []) := rfl

set_option maxHeartbeats 4000000 in
theorem run_slices_Contains_LSigned (l : List Vm.Signed) (k n : Int) (hp : l.length ≤ 140737488355328) (K : V → List Blk → Prop) (hK : K (.one (.dat .bool (hasSig k n l))) []) : ∃ m, goD Γ_slices_Contains_LSigned tab fn_slices_Contains_LSigned 0 K m [.code (bodyOf fn_slices_Contains_LSigned)] (initSt [.one (.dat (.list .signed) l), .agg [.dat .int k, .dat .int n]] []) := by
  refine ⟨1, ?_⟩
  rw [slices_Contains_LSigned_w, slices_Contains_LSigned_vc _ _ _ _ _ _ rfl]
  rw [← indexG_has k n l 0 (by omega)] at hK
  exact ⟨hp, hK⟩
theorem sound_slices_Contains_LSigned : SoundC Tryd.prog tab n_slices_Contains_LSigned c_slices_Contains_LSigned := soundC_of ok_slices_Contains_LSigned hf_slices_Contains_LSigned hB_slices_Contains_LSigned (by
  intro vs bs p v bs' h hp
  unfold c_slices_Contains_LSigned at h
  split at h
  · cases h
    exact ⟨by kernel_rfl, rfl, .inl (run_slices_Contains_LSigned _ _ _ hp.1 _ ⟨rfl, rfl⟩)⟩
  · cases h)

def c_trust_Count : Contract := fun vs bs => match vs, bs with
  | [.one (.dat (.list .signed) l), .agg [.dat .int v, .dat (.list .int) ks, .dat .int t], .one (.dat (.list .int) sg), .one (.dat .int n)], [] => some (none, .tup [.one (.dat .int (countT l ⟨v, ks, t⟩ sg n).1), .one (.dat .int (countT l ⟨v, ks, t⟩ sg n).2)], [])
  | _, _ => none
def Γ_trust_Count : Ctx := [(n_trust_CheckSigned, c_trust_CheckSigned), (n_meta_CheckRoot, c_meta_CheckRoot), (n_slices_Contains_Lint, c_slices_Contains_Lint), (n_slices_Contains_LSigned, c_slices_Contains_LSigned)]
theorem ok_trust_Count : Ok Tryd.prog tab Γ_trust_Count := ((((ok_nil.consC hf_slices_Contains_LSigned hB_slices_Contains_LSigned sound_slices_Contains_LSigned).consC hf_slices_Contains_Lint hB_slices_Contains_Lint sound_slices_Contains_Lint).consC hf_meta_CheckRoot hB_meta_CheckRoot sound_meta_CheckRoot).consC hf_trust_CheckSigned hB_trust_CheckSigned sound_trust_CheckSigned)
noncomputable def trust_Count_L0 : List It := [.inLoop [31, 30, 29, 12, 9, 8, 0, 2, 3] (Code.sub (bodyOf fn_trust_Count) [1, 1, 1, 1, 1, 0, 1, 0, 0]), .inBlock 0, .code (Code.sub (bodyOf fn_trust_Count) [1, 1, 1, 1, 1, 1])]
def trust_Count_S0 (x0 : Int) (x1 : Int) (x2 : (List Int)) (x3 : Int) (x4 : Int) (x5 : Int) (x6 : (List Vm.Signed)) (x7 : (List Int)) (x8 : Int) : St := ⟨[(31, .one (.dat Ty.int x0)), (30, .one (.dat Ty.int x1)), (29, .one (.dat (Ty.list Ty.int) x2)), (12, .one (.dat Ty.int x3)), (9, .one (.dat Ty.int x4)), (8, .one (.dat Ty.int x5)), (0, .one (.dat (Ty.list Ty.signed) x6)), (2, .one (.dat (Ty.list Ty.int) x7)), (3, .one (.dat Ty.int x8))], [], 0⟩
theorem trust_Count_vc (l : List Signed) (v : Int) (ks : List Int) (t : Int) (sg : List Int) (n : Int) (rec : List It → St → Prop) (K : V → List Blk → Prop) v0 (hv0 : v0 = (checkSigned l)) v1 (hv1 : v1 = (checkRoot v ks t)) : segD Γ_trust_Count tab fn_trust_Count 0 K rec [.code (bodyOf fn_trust_Count)] (initSt [.one (.dat (Ty.list Ty.signed) l), .agg [.dat Ty.int v, .dat (Ty.list Ty.int) ks, .dat Ty.int t], .one (.dat (Ty.list Ty.int) sg), .one (.dat Ty.int n)] []) = (
    br (!(eqi v0 (0 : Int)))
     (K (.tup [.one (.dat Ty.int (0 : Int)), .one (.dat Ty.int v0)]) [])
     (br (!(eqi v1 (0 : Int)))
       (K (.tup [.one (.dat Ty.int (0 : Int)), .one (.dat Ty.int v1)]) [])
       (br (lti (50 : Int) (((len sg) : Nat) : Int))
         (K (.tup [.one (.dat Ty.int (0 : Int)), .one (.dat Ty.int (2 : Int))]) [])
         (rec trust_Count_L0 (trust_Count_S0 (0 : Int) (((len ks) : Nat) : Int) ks (0 : Int) (0 : Int) (0 : Int) l sg n))))) := by subst hv1; subst hv0; kernel_rfl
theorem trust_Count_w (l : List Signed) (v : Int) (ks : List Int) (t : Int) (sg : List Int) (n : Int) (m : Nat) (K : V → List Blk → Prop) : goD Γ_trust_Count tab fn_trust_Count 0 K (m + 1) [.code (bodyOf fn_trust_Count)] (initSt [.one (.dat (Ty.list Ty.signed) l), .agg [.dat Ty.int v, .dat (Ty.list Ty.int) ks, .dat Ty.int t], .one (.dat (Ty.list Ty.int) sg), .one (.dat Ty.int n)] []) = segD Γ_trust_Count tab fn_trust_Count 0 K (goD Γ_trust_Count tab fn_trust_Count 0 K m) [.code (bodyOf fn_trust_Count)] (initSt [.one (.dat (Ty.list Ty.signed) l), .agg [.dat Ty.int v, .dat (Ty.list Ty.int) ks, .dat Ty.int t], .one (.dat (Ty.list Ty.int) sg), .one (.dat Ty.int n)] []) := rfl
theorem trust_Count_vc0 (x0 : Int) (x1 : Int) (x2 : (List Int)) (x3 : Int) (x4 : Int) (x5 : Int) (x6 : (List Vm.Signed)) (x7 : (List Int)) (x8 : Int) (rec : List It → St → Prop) (K : V → List Blk → Prop) v0 (hv0 : v0 = (hasI (nth x2 (Int.toNat x0) (Ty.dflt Ty.int)) x7)) v1 (hv1 : v1 = (hasSig (nth x2 (Int.toNat x0) (Ty.dflt Ty.int)) x8 x6)) : segD Γ_trust_Count tab fn_trust_Count 0 K rec (.code (Code.sub (bodyOf fn_trust_Count) [1, 1, 1, 1, 1, 0, 1, 0, 0]) :: trust_Count_L0) (trust_Count_S0 x0 x1 x2 x3 x4 x5 x6 x7 x8) = (
    br (lti x0 x1)
     ((((0 : Int) ≤ x0) ∧ (x0 < (((len x2) : Nat) : Int))) ∧
      (((List.length x7) ≤ 140737488355328) ∧
      (br v0
       (((List.length x6) ≤ 140737488355328) ∧
        (br v1
         (rec trust_Count_L0 (trust_Count_S0 (w64 (x0 + (1 : Int))) x1 x2 (w64 (x3 + (1 : Int))) x4 x5 x6 x7 x8))
         (rec trust_Count_L0 (trust_Count_S0 (w64 (x0 + (1 : Int))) x1 x2 x3 x4 x5 x6 x7 x8))))
       (rec trust_Count_L0 (trust_Count_S0 (w64 (x0 + (1 : Int))) x1 x2 x3 x4 x5 x6 x7 x8)))))
     (K (.tup [.one (.dat Ty.int x3), .one (.dat Ty.int (0 : Int))]) [])) := by subst hv1; subst hv0; kernel_rfl
theorem trust_Count_w0 (x0 : Int) (x1 : Int) (x2 : (List Int)) (x3 : Int) (x4 : Int) (x5 : Int) (x6 : (List Vm.Signed)) (x7 : (List Int)) (x8 : Int) (m : Nat) (K : V → List Blk → Prop) : goD Γ_trust_Count tab fn_trust_Count 0 K (m + 1) trust_Count_L0 (trust_Count_S0 x0 x1 x2 x3 x4 x5 x6 x7 x8) = segD Γ_trust_Count tab fn_trust_Count 0 K (goD Γ_trust_Count tab fn_trust_Count 0 K m) (.code (Code.sub (bodyOf fn_trust_Count) [1, 1, 1, 1, 1, 0, 1, 0, 0]) :: trust_Count_L0) (trust_Count_S0 x0 x1 x2 x3 x4 x5 x6 x7 x8) := rfl

theorem loop_trust_Count (l : List Vm.Signed) (ks sg : List Int) (n : Int) (hk6 : ks.length ≤ 6) (hl : l.length ≤ 360) (hs : sg.length ≤ 50) (K : V → List Blk → Prop) (x4 x5 : Int) : ∀ (d k c : Nat), k + d = ks.length → c ≤ k → K (.tup [.one (.dat .int ((c + countN l sg n (ks.drop k) : Nat) : Int)), .one (.dat .int 0)]) [] →
    goD Γ_trust_Count tab fn_trust_Count 0 K (d + 1) trust_Count_L0 (trust_Count_S0 (k : Int) (((len ks) : Nat) : Int) ks (c : Int) x4 x5 l sg n)
  | 0, k, c, hk, hc, hK => by
    rw [trust_Count_w0, trust_Count_vc0 _ _ _ _ _ _ _ _ _ _ _ _ rfl _ rfl]
    rw [List.drop_of_length_le (by omega)] at hK
    exact lt_f (by simp only [len]; omega) hK
  | d + 1, k, c, hk, hc, hK => by
    rw [trust_Count_w0, trust_Count_vc0 _ _ _ _ _ _ _ _ _ _ _ _ rfl _ rfl, toNat_nat]
    rw [drop_step (by omega) (Ty.dflt Ty.int), countN_cons] at hK
    obtain ⟨x, hx⟩ : ∃ x, nth ks k (Ty.dflt Ty.int) = x := ⟨_, rfl⟩
    rw [hx] at hK ⊢
    rw [w64_succ (k := k) (by omega), w64_succ (k := c) (by omega)]
    have no : signs l sg n x = false → K (.tup [.one (.dat .int ((c + countN l sg n (ks.drop (k + 1)) : Nat) : Int)), .one (.dat .int 0)]) [] := fun h => by
      rw [if_neg (by rw [h]; simp), Nat.zero_add] at hK; exact hK
    refine lt_t (by simp only [len]; omega) ⟨⟨by omega, by simp only [len]; omega⟩, by omega, br_split (fun h => ⟨by omega, br_split (fun h2 => ?_) (fun h2 => ?_)⟩) (fun h => ?_)⟩
    · rw [if_pos (show signs l sg n x = true from by simp [signs, h, h2])] at hK
      exact loop_trust_Count l ks sg n hk6 hl hs K x4 x5 d (k + 1) (c + 1) (by omega) (by omega) (by rw [show c + 1 + countN l sg n (ks.drop (k + 1)) = c + (1 + countN l sg n (ks.drop (k + 1))) by omega]; exact hK)
    · exact loop_trust_Count l ks sg n hk6 hl hs K x4 x5 d (k + 1) c (by omega) (by omega) (no (by simp [signs, h2]))
    · exact loop_trust_Count l ks sg n hk6 hl hs K x4 x5 d (k + 1) c (by omega) (by omega) (no (by simp [signs, h]))
set_option maxHeartbeats 4000000 in
theorem run_trust_Count (l : List Vm.Signed) (v : Int) (ks : List Int) (t : Int) (sg : List Int) (n : Int) (K : V → List Blk → Prop) (hK : K (.tup [.one (.dat .int (countT l ⟨v, ks, t⟩ sg n).1), .one (.dat .int (countT l ⟨v, ks, t⟩ sg n).2)]) []) : ∃ m, goD Γ_trust_Count tab fn_trust_Count 0 K m [.code (bodyOf fn_trust_Count)] (initSt [.one (.dat (.list .signed) l), .agg [.dat .int v, .dat (.list .int) ks, .dat .int t], .one (.dat (.list .int) sg), .one (.dat .int n)] []) := by
  refine ⟨ks.length + 2, ?_⟩
  rw [trust_Count_w, trust_Count_vc _ _ _ _ _ _ _ _ _ rfl _ rfl]
  unfold countT at hK
  simp only at hK
  refine ne_s (fun h => ?_) (fun h => ne_s (fun h2 => ?_) (fun h2 => lt_s (fun h3 => ?_) (fun h3 => ?_)))
  · rw [if_neg h] at hK; exact hK
  · rw [if_pos h, if_neg h2] at hK; exact hK
  · rw [if_pos h, if_pos h2, if_pos (by simp only [len] at h3; omega)] at hK; exact hK
  · rw [if_pos h, if_pos h2, if_neg (by simp only [len] at h3; omega)] at hK
    have hl : l.length ≤ 360 := by
      unfold checkSigned at h
      by_cases c : 360 < l.length
      · rw [if_pos c] at h; cases h
      · omega
    exact loop_trust_Count l ks sg n (checkRoot_ok h2).2.2.2.2.1 hl (by simp only [len] at h3; omega) K 0 0 ks.length 0 0 (by omega) (by omega) (by rw [Nat.zero_add]; exact hK)
theorem sound_trust_Count : SoundC Tryd.prog tab n_trust_Count c_trust_Count := soundC_of ok_trust_Count hf_trust_Count hB_trust_Count (by
  intro vs bs p v bs' h hp
  unfold c_trust_Count at h
  split at h
  · cases h
    exact ⟨by kernel_rfl, rfl, .inl (run_trust_Count _ _ _ _ _ _ _ ⟨rfl, rfl⟩)⟩
  · cases h)

def c_trust_Turn : Contract := fun vs bs => match vs, bs with
  | [.agg [.dat (.list .str) b], .one (.dat (.list .signed) l), .agg [.dat .int v, .dat (.list .int) ks, .dat .int t, .dat .int n], .agg [.dat .int nv, .dat (.list .int) nk, .dat .int nt], .one (.dat (.list .int) sg)], [] => some (some (b.length ≤ 140737488355328), .tup [.agg [.dat .int (turnT b l ⟨⟨v, ks, t⟩, n⟩ ⟨nv, nk, nt⟩ sg).1.r.version, .dat (.list .int) (turnT b l ⟨⟨v, ks, t⟩, n⟩ ⟨nv, nk, nt⟩ sg).1.r.keys, .dat .int (turnT b l ⟨⟨v, ks, t⟩, n⟩ ⟨nv, nk, nt⟩ sg).1.r.thr, .dat .int (turnT b l ⟨⟨v, ks, t⟩, n⟩ ⟨nv, nk, nt⟩ sg).1.version], .one (.dat .int (turnT b l ⟨⟨v, ks, t⟩, n⟩ ⟨nv, nk, nt⟩ sg).2)], [])
  | _, _ => none
def Γ_trust_Turn : Ctx := [(n_trust_CheckTrust, c_trust_CheckTrust), (n_meta_RootText, c_meta_RootText), (n_meta_Name, c_meta_Name), (n_trust_Count, c_trust_Count), (n_slices_Clone_Lint, c_slices_Clone_Lint)]
theorem ok_trust_Turn : Ok Tryd.prog tab Γ_trust_Turn := (((((ok_nil.consC hf_slices_Clone_Lint hB_slices_Clone_Lint sound_slices_Clone_Lint).consC hf_trust_Count hB_trust_Count sound_trust_Count).consC hf_meta_Name hB_meta_Name sound_meta_Name).consC hf_meta_RootText hB_meta_RootText sound_meta_RootText).consC hf_trust_CheckTrust hB_trust_CheckTrust sound_trust_CheckTrust)
noncomputable def trust_Turn_L0 : List It := [.inLoop [57, 56, 15, 11, 10, 8, 7, 1, 4] (Code.sub (bodyOf fn_trust_Turn) [1, 1, 1, 1, 1, 1, 1, 0, 1, 0, 0]), .inBlock 0, .code (Code.sub (bodyOf fn_trust_Turn) [1, 1, 1, 1, 1, 1, 1, 1])]
def trust_Turn_S0 (x0 : Int) (x1 : Int) (x2 : (List Int)) (x3 : Int) (x4 : Int) (x5 : (List Int)) (x6 : Int) (x7 : Int) (x8 : Int) (x9 : (List Vm.Signed)) (x10 : (List Int)) (x11 : Int) (x12 : Int) (x13 : Int) (x14 : Int) (x15 : (List Int)) (x16 : Int) (x17 : Int) (x18 : (List Int)) (x19 : Int) (x20 : Int) (x21 : (List Int)) : St := ⟨[(57, .one (.dat Ty.int x0)), (56, .agg [.dat Ty.int x1, .dat (Ty.list Ty.int) x2, .dat Ty.int x3, .dat Ty.int x4, .dat (Ty.list Ty.int) x5, .dat Ty.int x6]), (15, .one (.dat Ty.int x7)), (11, .one (.dat Ty.int x8)), (10, .one (.ptr 0 0)), (8, .one (.ptr 1 0)), (7, .one (.ptr 2 0)), (1, .one (.dat (Ty.list Ty.signed) x9)), (4, .one (.dat (Ty.list Ty.int) x10))], [(0, .box [.dat Ty.int x11, .own 3, .dat Ty.int x12, .dat Ty.int x13]), (1, .box [.dat Ty.int x14, .dat (Ty.list Ty.int) x15, .dat Ty.int x16]), (2, .box [.dat Ty.int x17, .dat (Ty.list Ty.int) x18, .dat Ty.int x19, .dat Ty.int x20]), (3, .arr Ty.int x21)], 4⟩
theorem trust_Turn_vc (b : List (List UInt8)) (l : List Signed) (v : Int) (ks : List Int) (t : Int) (n : Int) (nv : Int) (nk : List Int) (nt : Int) (sg : List Int) (rec : List It → St → Prop) (K : V → List Blk → Prop) v0 (hv0 : v0 = (checkTrust (⟨(⟨v, ks, t⟩ : Vm.Root), n⟩ : Vm.Trust))) v1 (hv1 : v1 = (rootTextE nv nk nt)) v2 (hv2 : v2 = (nameB b (v1).fst)) : segD Γ_trust_Turn tab fn_trust_Turn 0 K rec [.code (bodyOf fn_trust_Turn)] (initSt [.agg [.dat (Ty.list Ty.str) b], .one (.dat (Ty.list Ty.signed) l), .agg [.dat Ty.int v, .dat (Ty.list Ty.int) ks, .dat Ty.int t, .dat Ty.int n], .agg [.dat Ty.int nv, .dat (Ty.list Ty.int) nk, .dat Ty.int nt], .one (.dat (Ty.list Ty.int) sg)] []) = (
    br (!(eqi v0 (0 : Int)))
     (K (.tup [.agg [.dat Ty.int (0 : Int), .dat (Ty.list Ty.int) [], .dat Ty.int (0 : Int), .dat Ty.int (0 : Int)], .one (.dat Ty.int v0)]) [])
     (br (!(eqi (v1).snd (0 : Int)))
       (K (.tup [.agg [.dat Ty.int (0 : Int), .dat (Ty.list Ty.int) [], .dat Ty.int (0 : Int), .dat Ty.int (0 : Int)], .one (.dat Ty.int (v1).snd)]) [])
       (((List.length b) ≤ 140737488355328) ∧
        (br (!(eqi (v2).snd (0 : Int)))
         (K (.tup [.agg [.dat Ty.int (0 : Int), .dat (Ty.list Ty.int) [], .dat Ty.int (0 : Int), .dat Ty.int (0 : Int)], .one (.dat Ty.int (v2).snd)]) [])
         (br (!(eqi nv (w64 (v + (1 : Int)))))
           (K (.tup [.agg [.dat Ty.int (0 : Int), .dat (Ty.list Ty.int) [], .dat Ty.int (0 : Int), .dat Ty.int (0 : Int)], .one (.dat Ty.int (10 : Int))]) [])
           (rec trust_Turn_L0 (trust_Turn_S0 (0 : Int) v ks t nv nk nt (v2).fst (0 : Int) l sg (0 : Int) (0 : Int) (0 : Int) nv nk nt v ks t n []))))))) := by subst hv2; subst hv1; subst hv0; kernel_rfl
theorem trust_Turn_w (b : List (List UInt8)) (l : List Signed) (v : Int) (ks : List Int) (t : Int) (n : Int) (nv : Int) (nk : List Int) (nt : Int) (sg : List Int) (m : Nat) (K : V → List Blk → Prop) : goD Γ_trust_Turn tab fn_trust_Turn 0 K (m + 1) [.code (bodyOf fn_trust_Turn)] (initSt [.agg [.dat (Ty.list Ty.str) b], .one (.dat (Ty.list Ty.signed) l), .agg [.dat Ty.int v, .dat (Ty.list Ty.int) ks, .dat Ty.int t, .dat Ty.int n], .agg [.dat Ty.int nv, .dat (Ty.list Ty.int) nk, .dat Ty.int nt], .one (.dat (Ty.list Ty.int) sg)] []) = segD Γ_trust_Turn tab fn_trust_Turn 0 K (goD Γ_trust_Turn tab fn_trust_Turn 0 K m) [.code (bodyOf fn_trust_Turn)] (initSt [.agg [.dat (Ty.list Ty.str) b], .one (.dat (Ty.list Ty.signed) l), .agg [.dat Ty.int v, .dat (Ty.list Ty.int) ks, .dat Ty.int t, .dat Ty.int n], .agg [.dat Ty.int nv, .dat (Ty.list Ty.int) nk, .dat Ty.int nt], .one (.dat (Ty.list Ty.int) sg)] []) := rfl
theorem trust_Turn_vc0_0 (x1 : Int) (x2 : (List Int)) (x3 : Int) (x4 : Int) (x5 : (List Int)) (x6 : Int) (x7 : Int) (x8 : Int) (x9 : (List Vm.Signed)) (x10 : (List Int)) (x11 : Int) (x12 : Int) (x13 : Int) (x14 : Int) (x15 : (List Int)) (x16 : Int) (x17 : Int) (x18 : (List Int)) (x19 : Int) (x20 : Int) (x21 : (List Int)) (rec : List It → St → Prop) (K : V → List Blk → Prop) v0 (hv0 : v0 = (countT x9 (⟨x1, x2, x3⟩ : Vm.Root) x10 x7)) : segD Γ_trust_Turn tab fn_trust_Turn 0 K rec (.code (Code.sub (bodyOf fn_trust_Turn) [1, 1, 1, 1, 1, 1, 1, 0, 1, 0, 0]) :: trust_Turn_L0) (trust_Turn_S0 (0 : Int) x1 x2 x3 x4 x5 x6 x7 x8 x9 x10 x11 x12 x13 x14 x15 x16 x17 x18 x19 x20 x21) = (
    (((0 : Int) ≤ (0 : Int)) ∧ ((0 : Int) < ((2 : Nat) : Int))) ∧
    (br (!(eqi (v0).snd (0 : Int)))
     (K (.tup [.agg [.dat Ty.int (0 : Int), .dat (Ty.list Ty.int) [], .dat Ty.int (0 : Int), .dat Ty.int (0 : Int)], .one (.dat Ty.int (v0).snd)]) [])
     (br (lti (v0).fst x3)
       (K (.tup [.agg [.dat Ty.int (0 : Int), .dat (Ty.list Ty.int) [], .dat Ty.int (0 : Int), .dat Ty.int (0 : Int)], .one (.dat Ty.int (9 : Int))]) [])
       (rec trust_Turn_L0 (trust_Turn_S0 (w64 ((0 : Int) + (1 : Int))) x1 x2 x3 x4 x5 x6 x7 x8 x9 x10 x11 x12 x13 x14 x15 x16 x17 x18 x19 x20 x21))))) := by subst hv0; kernel_rfl
theorem trust_Turn_vc0_1 (x1 : Int) (x2 : (List Int)) (x3 : Int) (x4 : Int) (x5 : (List Int)) (x6 : Int) (x7 : Int) (x8 : Int) (x9 : (List Vm.Signed)) (x10 : (List Int)) (x11 : Int) (x12 : Int) (x13 : Int) (x14 : Int) (x15 : (List Int)) (x16 : Int) (x17 : Int) (x18 : (List Int)) (x19 : Int) (x20 : Int) (x21 : (List Int)) (rec : List It → St → Prop) (K : V → List Blk → Prop) v0 (hv0 : v0 = (countT x9 (⟨x4, x5, x6⟩ : Vm.Root) x10 x7)) : segD Γ_trust_Turn tab fn_trust_Turn 0 K rec (.code (Code.sub (bodyOf fn_trust_Turn) [1, 1, 1, 1, 1, 1, 1, 0, 1, 0, 0]) :: trust_Turn_L0) (trust_Turn_S0 (1 : Int) x1 x2 x3 x4 x5 x6 x7 x8 x9 x10 x11 x12 x13 x14 x15 x16 x17 x18 x19 x20 x21) = (
    (((0 : Int) ≤ (1 : Int)) ∧ ((1 : Int) < ((2 : Nat) : Int))) ∧
    (br (!(eqi (v0).snd (0 : Int)))
     (K (.tup [.agg [.dat Ty.int (0 : Int), .dat (Ty.list Ty.int) [], .dat Ty.int (0 : Int), .dat Ty.int (0 : Int)], .one (.dat Ty.int (v0).snd)]) [])
     (br (lti (v0).fst x6)
       (K (.tup [.agg [.dat Ty.int (0 : Int), .dat (Ty.list Ty.int) [], .dat Ty.int (0 : Int), .dat Ty.int (0 : Int)], .one (.dat Ty.int (9 : Int))]) [])
       (rec trust_Turn_L0 (trust_Turn_S0 (w64 ((1 : Int) + (1 : Int))) x1 x2 x3 x4 x5 x6 x7 x8 x9 x10 x11 x12 x13 x14 x15 x16 x17 x18 x19 x20 x21))))) := by subst hv0; kernel_rfl
theorem trust_Turn_vc0_2 (x1 : Int) (x2 : (List Int)) (x3 : Int) (x4 : Int) (x5 : (List Int)) (x6 : Int) (x7 : Int) (x8 : Int) (x9 : (List Vm.Signed)) (x10 : (List Int)) (x11 : Int) (x12 : Int) (x13 : Int) (x14 : Int) (x15 : (List Int)) (x16 : Int) (x17 : Int) (x18 : (List Int)) (x19 : Int) (x20 : Int) (x21 : (List Int)) (rec : List It → St → Prop) (K : V → List Blk → Prop) : segD Γ_trust_Turn tab fn_trust_Turn 0 K rec (.code (Code.sub (bodyOf fn_trust_Turn) [1, 1, 1, 1, 1, 1, 1, 0, 1, 0, 0]) :: trust_Turn_L0) (trust_Turn_S0 (2 : Int) x1 x2 x3 x4 x5 x6 x7 x8 x9 x10 x11 x12 x13 x14 x15 x16 x17 x18 x19 x20 x21) = (
    (((len x15) * 8) ≤ 140737488355328) ∧
    (K (.tup [.agg [.dat Ty.int x14, .dat (Ty.list Ty.int) x15, .dat Ty.int x16, .dat Ty.int x20], .one (.dat Ty.int (0 : Int))]) [])) := by kernel_rfl
theorem trust_Turn_vc0_3 (x1 : Int) (x2 : (List Int)) (x3 : Int) (x4 : Int) (x5 : (List Int)) (x6 : Int) (x7 : Int) (x8 : Int) (x9 : (List Vm.Signed)) (x10 : (List Int)) (x11 : Int) (x12 : Int) (x13 : Int) (x14 : Int) (x15 : (List Int)) (x16 : Int) (x17 : Int) (x18 : (List Int)) (x19 : Int) (x20 : Int) (x21 : (List Int)) (rec : List It → St → Prop) (K : V → List Blk → Prop) : segD Γ_trust_Turn tab fn_trust_Turn 0 K rec (.code (Code.sub (bodyOf fn_trust_Turn) [1, 1, 1, 1, 1, 1, 1, 0, 1, 0, 0]) :: trust_Turn_L0) (trust_Turn_S0 (3 : Int) x1 x2 x3 x4 x5 x6 x7 x8 x9 x10 x11 x12 x13 x14 x15 x16 x17 x18 x19 x20 x21) = (
    (((len x15) * 8) ≤ 140737488355328) ∧
    (K (.tup [.agg [.dat Ty.int x14, .dat (Ty.list Ty.int) x15, .dat Ty.int x16, .dat Ty.int x20], .one (.dat Ty.int (0 : Int))]) [])) := by kernel_rfl
theorem trust_Turn_w0 (x0 : Int) (x1 : Int) (x2 : (List Int)) (x3 : Int) (x4 : Int) (x5 : (List Int)) (x6 : Int) (x7 : Int) (x8 : Int) (x9 : (List Vm.Signed)) (x10 : (List Int)) (x11 : Int) (x12 : Int) (x13 : Int) (x14 : Int) (x15 : (List Int)) (x16 : Int) (x17 : Int) (x18 : (List Int)) (x19 : Int) (x20 : Int) (x21 : (List Int)) (m : Nat) (K : V → List Blk → Prop) : goD Γ_trust_Turn tab fn_trust_Turn 0 K (m + 1) trust_Turn_L0 (trust_Turn_S0 x0 x1 x2 x3 x4 x5 x6 x7 x8 x9 x10 x11 x12 x13 x14 x15 x16 x17 x18 x19 x20 x21) = segD Γ_trust_Turn tab fn_trust_Turn 0 K (goD Γ_trust_Turn tab fn_trust_Turn 0 K m) (.code (Code.sub (bodyOf fn_trust_Turn) [1, 1, 1, 1, 1, 1, 1, 0, 1, 0, 0]) :: trust_Turn_L0) (trust_Turn_S0 x0 x1 x2 x3 x4 x5 x6 x7 x8 x9 x10 x11 x12 x13 x14 x15 x16 x17 x18 x19 x20 x21) := rfl

set_option maxHeartbeats 4000000 in
theorem run_trust_Turn (b : List (List UInt8)) (l : List Vm.Signed) (v : Int) (ks : List Int) (t n nv : Int) (nk : List Int) (nt : Int) (sg : List Int) (hp : b.length ≤ 140737488355328) (K : V → List Blk → Prop) (hK : K (.tup [.agg [.dat .int (turnT b l ⟨⟨v, ks, t⟩, n⟩ ⟨nv, nk, nt⟩ sg).1.r.version, .dat (.list .int) (turnT b l ⟨⟨v, ks, t⟩, n⟩ ⟨nv, nk, nt⟩ sg).1.r.keys, .dat .int (turnT b l ⟨⟨v, ks, t⟩, n⟩ ⟨nv, nk, nt⟩ sg).1.r.thr, .dat .int (turnT b l ⟨⟨v, ks, t⟩, n⟩ ⟨nv, nk, nt⟩ sg).1.version], .one (.dat .int (turnT b l ⟨⟨v, ks, t⟩, n⟩ ⟨nv, nk, nt⟩ sg).2)]) []) : ∃ m, goD Γ_trust_Turn tab fn_trust_Turn 0 K m [.code (bodyOf fn_trust_Turn)] (initSt [.agg [.dat (.list .str) b], .one (.dat (.list .signed) l), .agg [.dat .int v, .dat (.list .int) ks, .dat .int t, .dat .int n], .agg [.dat .int nv, .dat (.list .int) nk, .dat .int nt], .one (.dat (.list .int) sg)] []) := by
  refine ⟨5, ?_⟩
  rw [trust_Turn_w, trust_Turn_vc _ _ _ _ _ _ _ _ _ _ _ _ _ rfl _ rfl _ rfl]
  have bad : ∀ e : Int, e ≠ 0 → turnE b l ⟨⟨v, ks, t⟩, n⟩ ⟨nv, nk, nt⟩ sg = e → K (.tup [.agg [.dat .int 0, .dat (.list .int) [], .dat .int 0, .dat .int 0], .one (.dat .int e)]) [] := fun e he h => by
    rw [show turnT b l ⟨⟨v, ks, t⟩, n⟩ ⟨nv, nk, nt⟩ sg = (noTrust, e) from by unfold turnT; rw [if_neg (by rw [h]; exact he), h]] at hK
    exact hK
  refine ne_s (fun h => bad _ h (if_neg h)) (fun h => ?_)
  have E1 : turnE b l ⟨⟨v, ks, t⟩, n⟩ ⟨nv, nk, nt⟩ sg = _ := if_pos h
  refine ne_s (fun h2 => ?_) (fun h2 => ⟨hp, ?_⟩)
  · unfold rootTextE at h2 ⊢
    by_cases c : checkRoot nv nk nt = 0
    · rw [if_pos c] at h2; exact absurd rfl h2
    · rw [if_neg c]
      exact bad _ c (E1.trans (if_neg c))
  have c2 : checkRoot nv nk nt = 0 := by
    by_cases c : checkRoot nv nk nt = 0
    · exact c
    · unfold rootTextE at h2; rw [if_neg c] at h2; exact h2
  rw [show rootTextE nv nk nt = (rootText nv nk nt, 0) from if_pos c2]
  have E2 := E1.trans (if_pos c2)
  refine ne_s (fun h3 => ?_) (fun h3 => ?_)
  · unfold nameB at h3 ⊢
    by_cases c : checkBook b = 0
    · rw [if_pos c] at h3; exact absurd rfl h3
    · rw [if_neg c]
      exact bad _ c (E2.trans (if_neg c))
  have c3 : checkBook b = 0 := by
    by_cases c : checkBook b = 0
    · exact c
    · unfold nameB at h3; rw [if_neg c] at h3; exact h3
  have E3 := E2.trans (if_pos c3)
  simp only [show nameB b (rootText nv nk nt) = (indexS (rootText nv nk nt) b + 1, 0) from if_pos c3]
  obtain ⟨t1, t2, t3⟩ := checkTrust_ok h
  obtain ⟨r1, r2, r3, r4, r5, _⟩ := checkRoot_ok t3
  obtain ⟨q1, q2, q3, q4, q5, _⟩ := checkRoot_ok c2
  simp only at t1 t2 r1 r2 r3 r4 r5
  rw [w64_id (n := v + 1) (by omega) (by omega)]
  refine ne_s (fun h4 => bad _ (by decide) (E3.trans (if_neg h4))) (fun h4 => ?_)
  have E4 := E3.trans (if_pos h4)
  have step : ∀ (r : Vm.Root) (P Q R : Prop), (enough l r sg (indexS (rootText nv nk nt) b + 1) ≠ 0 → (countT l r sg (indexS (rootText nv nk nt) b + 1)).2 ≠ 0 → (countT l r sg (indexS (rootText nv nk nt) b + 1)).2 = enough l r sg (indexS (rootText nv nk nt) b + 1) → P) → (enough l r sg (indexS (rootText nv nk nt) b + 1) = 9 → Q) → (enough l r sg (indexS (rootText nv nk nt) b + 1) = 0 → R) →
      br (!eqi (countT l r sg (indexS (rootText nv nk nt) b + 1)).2 0) P (br (lti (countT l r sg (indexS (rootText nv nk nt) b + 1)).1 r.thr) Q R) := fun r P Q R hP hQ hR => by
    refine ne_s (fun g => ?_) (fun g => lt_s (fun g2 => hQ ?_) (fun g2 => hR ?_))
    · have e : enough l r sg (indexS (rootText nv nk nt) b + 1) = (countT l r sg (indexS (rootText nv nk nt) b + 1)).2 := if_neg g
      exact hP (by rw [e]; exact g) g e.symm
    · unfold enough; rw [if_pos g, if_pos g2]
    · unfold enough; rw [if_pos g, if_neg (by omega)]
  rw [trust_Turn_w0, trust_Turn_vc0_0 _ _ _ _ _ _ _ _ _ _ _ _ _ _ _ _ _ _ _ _ _ _ _ _ rfl]
  refine ⟨by omega, step ⟨v, ks, t⟩ _ _ _ (fun g g1 g2 => bad _ g1 ((E4.trans (if_neg g)).trans g2.symm)) (fun g => bad _ (by decide) ((E4.trans (if_neg (by rw [g]; decide))).trans g)) (fun g => ?_)⟩
  have E5 := E4.trans (if_pos g)
  rw [show w64 ((0 : Int) + 1) = 1 from w64_id (by omega) (by omega), trust_Turn_w0, trust_Turn_vc0_1 _ _ _ _ _ _ _ _ _ _ _ _ _ _ _ _ _ _ _ _ _ _ _ _ rfl]
  refine ⟨by omega, step ⟨nv, nk, nt⟩ _ _ _ (fun g g1 g2 => bad _ g1 (E5.trans g2.symm)) (fun g => bad _ (by decide) (E5.trans g)) (fun g => ?_)⟩
  rw [show w64 ((1 : Int) + 1) = 2 from w64_id (by omega) (by omega), trust_Turn_w0, trust_Turn_vc0_2 _ _ _ _ _ _ _ _ _ _ _ _ _ _ _ _ _ _ _ _ _ _ _]
  refine ⟨by simp only [len]; omega, ?_⟩
  rw [show turnT b l ⟨⟨v, ks, t⟩, n⟩ ⟨nv, nk, nt⟩ sg = (⟨⟨nv, nk, nt⟩, n⟩, 0) from if_pos (E5.trans g)] at hK
  exact hK
theorem sound_trust_Turn : SoundC Tryd.prog tab n_trust_Turn c_trust_Turn := soundC_of ok_trust_Turn hf_trust_Turn hB_trust_Turn (by
  intro vs bs p v bs' h hp
  unfold c_trust_Turn at h
  split at h
  · cases h
    exact ⟨by kernel_rfl, rfl, .inl (run_trust_Turn _ _ _ _ _ _ _ _ _ _ hp.1 _ ⟨rfl, rfl⟩)⟩
  · cases h)

def c_trust_Take_1 : Contract := fun vs bs => match vs, bs with
  | [.one (.dat .int e)], [] => some (none, .tup [.agg [.dat .int 0, .dat (.list .int) [], .dat .int 0, .dat .int 0], .one (.dat .int e)], [])
  | _, _ => none
def Γ_trust_Take_1 : Ctx := []
theorem ok_trust_Take_1 : Ok Tryd.prog tab Γ_trust_Take_1 := ok_nil
theorem trust_Take_1_vc (e : Int) (rec : List It → St → Prop) (K : V → List Blk → Prop) : segD Γ_trust_Take_1 tab fn_trust_Take_1 0 K rec [.code (bodyOf fn_trust_Take_1)] (initSt [.one (.dat Ty.int e)] []) = (
    K (.tup [.agg [.dat Ty.int (0 : Int), .dat (Ty.list Ty.int) [], .dat Ty.int (0 : Int), .dat Ty.int (0 : Int)], .one (.dat Ty.int e)]) []) := by kernel_rfl
theorem trust_Take_1_w (e : Int) (m : Nat) (K : V → List Blk → Prop) : goD Γ_trust_Take_1 tab fn_trust_Take_1 0 K (m + 1) [.code (bodyOf fn_trust_Take_1)] (initSt [.one (.dat Ty.int e)] []) = segD Γ_trust_Take_1 tab fn_trust_Take_1 0 K (goD Γ_trust_Take_1 tab fn_trust_Take_1 0 K m) [.code (bodyOf fn_trust_Take_1)] (initSt [.one (.dat Ty.int e)] []) := rfl

set_option maxHeartbeats 4000000 in
theorem run_trust_Take_1 (e : Int) (K : V → List Blk → Prop) (hK : K (.tup [.agg [.dat .int 0, .dat (.list .int) [], .dat .int 0, .dat .int 0], .one (.dat .int e)]) []) : ∃ m, goD Γ_trust_Take_1 tab fn_trust_Take_1 0 K m [.code (bodyOf fn_trust_Take_1)] (initSt [.one (.dat .int e)] []) := by
  refine ⟨1, ?_⟩
  rw [trust_Take_1_w, trust_Take_1_vc _ _ _]
  exact hK
theorem sound_trust_Take_1 : SoundC Tryd.prog tab n_trust_Take_1 c_trust_Take_1 := soundC_of ok_trust_Take_1 hf_trust_Take_1 hB_trust_Take_1 (by
  intro vs bs p v bs' h hp
  unfold c_trust_Take_1 at h
  split at h
  · cases h
    exact ⟨by kernel_rfl, rfl, .inl (run_trust_Take_1 _ _ ⟨rfl, rfl⟩)⟩
  · cases h)

def c_meta_CheckRelease : Contract := fun vs bs => match vs, bs with
  | [.agg [.dat .int v, .dat .int u, .dat (.list .target) ts]], [] => some (none, .one (.dat .int (checkRelease v u ts)), [])
  | _, _ => none
def Γ_meta_CheckRelease : Ctx := []
theorem ok_meta_CheckRelease : Ok Tryd.prog tab Γ_meta_CheckRelease := ok_nil
noncomputable def meta_CheckRelease_L0 : List It := [.inLoop [38, 37, 36, 2] (Code.sub (bodyOf fn_meta_CheckRelease) [1, 1, 1, 0, 1, 0, 0]), .inBlock 0, .code (Code.sub (bodyOf fn_meta_CheckRelease) [1, 1, 1, 1])]
def meta_CheckRelease_S0 (x0 : Int) (x1 : Int) (x2 : (List Vm.Target)) (x3 : Int) : St := ⟨[(38, .one (.dat Ty.int x0)), (37, .one (.dat Ty.int x1)), (36, .one (.dat (Ty.list Ty.target) x2)), (2, .one (.dat Ty.int x3))], [], 0⟩
noncomputable def meta_CheckRelease_L1 : List It := [.inLoop [55, 54, 53, 52, 51, 50, 49, 48, 47, 46, 45, 44, 43, 3, 4, 42, 41, 40, 39, 38, 37, 36, 2] (Code.sub (bodyOf fn_meta_CheckRelease) [1, 1, 1, 0, 1, 0, 0, 1, 1, 0, 0, 1, 1, 0, 0]), .inBlock 2, .inBlock 1, .code (Code.sub (bodyOf fn_meta_CheckRelease) [1, 1, 1, 0, 1, 0, 0, 1, 1, 1]), .inLoop [38, 37, 36, 2] (Code.sub (bodyOf fn_meta_CheckRelease) [1, 1, 1, 0, 1, 0, 0]), .inBlock 0, .code (Code.sub (bodyOf fn_meta_CheckRelease) [1, 1, 1, 1])]
def meta_CheckRelease_S1 (x0 : Int) (x1 : Int) (x2 : Int) (x3 : Int) (x4 : Int) (x5 : Int) (x6 : Int) (x7 : Int) (x8 : Int) (x9 : Int) (x10 : Int) (x11 : Int) (x12 : Int) (x13 : Int) (x14 : Int) (x15 : Int) (x16 : Int) (x17 : Int) (x18 : Int) (x19 : Int) (x20 : Int) (x21 : Int) (x22 : Int) (x23 : Int) (x24 : Int) (x25 : Int) (x26 : Int) (x27 : Int) (x28 : (List Vm.Target)) (x29 : Nat) (x30 : Int) (x31 : Bool) (x32 : Int) (x33 : Int) (x34 : (List Vm.Target)) (x35 : Int) (x36 : Int) (x37 : Int) (x38 : Int) : St := ⟨[(55, .one (.dat Ty.int x0)), (54, .agg [.dat Ty.int x1, .dat Ty.int x2, .dat Ty.int x3, .dat Ty.int x4, .dat Ty.int x5, .dat Ty.int x6, .dat Ty.int x7, .dat Ty.int x8, .dat Ty.int x9]), (53, .agg [.dat Ty.int x10, .dat Ty.int x11, .dat Ty.int x12]), (52, .one (.dat Ty.int x13)), (51, .one (.ptr 0 2)), (50, .agg [.dat Ty.int x14, .dat Ty.int x15, .dat Ty.int x16]), (49, .one (.dat Ty.int x17)), (48, .one (.ptr 0 1)), (47, .agg [.dat Ty.int x18, .dat Ty.int x19, .dat Ty.int x20]), (46, .one (.dat Ty.int x21)), (45, .one (.dat Ty.int x22)), (44, .one (.dat Ty.int x23)), (43, .one (.ptr 0 0)), (3, .one (.dat Ty.int x24)), (4, .one (.ptr 0 0)), (42, .agg [.dat Ty.int x25, .dat Ty.int x26, .dat Ty.int x27]), (41, .one (.eptr Ty.target x28 x29 0)), (40, .one (.dat Ty.int x30)), (39, .one (.dat Ty.bool x31)), (38, .one (.dat Ty.int x32)), (37, .one (.dat Ty.int x33)), (36, .one (.dat (Ty.list Ty.target) x34)), (2, .one (.dat Ty.int x35))], [(0, .box [.dat Ty.int x36, .dat Ty.int x37, .dat Ty.int x38])], 1⟩
theorem meta_CheckRelease_vc (v : Int) (u : Int) (ts : List Vm.Target) (rec : List It → St → Prop) (K : V → List Blk → Prop) : segD Γ_meta_CheckRelease tab fn_meta_CheckRelease 0 K rec [.code (bodyOf fn_meta_CheckRelease)] (initSt [.agg [.dat Ty.int v, .dat Ty.int u, .dat (Ty.list Ty.target) ts]] []) = (
    br (lti v (1 : Int))
     (K (.one (.dat Ty.int (3 : Int))) [])
     (br (lti (1000 : Int) v)
       (K (.one (.dat Ty.int (3 : Int))) [])
       (br (lti u (0 : Int))
         (K (.one (.dat Ty.int (3 : Int))) [])
         (br (lti (100000 : Int) u)
           (K (.one (.dat Ty.int (3 : Int))) [])
           (br (eqi (((len ts) : Nat) : Int) (0 : Int))
             (K (.one (.dat Ty.int (2 : Int))) [])
             (br (lti (4 : Int) (((len ts) : Nat) : Int))
               (K (.one (.dat Ty.int (2 : Int))) [])
               (rec meta_CheckRelease_L0 (meta_CheckRelease_S0 (0 : Int) (((len ts) : Nat) : Int) ts (0 : Int))))))))) := by kernel_rfl
theorem meta_CheckRelease_w (v : Int) (u : Int) (ts : List Vm.Target) (m : Nat) (K : V → List Blk → Prop) : goD Γ_meta_CheckRelease tab fn_meta_CheckRelease 0 K (m + 1) [.code (bodyOf fn_meta_CheckRelease)] (initSt [.agg [.dat Ty.int v, .dat Ty.int u, .dat (Ty.list Ty.target) ts]] []) = segD Γ_meta_CheckRelease tab fn_meta_CheckRelease 0 K (goD Γ_meta_CheckRelease tab fn_meta_CheckRelease 0 K m) [.code (bodyOf fn_meta_CheckRelease)] (initSt [.agg [.dat Ty.int v, .dat Ty.int u, .dat (Ty.list Ty.target) ts]] []) := rfl
theorem meta_CheckRelease_vc0 (x0 : Int) (x1 : Int) (x2 : (List Vm.Target)) (x3 : Int) (rec : List It → St → Prop) (K : V → List Blk → Prop) : segD Γ_meta_CheckRelease tab fn_meta_CheckRelease 0 K rec (.code (Code.sub (bodyOf fn_meta_CheckRelease) [1, 1, 1, 0, 1, 0, 0]) :: meta_CheckRelease_L0) (meta_CheckRelease_S0 x0 x1 x2 x3) = (
    br (lti x0 x1)
     ((((0 : Int) ≤ x0) ∧ (x0 < (((len x2) : Nat) : Int))) ∧
      (rec meta_CheckRelease_L1 (meta_CheckRelease_S1 (0 : Int) ((nth x2 (Int.toNat x0) (Ty.dflt Ty.target))).unit x0 x0 ((nth x2 (Int.toNat x0) (Ty.dflt Ty.target))).image (1 : Int) (60 : Int) ((nth x2 (Int.toNat x0) (Ty.dflt Ty.target))).long (1 : Int) (40 : Int) ((nth x2 (Int.toNat x0) (Ty.dflt Ty.target))).long (1 : Int) (40 : Int) ((nth x2 (Int.toNat x0) (Ty.dflt Ty.target))).long ((nth x2 (Int.toNat x0) (Ty.dflt Ty.target))).image (1 : Int) (60 : Int) ((nth x2 (Int.toNat x0) (Ty.dflt Ty.target))).image ((nth x2 (Int.toNat x0) (Ty.dflt Ty.target))).unit x0 x0 x0 x0 ((nth x2 (Int.toNat x0) (Ty.dflt Ty.target))).unit x0 ((nth x2 (Int.toNat x0) (Ty.dflt Ty.target))).unit ((nth x2 (Int.toNat x0) (Ty.dflt Ty.target))).image ((nth x2 (Int.toNat x0) (Ty.dflt Ty.target))).long x2 (Int.toNat x0) x0 (lti x0 x1) x0 x1 x2 x3 ((nth x2 (Int.toNat x0) (Ty.dflt Ty.target))).unit ((nth x2 (Int.toNat x0) (Ty.dflt Ty.target))).image ((nth x2 (Int.toNat x0) (Ty.dflt Ty.target))).long)))
     (K (.one (.dat Ty.int (0 : Int))) [])) := by kernel_rfl
theorem meta_CheckRelease_w0 (x0 : Int) (x1 : Int) (x2 : (List Vm.Target)) (x3 : Int) (m : Nat) (K : V → List Blk → Prop) : goD Γ_meta_CheckRelease tab fn_meta_CheckRelease 0 K (m + 1) meta_CheckRelease_L0 (meta_CheckRelease_S0 x0 x1 x2 x3) = segD Γ_meta_CheckRelease tab fn_meta_CheckRelease 0 K (goD Γ_meta_CheckRelease tab fn_meta_CheckRelease 0 K m) (.code (Code.sub (bodyOf fn_meta_CheckRelease) [1, 1, 1, 0, 1, 0, 0]) :: meta_CheckRelease_L0) (meta_CheckRelease_S0 x0 x1 x2 x3) := rfl
theorem meta_CheckRelease_vc1_0 (x1 : Int) (x2 : Int) (x3 : Int) (x4 : Int) (x5 : Int) (x6 : Int) (x7 : Int) (x8 : Int) (x9 : Int) (x10 : Int) (x11 : Int) (x12 : Int) (x13 : Int) (x14 : Int) (x15 : Int) (x16 : Int) (x17 : Int) (x18 : Int) (x19 : Int) (x20 : Int) (x21 : Int) (x22 : Int) (x23 : Int) (x24 : Int) (x25 : Int) (x26 : Int) (x27 : Int) (x28 : (List Vm.Target)) (x29 : Nat) (x30 : Int) (x31 : Bool) (x32 : Int) (x33 : Int) (x34 : (List Vm.Target)) (x35 : Int) (x36 : Int) (x37 : Int) (x38 : Int) (rec : List It → St → Prop) (K : V → List Blk → Prop) : segD Γ_meta_CheckRelease tab fn_meta_CheckRelease 0 K rec (.code (Code.sub (bodyOf fn_meta_CheckRelease) [1, 1, 1, 0, 1, 0, 0, 1, 1, 0, 0, 1, 1, 0, 0]) :: meta_CheckRelease_L1) (meta_CheckRelease_S1 (0 : Int) x1 x2 x3 x4 x5 x6 x7 x8 x9 x10 x11 x12 x13 x14 x15 x16 x17 x18 x19 x20 x21 x22 x23 x24 x25 x26 x27 x28 x29 x30 x31 x32 x33 x34 x35 x36 x37 x38) = (
    (((0 : Int) ≤ (0 : Int)) ∧ ((0 : Int) < ((3 : Nat) : Int))) ∧
    ((((0 : Int) ≤ (0 : Int)) ∧ ((0 : Int) < ((3 : Nat) : Int))) ∧
    ((((0 : Int) ≤ (1 : Int)) ∧ ((1 : Int) < ((3 : Nat) : Int))) ∧
    (br (lti x1 x2)
     (K (.one (.dat Ty.int (3 : Int))) [])
     ((((0 : Int) ≤ (0 : Int)) ∧ ((0 : Int) < ((3 : Nat) : Int))) ∧
      ((((0 : Int) ≤ (2 : Int)) ∧ ((2 : Int) < ((3 : Nat) : Int))) ∧
      (br (lti x3 x1)
       (K (.one (.dat Ty.int (3 : Int))) [])
       (rec meta_CheckRelease_L1 (meta_CheckRelease_S1 (w64 ((0 : Int) + (1 : Int))) x1 x2 x3 x4 x5 x6 x7 x8 x9 x10 x11 x12 x13 x14 x15 x16 x17 x18 x19 x20 x21 x22 x23 x24 x25 x26 x27 x28 x29 x30 x31 x32 x33 x34 x35 x36 x37 x38))))))))) := by kernel_rfl
theorem meta_CheckRelease_vc1_1 (x1 : Int) (x2 : Int) (x3 : Int) (x4 : Int) (x5 : Int) (x6 : Int) (x7 : Int) (x8 : Int) (x9 : Int) (x10 : Int) (x11 : Int) (x12 : Int) (x13 : Int) (x14 : Int) (x15 : Int) (x16 : Int) (x17 : Int) (x18 : Int) (x19 : Int) (x20 : Int) (x21 : Int) (x22 : Int) (x23 : Int) (x24 : Int) (x25 : Int) (x26 : Int) (x27 : Int) (x28 : (List Vm.Target)) (x29 : Nat) (x30 : Int) (x31 : Bool) (x32 : Int) (x33 : Int) (x34 : (List Vm.Target)) (x35 : Int) (x36 : Int) (x37 : Int) (x38 : Int) (rec : List It → St → Prop) (K : V → List Blk → Prop) : segD Γ_meta_CheckRelease tab fn_meta_CheckRelease 0 K rec (.code (Code.sub (bodyOf fn_meta_CheckRelease) [1, 1, 1, 0, 1, 0, 0, 1, 1, 0, 0, 1, 1, 0, 0]) :: meta_CheckRelease_L1) (meta_CheckRelease_S1 (1 : Int) x1 x2 x3 x4 x5 x6 x7 x8 x9 x10 x11 x12 x13 x14 x15 x16 x17 x18 x19 x20 x21 x22 x23 x24 x25 x26 x27 x28 x29 x30 x31 x32 x33 x34 x35 x36 x37 x38) = (
    (((0 : Int) ≤ (1 : Int)) ∧ ((1 : Int) < ((3 : Nat) : Int))) ∧
    ((((0 : Int) ≤ (0 : Int)) ∧ ((0 : Int) < ((3 : Nat) : Int))) ∧
    ((((0 : Int) ≤ (1 : Int)) ∧ ((1 : Int) < ((3 : Nat) : Int))) ∧
    (br (lti x4 x5)
     (K (.one (.dat Ty.int (3 : Int))) [])
     ((((0 : Int) ≤ (0 : Int)) ∧ ((0 : Int) < ((3 : Nat) : Int))) ∧
      ((((0 : Int) ≤ (2 : Int)) ∧ ((2 : Int) < ((3 : Nat) : Int))) ∧
      (br (lti x6 x4)
       (K (.one (.dat Ty.int (3 : Int))) [])
       (rec meta_CheckRelease_L1 (meta_CheckRelease_S1 (w64 ((1 : Int) + (1 : Int))) x1 x2 x3 x4 x5 x6 x7 x8 x9 x10 x11 x12 x13 x14 x15 x16 x17 x18 x19 x20 x21 x22 x23 x24 x25 x26 x27 x28 x29 x30 x31 x32 x33 x34 x35 x36 x37 x38))))))))) := by kernel_rfl
theorem meta_CheckRelease_vc1_2 (x1 : Int) (x2 : Int) (x3 : Int) (x4 : Int) (x5 : Int) (x6 : Int) (x7 : Int) (x8 : Int) (x9 : Int) (x10 : Int) (x11 : Int) (x12 : Int) (x13 : Int) (x14 : Int) (x15 : Int) (x16 : Int) (x17 : Int) (x18 : Int) (x19 : Int) (x20 : Int) (x21 : Int) (x22 : Int) (x23 : Int) (x24 : Int) (x25 : Int) (x26 : Int) (x27 : Int) (x28 : (List Vm.Target)) (x29 : Nat) (x30 : Int) (x31 : Bool) (x32 : Int) (x33 : Int) (x34 : (List Vm.Target)) (x35 : Int) (x36 : Int) (x37 : Int) (x38 : Int) (rec : List It → St → Prop) (K : V → List Blk → Prop) : segD Γ_meta_CheckRelease tab fn_meta_CheckRelease 0 K rec (.code (Code.sub (bodyOf fn_meta_CheckRelease) [1, 1, 1, 0, 1, 0, 0, 1, 1, 0, 0, 1, 1, 0, 0]) :: meta_CheckRelease_L1) (meta_CheckRelease_S1 (2 : Int) x1 x2 x3 x4 x5 x6 x7 x8 x9 x10 x11 x12 x13 x14 x15 x16 x17 x18 x19 x20 x21 x22 x23 x24 x25 x26 x27 x28 x29 x30 x31 x32 x33 x34 x35 x36 x37 x38) = (
    (((0 : Int) ≤ (2 : Int)) ∧ ((2 : Int) < ((3 : Nat) : Int))) ∧
    ((((0 : Int) ≤ (0 : Int)) ∧ ((0 : Int) < ((3 : Nat) : Int))) ∧
    ((((0 : Int) ≤ (1 : Int)) ∧ ((1 : Int) < ((3 : Nat) : Int))) ∧
    (br (lti x7 x8)
     (K (.one (.dat Ty.int (3 : Int))) [])
     ((((0 : Int) ≤ (0 : Int)) ∧ ((0 : Int) < ((3 : Nat) : Int))) ∧
      ((((0 : Int) ≤ (2 : Int)) ∧ ((2 : Int) < ((3 : Nat) : Int))) ∧
      (br (lti x9 x7)
       (K (.one (.dat Ty.int (3 : Int))) [])
       (rec meta_CheckRelease_L1 (meta_CheckRelease_S1 (w64 ((2 : Int) + (1 : Int))) x1 x2 x3 x4 x5 x6 x7 x8 x9 x10 x11 x12 x13 x14 x15 x16 x17 x18 x19 x20 x21 x22 x23 x24 x25 x26 x27 x28 x29 x30 x31 x32 x33 x34 x35 x36 x37 x38))))))))) := by kernel_rfl
theorem meta_CheckRelease_vc1_3 (x1 : Int) (x2 : Int) (x3 : Int) (x4 : Int) (x5 : Int) (x6 : Int) (x7 : Int) (x8 : Int) (x9 : Int) (x10 : Int) (x11 : Int) (x12 : Int) (x13 : Int) (x14 : Int) (x15 : Int) (x16 : Int) (x17 : Int) (x18 : Int) (x19 : Int) (x20 : Int) (x21 : Int) (x22 : Int) (x23 : Int) (x24 : Int) (x25 : Int) (x26 : Int) (x27 : Int) (x28 : (List Vm.Target)) (x29 : Nat) (x30 : Int) (x31 : Bool) (x32 : Int) (x33 : Int) (x34 : (List Vm.Target)) (x35 : Int) (x36 : Int) (x37 : Int) (x38 : Int) (rec : List It → St → Prop) (K : V → List Blk → Prop) : segD Γ_meta_CheckRelease tab fn_meta_CheckRelease 0 K rec (.code (Code.sub (bodyOf fn_meta_CheckRelease) [1, 1, 1, 0, 1, 0, 0, 1, 1, 0, 0, 1, 1, 0, 0]) :: meta_CheckRelease_L1) (meta_CheckRelease_S1 (3 : Int) x1 x2 x3 x4 x5 x6 x7 x8 x9 x10 x11 x12 x13 x14 x15 x16 x17 x18 x19 x20 x21 x22 x23 x24 x25 x26 x27 x28 x29 x30 x31 x32 x33 x34 x35 x36 x37 x38) = (
    rec meta_CheckRelease_L0 (meta_CheckRelease_S0 (w64 (x32 + (1 : Int))) x33 x34 x35)) := by kernel_rfl
theorem meta_CheckRelease_w1 (x0 : Int) (x1 : Int) (x2 : Int) (x3 : Int) (x4 : Int) (x5 : Int) (x6 : Int) (x7 : Int) (x8 : Int) (x9 : Int) (x10 : Int) (x11 : Int) (x12 : Int) (x13 : Int) (x14 : Int) (x15 : Int) (x16 : Int) (x17 : Int) (x18 : Int) (x19 : Int) (x20 : Int) (x21 : Int) (x22 : Int) (x23 : Int) (x24 : Int) (x25 : Int) (x26 : Int) (x27 : Int) (x28 : (List Vm.Target)) (x29 : Nat) (x30 : Int) (x31 : Bool) (x32 : Int) (x33 : Int) (x34 : (List Vm.Target)) (x35 : Int) (x36 : Int) (x37 : Int) (x38 : Int) (m : Nat) (K : V → List Blk → Prop) : goD Γ_meta_CheckRelease tab fn_meta_CheckRelease 0 K (m + 1) meta_CheckRelease_L1 (meta_CheckRelease_S1 x0 x1 x2 x3 x4 x5 x6 x7 x8 x9 x10 x11 x12 x13 x14 x15 x16 x17 x18 x19 x20 x21 x22 x23 x24 x25 x26 x27 x28 x29 x30 x31 x32 x33 x34 x35 x36 x37 x38) = segD Γ_meta_CheckRelease tab fn_meta_CheckRelease 0 K (goD Γ_meta_CheckRelease tab fn_meta_CheckRelease 0 K m) (.code (Code.sub (bodyOf fn_meta_CheckRelease) [1, 1, 1, 0, 1, 0, 0, 1, 1, 0, 0, 1, 1, 0, 0]) :: meta_CheckRelease_L1) (meta_CheckRelease_S1 x0 x1 x2 x3 x4 x5 x6 x7 x8 x9 x10 x11 x12 x13 x14 x15 x16 x17 x18 x19 x20 x21 x22 x23 x24 x25 x26 x27 x28 x29 x30 x31 x32 x33 x34 x35 x36 x37 x38) := rfl

theorem loop_meta_CheckRelease (ts : List Vm.Target) (hl : ts.length ≤ 4) (K : V → List Blk → Prop) : ∀ (d k : Nat), k + d = ts.length → K (.one (.dat .int (if okTargets (k : Int) (ts.drop k) then 0 else 3))) [] →
    goD Γ_meta_CheckRelease tab fn_meta_CheckRelease 0 K (5 * d + 1) meta_CheckRelease_L0 (meta_CheckRelease_S0 (k : Int) (((len ts) : Nat) : Int) ts 0)
  | 0, k, hk, hK => by
    rw [show 5 * 0 + 1 = 0 + 1 by omega, meta_CheckRelease_w0, meta_CheckRelease_vc0 _ _ _ _ _ _]
    rw [List.drop_of_length_le (by omega)] at hK
    exact lt_f (by simp only [len]; omega) hK
  | d + 1, k, hk, hK => by
    rw [show 5 * (d + 1) + 1 = (5 * d + 1 + 1 + 1 + 1 + 1) + 1 by omega, meta_CheckRelease_w0, meta_CheckRelease_vc0 _ _ _ _ _ _, toNat_nat]
    rw [drop_step (by omega) (Ty.dflt Ty.target)] at hK
    obtain ⟨x, hx⟩ : ∃ x, nth ts k (Ty.dflt Ty.target) = x := ⟨_, rfl⟩
    rw [hx] at hK ⊢
    have three : okTarget (k : Int) x = false → K (.one (.dat .int 3)) [] := fun h => by rw [show okTargets (k : Int) (x :: ts.drop (k + 1)) = false from by simp [okTargets, h]] at hK; exact hK
    have hot : okTarget (k : Int) x = true ↔ (x.unit = k ∧ 1 ≤ x.image ∧ x.image ≤ 60 ∧ 1 ≤ x.long ∧ x.long ≤ 40) := by
      simp only [okTarget, Bool.and_eq_true, decide_eq_true_eq]; omega
    have bad : ¬ (x.unit = k ∧ 1 ≤ x.image ∧ x.image ≤ 60 ∧ 1 ≤ x.long ∧ x.long ≤ 40) → K (.one (.dat .int 3)) [] := fun h => three (by
      cases hc : okTarget (k : Int) x
      · rfl
      · exact absurd (hot.1 hc) h)
    refine lt_t (by simp only [len]; omega) ⟨⟨by omega, by simp only [len]; omega⟩, ?_⟩
    rw [meta_CheckRelease_w1, meta_CheckRelease_vc1_0 _ _ _ _ _ _ _ _ _ _ _ _ _ _ _ _ _ _ _ _ _ _ _ _ _ _ _ _ _ _ _ _ _ _ _ _ _ _ _ _]
    refine ⟨by omega, by omega, by omega, lt_s (fun h => bad (by omega)) (fun h => ⟨by omega, by omega, lt_s (fun h2 => bad (by omega)) (fun h2 => ?_)⟩)⟩
    rw [show w64 ((0 : Int) + 1) = 1 from w64_id (by omega) (by omega), meta_CheckRelease_w1, meta_CheckRelease_vc1_1 _ _ _ _ _ _ _ _ _ _ _ _ _ _ _ _ _ _ _ _ _ _ _ _ _ _ _ _ _ _ _ _ _ _ _ _ _ _ _ _]
    refine ⟨by omega, by omega, by omega, lt_s (fun h3 => bad (by omega)) (fun h3 => ⟨by omega, by omega, lt_s (fun h4 => bad (by omega)) (fun h4 => ?_)⟩)⟩
    rw [show w64 ((1 : Int) + 1) = 2 from w64_id (by omega) (by omega), meta_CheckRelease_w1, meta_CheckRelease_vc1_2 _ _ _ _ _ _ _ _ _ _ _ _ _ _ _ _ _ _ _ _ _ _ _ _ _ _ _ _ _ _ _ _ _ _ _ _ _ _ _ _]
    refine ⟨by omega, by omega, by omega, lt_s (fun h5 => bad (by omega)) (fun h5 => ⟨by omega, by omega, lt_s (fun h6 => bad (by omega)) (fun h6 => ?_)⟩)⟩
    rw [show w64 ((2 : Int) + 1) = 3 from w64_id (by omega) (by omega), meta_CheckRelease_w1, meta_CheckRelease_vc1_3 _ _ _ _ _ _ _ _ _ _ _ _ _ _ _ _ _ _ _ _ _ _ _ _ _ _ _ _ _ _ _ _ _ _ _ _ _ _ _ _, w64_succ (by omega)]
    rw [show okTargets (k : Int) (x :: ts.drop (k + 1)) = okTargets ((k : Int) + 1) (ts.drop (k + 1)) from by simp only [okTargets, hot.2 (show _ by omega), Bool.true_and]] at hK
    exact loop_meta_CheckRelease ts hl K d (k + 1) (by omega) (by rw [show ((k + 1 : Nat) : Int) = (k : Int) + 1 by omega]; exact hK)
set_option maxHeartbeats 4000000 in
theorem run_meta_CheckRelease (v u : Int) (ts : List Vm.Target) (K : V → List Blk → Prop) (hK : K (.one (.dat .int (checkRelease v u ts))) []) : ∃ m, goD Γ_meta_CheckRelease tab fn_meta_CheckRelease 0 K m [.code (bodyOf fn_meta_CheckRelease)] (initSt [.agg [.dat .int v, .dat .int u, .dat (.list .target) ts]] []) := by
  refine ⟨5 * ts.length + 1 + 1, ?_⟩
  rw [meta_CheckRelease_w, meta_CheckRelease_vc _ _ _ _ _]
  unfold checkRelease at hK
  refine lt_s (fun h => ?_) (fun h => lt_s (fun h2 => ?_) (fun h2 => lt_s (fun h3 => ?_) (fun h3 => lt_s (fun h4 => ?_) (fun h4 => eq_s (fun h5 => ?_) (fun h5 => lt_s (fun h6 => ?_) (fun h6 => ?_))))))
  · rw [if_pos (by omega)] at hK; exact hK
  · rw [if_pos (by omega)] at hK; exact hK
  · rw [if_pos (by omega)] at hK; exact hK
  · rw [if_pos (by omega)] at hK; exact hK
  · rw [if_neg (by omega), if_pos (by simp only [len] at h5; omega)] at hK; exact hK
  · rw [if_neg (by omega), if_pos (by simp only [len] at h6; omega)] at hK; exact hK
  · rw [if_neg (by omega), if_neg (by simp only [len] at h5 h6; omega)] at hK
    exact loop_meta_CheckRelease ts (by simp only [len] at h6; omega) K ts.length 0 (by omega) hK
theorem sound_meta_CheckRelease : SoundC Tryd.prog tab n_meta_CheckRelease c_meta_CheckRelease := soundC_of ok_meta_CheckRelease hf_meta_CheckRelease hB_meta_CheckRelease (by
  intro vs bs p v bs' h hp
  unfold c_meta_CheckRelease at h
  split at h
  · cases h
    exact ⟨by kernel_rfl, rfl, .inl (run_meta_CheckRelease _ _ _ _ ⟨rfl, rfl⟩)⟩
  · cases h)

def c_meta_ReleaseText : Contract := fun vs bs => match vs, bs with
  | [.agg [.dat .int v, .dat .int u, .dat (.list .target) ts]], [] => some (none, .tup [.one (.dat .str (releaseTextE v u ts).1), .one (.dat .int (releaseTextE v u ts).2)], [])
  | _, _ => none
def Γ_meta_ReleaseText : Ctx := [(n_meta_CheckRelease, c_meta_CheckRelease), (n_strconv_Itoa, c_strconv_Itoa), (n_meta_list, c_meta_list)]
theorem ok_meta_ReleaseText : Ok Tryd.prog tab Γ_meta_ReleaseText := (((ok_nil.consC hf_meta_list hB_meta_list sound_meta_list).consC hf_strconv_Itoa hB_strconv_Itoa sound_strconv_Itoa).consC hf_meta_CheckRelease hB_meta_CheckRelease sound_meta_CheckRelease)
noncomputable def meta_ReleaseText_L0 : List It := [.inLoop [25, 24, 23, 5, 3, 2] (Code.sub (bodyOf fn_meta_ReleaseText) [1, 1, 1, 0, 1, 0, 0]), .inBlock 0, .code (Code.sub (bodyOf fn_meta_ReleaseText) [1, 1, 1, 1])]
def meta_ReleaseText_S0 (x0 : Int) (x1 : Int) (x2 : (List Vm.Target)) (x3 : (List UInt8)) (x4 : Int) (x5 : (List UInt8)) : St := ⟨[(25, .one (.dat Ty.int x0)), (24, .one (.dat Ty.int x1)), (23, .one (.dat (Ty.list Ty.target) x2)), (5, .one (.dat Ty.str x3)), (3, .one (.dat Ty.int x4)), (2, .one (.dat Ty.str x5))], [], 0⟩
theorem meta_ReleaseText_vc (v : Int) (u : Int) (ts : List Vm.Target) (rec : List It → St → Prop) (K : V → List Blk → Prop) v0 (hv0 : v0 = (checkRelease v u ts)) v1 (hv1 : v1 = (numT v)) v2 (hv2 : v2 = (numT u)) : segD Γ_meta_ReleaseText tab fn_meta_ReleaseText 0 K rec [.code (bodyOf fn_meta_ReleaseText)] (initSt [.agg [.dat Ty.int v, .dat Ty.int u, .dat (Ty.list Ty.target) ts]] []) = (
    br (!(eqi v0 (0 : Int)))
     (K (.tup [.one (.dat Ty.str []), .one (.dat Ty.int v0)]) [])
     ((((0 : Int) ≤ v) ∧ (v ≤ (9223372036854775807 : Int))) ∧
      ((((len ((114 : UInt8) :: ((101 : UInt8) :: ((108 : UInt8) :: ((101 : UInt8) :: ((97 : UInt8) :: ((115 : UInt8) :: ((101 : UInt8) :: ((32 : UInt8) :: []))))))))) + (len v1)) ≤ 140737488355328) ∧
      ((((len (cat ((114 : UInt8) :: ((101 : UInt8) :: ((108 : UInt8) :: ((101 : UInt8) :: ((97 : UInt8) :: ((115 : UInt8) :: ((101 : UInt8) :: ((32 : UInt8) :: [])))))))) v1)) + (len ((32 : UInt8) :: ((117 : UInt8) :: ((110 : UInt8) :: ((116 : UInt8) :: ((105 : UInt8) :: ((108 : UInt8) :: ((32 : UInt8) :: []))))))))) ≤ 140737488355328) ∧
      ((((0 : Int) ≤ u) ∧ (u ≤ (9223372036854775807 : Int))) ∧
      ((((len (cat (cat ((114 : UInt8) :: ((101 : UInt8) :: ((108 : UInt8) :: ((101 : UInt8) :: ((97 : UInt8) :: ((115 : UInt8) :: ((101 : UInt8) :: ((32 : UInt8) :: [])))))))) v1) ((32 : UInt8) :: ((117 : UInt8) :: ((110 : UInt8) :: ((116 : UInt8) :: ((105 : UInt8) :: ((108 : UInt8) :: ((32 : UInt8) :: []))))))))) + (len v2)) ≤ 140737488355328) ∧
      (rec meta_ReleaseText_L0 (meta_ReleaseText_S0 (0 : Int) (((len ts) : Nat) : Int) ts (cat (cat (cat ((114 : UInt8) :: ((101 : UInt8) :: ((108 : UInt8) :: ((101 : UInt8) :: ((97 : UInt8) :: ((115 : UInt8) :: ((101 : UInt8) :: ((32 : UInt8) :: [])))))))) v1) ((32 : UInt8) :: ((117 : UInt8) :: ((110 : UInt8) :: ((116 : UInt8) :: ((105 : UInt8) :: ((108 : UInt8) :: ((32 : UInt8) :: [])))))))) v2) (0 : Int) [])))))))) := by subst hv2; subst hv1; subst hv0; kernel_rfl
theorem meta_ReleaseText_w (v : Int) (u : Int) (ts : List Vm.Target) (m : Nat) (K : V → List Blk → Prop) : goD Γ_meta_ReleaseText tab fn_meta_ReleaseText 0 K (m + 1) [.code (bodyOf fn_meta_ReleaseText)] (initSt [.agg [.dat Ty.int v, .dat Ty.int u, .dat (Ty.list Ty.target) ts]] []) = segD Γ_meta_ReleaseText tab fn_meta_ReleaseText 0 K (goD Γ_meta_ReleaseText tab fn_meta_ReleaseText 0 K m) [.code (bodyOf fn_meta_ReleaseText)] (initSt [.agg [.dat Ty.int v, .dat Ty.int u, .dat (Ty.list Ty.target) ts]] []) := rfl
theorem meta_ReleaseText_vc0 (x0 : Int) (x1 : Int) (x2 : (List Vm.Target)) (x3 : (List UInt8)) (x4 : Int) (x5 : (List UInt8)) (rec : List It → St → Prop) (K : V → List Blk → Prop) v0 (hv0 : v0 = (nums (((nth x2 (Int.toNat x0) (Ty.dflt Ty.target))).unit :: (((nth x2 (Int.toNat x0) (Ty.dflt Ty.target))).image :: (((nth x2 (Int.toNat x0) (Ty.dflt Ty.target))).long :: []))))) v1 (hv1 : v1 = (listT (((nth x2 (Int.toNat x0) (Ty.dflt Ty.target))).unit :: (((nth x2 (Int.toNat x0) (Ty.dflt Ty.target))).image :: (((nth x2 (Int.toNat x0) (Ty.dflt Ty.target))).long :: []))))) : segD Γ_meta_ReleaseText tab fn_meta_ReleaseText 0 K rec (.code (Code.sub (bodyOf fn_meta_ReleaseText) [1, 1, 1, 0, 1, 0, 0]) :: meta_ReleaseText_L0) (meta_ReleaseText_S0 x0 x1 x2 x3 x4 x5) = (
    br (lti x0 x1)
     ((((0 : Int) ≤ x0) ∧ (x0 < (((len x2) : Nat) : Int))) ∧
      ((((len (((nth x2 (Int.toNat x0) (Ty.dflt Ty.target))).unit :: (((nth x2 (Int.toNat x0) (Ty.dflt Ty.target))).image :: (((nth x2 (Int.toNat x0) (Ty.dflt Ty.target))).long :: [])))) ≤ 1000) ∧ (v0 = true)) ∧
      ((((len ((59 : UInt8) :: ((32 : UInt8) :: []))) + (len v1)) ≤ 140737488355328) ∧
      ((((len x3) + (len (cat ((59 : UInt8) :: ((32 : UInt8) :: [])) v1))) ≤ 140737488355328) ∧
      (rec meta_ReleaseText_L0 (meta_ReleaseText_S0 (w64 (x0 + (1 : Int))) x1 x2 (cat x3 (cat ((59 : UInt8) :: ((32 : UInt8) :: [])) v1)) x4 x5))))))
     (K (.tup [.one (.dat Ty.str x3), .one (.dat Ty.int (0 : Int))]) [])) := by subst hv1; subst hv0; kernel_rfl
theorem meta_ReleaseText_w0 (x0 : Int) (x1 : Int) (x2 : (List Vm.Target)) (x3 : (List UInt8)) (x4 : Int) (x5 : (List UInt8)) (m : Nat) (K : V → List Blk → Prop) : goD Γ_meta_ReleaseText tab fn_meta_ReleaseText 0 K (m + 1) meta_ReleaseText_L0 (meta_ReleaseText_S0 x0 x1 x2 x3 x4 x5) = segD Γ_meta_ReleaseText tab fn_meta_ReleaseText 0 K (goD Γ_meta_ReleaseText tab fn_meta_ReleaseText 0 K m) (.code (Code.sub (bodyOf fn_meta_ReleaseText) [1, 1, 1, 0, 1, 0, 0]) :: meta_ReleaseText_L0) (meta_ReleaseText_S0 x0 x1 x2 x3 x4 x5) := rfl

theorem loop_meta_ReleaseText (ts : List Vm.Target) (hl : ts.length ≤ 4) (hn : ∀ t ∈ ts, 0 ≤ t.unit ∧ t.unit ≤ 1000 ∧ 0 ≤ t.image ∧ t.image ≤ 1000 ∧ 0 ≤ t.long ∧ t.long ≤ 1000) (K : V → List Blk → Prop) (pre : List UInt8) (hp : pre.length ≤ 1000) (x4 : Int) (x5 : List UInt8) (hK : K (.tup [.one (.dat .str (pre ++ targetsT ts)), .one (.dat .int 0)]) []) : ∀ (d k : Nat), k + d = ts.length → (targetsT (ts.take k)).length ≤ 65 * k →
    goD Γ_meta_ReleaseText tab fn_meta_ReleaseText 0 K (d + 1) meta_ReleaseText_L0 (meta_ReleaseText_S0 (k : Int) (((len ts) : Nat) : Int) ts (pre ++ targetsT (ts.take k)) x4 x5)
  | 0, k, hk, hq => by
    rw [meta_ReleaseText_w0, meta_ReleaseText_vc0 _ _ _ _ _ _ _ _ _ rfl _ rfl, List.take_of_length_le (by omega)]
    exact lt_f (by simp only [len]; omega) hK
  | d + 1, k, hk, hq => by
    have ht := take_step (l := ts) (k := k) (by omega) (Ty.dflt Ty.target)
    have hm : nth ts k (Ty.dflt Ty.target) ∈ ts := by
      have : k < ts.length := by omega
      simp [nth, List.getD_eq_getElem?_getD, this]
    have hx := hn _ hm
    have step : targetsT (ts.take (k + 1)) = targetsT (ts.take k) ++ targetT (nth ts k (Ty.dflt Ty.target)) := by rw [ht]; simp [targetsT]
    rw [meta_ReleaseText_w0, meta_ReleaseText_vc0 _ _ _ _ _ _ _ _ _ rfl _ rfl, toNat_nat]
    obtain ⟨x, hxe⟩ : ∃ x, nth ts k (Ty.dflt Ty.target) = x := ⟨_, rfl⟩
    rw [hxe] at hx step ⊢
    have l1 := listT_len [x.unit, x.image, x.long]
    simp only [List.length_cons, List.length_nil] at l1
    have el : (targetT x).length = 2 + (listT [x.unit, x.image, x.long]).length := by simp [targetT]; omega
    have ek : w64 ((k : Int) + 1) = ((k + 1 : Nat) : Int) := w64_succ (by omega)
    rw [ek]
    refine lt_t (by simp only [len]; omega) ⟨⟨by omega, by simp only [len]; omega⟩, ⟨by simp [len], ?_⟩, by simp only [len, List.length_cons, List.length_nil]; omega, by simp only [len, cat, List.length_append, List.length_cons, List.length_nil]; omega, ?_⟩
    · simp only [nums, List.all_cons, List.all_nil, Bool.and_true, Bool.and_eq_true, decide_eq_true_eq]; omega
    · have := loop_meta_ReleaseText ts hl hn K pre hp x4 x5 hK d (k + 1) (by omega) (by rw [step, List.length_append, el]; omega)
      rw [step] at this
      have e : cat (pre ++ targetsT (ts.take k)) (cat [59, 32] (listT [x.unit, x.image, x.long])) = pre ++ (targetsT (ts.take k) ++ targetT x) := by simp [cat, targetT]
      rw [← e] at this
      exact this
set_option maxHeartbeats 4000000 in
theorem run_meta_ReleaseText (v u : Int) (ts : List Vm.Target) (K : V → List Blk → Prop) (hK : K (.tup [.one (.dat .str (releaseTextE v u ts).1), .one (.dat .int (releaseTextE v u ts).2)]) []) : ∃ m, goD Γ_meta_ReleaseText tab fn_meta_ReleaseText 0 K m [.code (bodyOf fn_meta_ReleaseText)] (initSt [.agg [.dat .int v, .dat .int u, .dat (.list .target) ts]] []) := by
  refine ⟨ts.length + 2, ?_⟩
  rw [meta_ReleaseText_w, meta_ReleaseText_vc _ _ _ _ _ _ rfl _ rfl _ rfl]
  unfold releaseTextE at hK
  refine ne_s (fun h => ?_) (fun h => ?_)
  · rw [if_neg h] at hK; exact hK
  rw [if_pos h] at hK
  obtain ⟨h1, h2, h3, h4, h5, h6, h7⟩ := checkRelease_ok h
  have n1 := numT_len v
  have n2 := numT_len u
  refine ⟨by omega, by simp only [len, List.length_cons, List.length_nil]; omega, by simp only [len, cat, List.length_append, List.length_cons, List.length_nil]; omega, by omega, by simp only [len, cat, List.length_append, List.length_cons, List.length_nil]; omega, ?_⟩
  have := loop_meta_ReleaseText ts h6 h7 K ([114, 101, 108, 101, 97, 115, 101, 32] ++ numT v ++ [32, 117, 110, 116, 105, 108, 32] ++ numT u) (by simp only [List.length_append, List.length_cons, List.length_nil]; omega) 0 [] hK ts.length 0 (by omega) (by simp [targetsT])
  rw [show targetsT (ts.take 0) = [] from by simp [targetsT], List.append_nil] at this
  exact this
theorem sound_meta_ReleaseText : SoundC Tryd.prog tab n_meta_ReleaseText c_meta_ReleaseText := soundC_of ok_meta_ReleaseText hf_meta_ReleaseText hB_meta_ReleaseText (by
  intro vs bs p v bs' h hp
  unfold c_meta_ReleaseText at h
  split at h
  · cases h
    exact ⟨by kernel_rfl, rfl, .inl (run_meta_ReleaseText _ _ _ _ ⟨rfl, rfl⟩)⟩
  · cases h)

def c_meta_CheckImage : Contract := fun vs bs => match vs, bs with
  | [.one (.dat (.list .int) l)], [] => some (none, .one (.dat .int (checkImage l)), [])
  | _, _ => none
def Γ_meta_CheckImage : Ctx := []
theorem ok_meta_CheckImage : Ok Tryd.prog tab Γ_meta_CheckImage := ok_nil
noncomputable def meta_CheckImage_L0 : List It := [.inLoop [15, 14, 13, 2] (Code.sub (bodyOf fn_meta_CheckImage) [1, 1, 0, 1, 0, 0]), .inBlock 0, .code (Code.sub (bodyOf fn_meta_CheckImage) [1, 1, 1])]
def meta_CheckImage_S0 (x0 : Int) (x1 : Int) (x2 : (List Int)) (x3 : Int) : St := ⟨[(15, .one (.dat Ty.int x0)), (14, .one (.dat Ty.int x1)), (13, .one (.dat (Ty.list Ty.int) x2)), (2, .one (.dat Ty.int x3))], [], 0⟩
theorem meta_CheckImage_vc (l : List Int) (rec : List It → St → Prop) (K : V → List Blk → Prop) : segD Γ_meta_CheckImage tab fn_meta_CheckImage 0 K rec [.code (bodyOf fn_meta_CheckImage)] (initSt [.one (.dat (Ty.list Ty.int) l)] []) = (
    br (eqi (((len l) : Nat) : Int) (0 : Int))
     (K (.one (.dat Ty.int (2 : Int))) [])
     (br (lti (40 : Int) (((len l) : Nat) : Int))
       (K (.one (.dat Ty.int (2 : Int))) [])
       (rec meta_CheckImage_L0 (meta_CheckImage_S0 (0 : Int) (((len l) : Nat) : Int) l (0 : Int))))) := by kernel_rfl
theorem meta_CheckImage_w (l : List Int) (m : Nat) (K : V → List Blk → Prop) : goD Γ_meta_CheckImage tab fn_meta_CheckImage 0 K (m + 1) [.code (bodyOf fn_meta_CheckImage)] (initSt [.one (.dat (Ty.list Ty.int) l)] []) = segD Γ_meta_CheckImage tab fn_meta_CheckImage 0 K (goD Γ_meta_CheckImage tab fn_meta_CheckImage 0 K m) [.code (bodyOf fn_meta_CheckImage)] (initSt [.one (.dat (Ty.list Ty.int) l)] []) := rfl
theorem meta_CheckImage_vc0 (x0 : Int) (x1 : Int) (x2 : (List Int)) (x3 : Int) (rec : List It → St → Prop) (K : V → List Blk → Prop) : segD Γ_meta_CheckImage tab fn_meta_CheckImage 0 K rec (.code (Code.sub (bodyOf fn_meta_CheckImage) [1, 1, 0, 1, 0, 0]) :: meta_CheckImage_L0) (meta_CheckImage_S0 x0 x1 x2 x3) = (
    br (lti x0 x1)
     ((((0 : Int) ≤ x0) ∧ (x0 < (((len x2) : Nat) : Int))) ∧
      (br (lti (nth x2 (Int.toNat x0) (Ty.dflt Ty.int)) (0 : Int))
       (K (.one (.dat Ty.int (3 : Int))) [])
       (br (lti (65535 : Int) (nth x2 (Int.toNat x0) (Ty.dflt Ty.int)))
         (K (.one (.dat Ty.int (3 : Int))) [])
         (rec meta_CheckImage_L0 (meta_CheckImage_S0 (w64 (x0 + (1 : Int))) x1 x2 x3)))))
     (K (.one (.dat Ty.int (0 : Int))) [])) := by kernel_rfl
theorem meta_CheckImage_w0 (x0 : Int) (x1 : Int) (x2 : (List Int)) (x3 : Int) (m : Nat) (K : V → List Blk → Prop) : goD Γ_meta_CheckImage tab fn_meta_CheckImage 0 K (m + 1) meta_CheckImage_L0 (meta_CheckImage_S0 x0 x1 x2 x3) = segD Γ_meta_CheckImage tab fn_meta_CheckImage 0 K (goD Γ_meta_CheckImage tab fn_meta_CheckImage 0 K m) (.code (Code.sub (bodyOf fn_meta_CheckImage) [1, 1, 0, 1, 0, 0]) :: meta_CheckImage_L0) (meta_CheckImage_S0 x0 x1 x2 x3) := rfl

theorem loop_meta_CheckImage (ws : List Int) (hl : ws.length ≤ 40) (K : V → List Blk → Prop) (hK : K (.one (.dat .int (if okWords ws then 0 else 3))) []) : ∀ (d k : Nat), k + d = ws.length → okWords (ws.take k) = true →
    goD Γ_meta_CheckImage tab fn_meta_CheckImage 0 K (d + 1) meta_CheckImage_L0 (meta_CheckImage_S0 (k : Int) (((len ws) : Nat) : Int) ws (0 : Int))
  | 0, k, hk, he => by
    rw [meta_CheckImage_w0, meta_CheckImage_vc0 _ _ _ _ _ _]
    refine lt_f (by simp only [len]; omega) ?_
    rw [List.take_of_length_le (by omega)] at he
    rw [if_pos he] at hK
    exact hK
  | d + 1, k, hk, he => by
    rw [meta_CheckImage_w0, meta_CheckImage_vc0 _ _ _ _ _ _]
    have bad : okWord (nth ws k (Ty.dflt Ty.int)) = false → K (.one (.dat .int 3)) [] := fun h => by
      rw [show okWords ws = false from all_false (k := k) (by omega) _ h] at hK; exact hK
    refine lt_t (by simp only [len]; omega) ⟨⟨by omega, by simp only [len]; omega⟩, lt_s (fun h => ?_) (fun h => lt_s (fun h2 => ?_) (fun h2 => ?_))⟩
    · rw [toNat_nat] at h
      exact bad (by simp only [okWord, Bool.and_eq_false_iff, decide_eq_false_iff_not]; exact .inl (by omega))
    · rw [toNat_nat] at h2
      exact bad (by simp only [okWord, Bool.and_eq_false_iff, decide_eq_false_iff_not]; exact .inr (by omega))
    · rw [w64_succ (by omega)]
      rw [toNat_nat] at h h2
      exact loop_meta_CheckImage ws hl K hK d (k + 1) (by omega) (all_take_step (by omega) (Ty.dflt Ty.int) he (by simp [okWord, h, h2]))
set_option maxHeartbeats 4000000 in
theorem run_meta_CheckImage (l : List Int) (K : V → List Blk → Prop) (hK : K (.one (.dat .int (checkImage l))) []) : ∃ m, goD Γ_meta_CheckImage tab fn_meta_CheckImage 0 K m [.code (bodyOf fn_meta_CheckImage)] (initSt [.one (.dat (.list .int) l)] []) := by
  refine ⟨l.length + 2, ?_⟩
  rw [meta_CheckImage_w, meta_CheckImage_vc _ _ _]
  unfold checkImage at hK
  refine eq_s (fun h => ?_) (fun h => lt_s (fun h2 => ?_) (fun h2 => ?_))
  · rw [if_pos (by simp only [len] at h; omega)] at hK; exact hK
  · rw [if_pos (by simp only [len] at h2; omega)] at hK; exact hK
  · rw [if_neg (by simp only [len] at h h2; omega)] at hK
    exact loop_meta_CheckImage l (by simp only [len] at h2; omega) K hK l.length 0 (by omega) rfl
theorem sound_meta_CheckImage : SoundC Tryd.prog tab n_meta_CheckImage c_meta_CheckImage := soundC_of ok_meta_CheckImage hf_meta_CheckImage hB_meta_CheckImage (by
  intro vs bs p v bs' h hp
  unfold c_meta_CheckImage at h
  split at h
  · cases h
    exact ⟨by kernel_rfl, rfl, .inl (run_meta_CheckImage _ _ ⟨rfl, rfl⟩)⟩
  · cases h)

def c_meta_ImageText : Contract := fun vs bs => match vs, bs with
  | [.one (.dat (.list .int) l)], [] => some (none, .tup [.one (.dat .str (imageTextE l).1), .one (.dat .int (imageTextE l).2)], [])
  | _, _ => none
def Γ_meta_ImageText : Ctx := [(n_meta_CheckImage, c_meta_CheckImage), (n_meta_list, c_meta_list)]
theorem ok_meta_ImageText : Ok Tryd.prog tab Γ_meta_ImageText := ((ok_nil.consC hf_meta_list hB_meta_list sound_meta_list).consC hf_meta_CheckImage hB_meta_CheckImage sound_meta_CheckImage)
theorem meta_ImageText_vc (l : List Int) (rec : List It → St → Prop) (K : V → List Blk → Prop) v0 (hv0 : v0 = (checkImage l)) v1 (hv1 : v1 = (nums l)) v2 (hv2 : v2 = (listT l)) : segD Γ_meta_ImageText tab fn_meta_ImageText 0 K rec [.code (bodyOf fn_meta_ImageText)] (initSt [.one (.dat (Ty.list Ty.int) l)] []) = (
    br (!(eqi v0 (0 : Int)))
     (K (.tup [.one (.dat Ty.str []), .one (.dat Ty.int v0)]) [])
     ((((len l) ≤ 1000) ∧ (v1 = true)) ∧
      ((((len ((105 : UInt8) :: ((109 : UInt8) :: ((97 : UInt8) :: ((103 : UInt8) :: ((101 : UInt8) :: ((32 : UInt8) :: []))))))) + (len v2)) ≤ 140737488355328) ∧
      (K (.tup [.one (.dat Ty.str (cat ((105 : UInt8) :: ((109 : UInt8) :: ((97 : UInt8) :: ((103 : UInt8) :: ((101 : UInt8) :: ((32 : UInt8) :: [])))))) v2)), .one (.dat Ty.int (0 : Int))]) [])))) := by subst hv2; subst hv1; subst hv0; kernel_rfl
theorem meta_ImageText_w (l : List Int) (m : Nat) (K : V → List Blk → Prop) : goD Γ_meta_ImageText tab fn_meta_ImageText 0 K (m + 1) [.code (bodyOf fn_meta_ImageText)] (initSt [.one (.dat (Ty.list Ty.int) l)] []) = segD Γ_meta_ImageText tab fn_meta_ImageText 0 K (goD Γ_meta_ImageText tab fn_meta_ImageText 0 K m) [.code (bodyOf fn_meta_ImageText)] (initSt [.one (.dat (Ty.list Ty.int) l)] []) := rfl

set_option maxHeartbeats 4000000 in
theorem run_meta_ImageText (l : List Int) (K : V → List Blk → Prop) (hK : K (.tup [.one (.dat .str (imageTextE l).1), .one (.dat .int (imageTextE l).2)]) []) : ∃ m, goD Γ_meta_ImageText tab fn_meta_ImageText 0 K m [.code (bodyOf fn_meta_ImageText)] (initSt [.one (.dat (.list .int) l)] []) := by
  refine ⟨1, ?_⟩
  rw [meta_ImageText_w, meta_ImageText_vc _ _ _ _ rfl _ rfl _ rfl]
  unfold imageTextE at hK
  refine ne_s (fun h => ?_) (fun h => ?_)
  · rw [if_neg h] at hK; exact hK
  rw [if_pos h] at hK
  obtain ⟨h1, h2, h3⟩ := checkImage_ok h
  have n3 := listT_len l
  exact ⟨⟨by simp only [len]; omega, nums_of_words h3⟩, by simp only [len, List.length_cons, List.length_nil]; omega, hK⟩
theorem sound_meta_ImageText : SoundC Tryd.prog tab n_meta_ImageText c_meta_ImageText := soundC_of ok_meta_ImageText hf_meta_ImageText hB_meta_ImageText (by
  intro vs bs p v bs' h hp
  unfold c_meta_ImageText at h
  split at h
  · cases h
    exact ⟨by kernel_rfl, rfl, .inl (run_meta_ImageText _ _ ⟨rfl, rfl⟩)⟩
  · cases h)

def c_meta_ImageName : Contract := fun vs bs => match vs, bs with
  | [.agg [.dat (.list .str) l], .one (.dat (.list .int) ws)], [] => some (some (l.length ≤ 140737488355328), .tup [.one (.dat .int (imageName l ws).1), .one (.dat .int (imageName l ws).2)], [])
  | _, _ => none
def Γ_meta_ImageName : Ctx := [(n_meta_ImageText, c_meta_ImageText), (n_meta_Name, c_meta_Name)]
theorem ok_meta_ImageName : Ok Tryd.prog tab Γ_meta_ImageName := ((ok_nil.consC hf_meta_Name hB_meta_Name sound_meta_Name).consC hf_meta_ImageText hB_meta_ImageText sound_meta_ImageText)
theorem meta_ImageName_vc (l : List (List UInt8)) (ws : List Int) (rec : List It → St → Prop) (K : V → List Blk → Prop) v0 (hv0 : v0 = (imageTextE ws)) v1 (hv1 : v1 = (nameB l (v0).fst)) : segD Γ_meta_ImageName tab fn_meta_ImageName 0 K rec [.code (bodyOf fn_meta_ImageName)] (initSt [.agg [.dat (Ty.list Ty.str) l], .one (.dat (Ty.list Ty.int) ws)] []) = (
    br (!(eqi (v0).snd (0 : Int)))
     (K (.tup [.one (.dat Ty.int (0 : Int)), .one (.dat Ty.int (v0).snd)]) [])
     (((List.length l) ≤ 140737488355328) ∧
      (K (.tup [.one (.dat Ty.int (v1).fst), .one (.dat Ty.int (v1).snd)]) []))) := by subst hv1; subst hv0; kernel_rfl
theorem meta_ImageName_w (l : List (List UInt8)) (ws : List Int) (m : Nat) (K : V → List Blk → Prop) : goD Γ_meta_ImageName tab fn_meta_ImageName 0 K (m + 1) [.code (bodyOf fn_meta_ImageName)] (initSt [.agg [.dat (Ty.list Ty.str) l], .one (.dat (Ty.list Ty.int) ws)] []) = segD Γ_meta_ImageName tab fn_meta_ImageName 0 K (goD Γ_meta_ImageName tab fn_meta_ImageName 0 K m) [.code (bodyOf fn_meta_ImageName)] (initSt [.agg [.dat (Ty.list Ty.str) l], .one (.dat (Ty.list Ty.int) ws)] []) := rfl

set_option maxHeartbeats 4000000 in
theorem run_meta_ImageName (l : List (List UInt8)) (ws : List Int) (hp : l.length ≤ 140737488355328) (K : V → List Blk → Prop) (hK : K (.tup [.one (.dat .int (imageName l ws).1), .one (.dat .int (imageName l ws).2)]) []) : ∃ m, goD Γ_meta_ImageName tab fn_meta_ImageName 0 K m [.code (bodyOf fn_meta_ImageName)] (initSt [.agg [.dat (.list .str) l], .one (.dat (.list .int) ws)] []) := by
  refine ⟨1, ?_⟩
  rw [meta_ImageName_w, meta_ImageName_vc _ _ _ _ _ rfl _ rfl]
  unfold imageName at hK
  by_cases h : checkImage ws = 0
  · rw [if_pos h] at hK
    rw [show imageTextE ws = (imageText ws, 0) from if_pos h]
    exact ne_f rfl ⟨hp, hK⟩
  · rw [if_neg h] at hK
    rw [show imageTextE ws = ([], checkImage ws) from if_neg h]
    exact ne_t h hK
theorem sound_meta_ImageName : SoundC Tryd.prog tab n_meta_ImageName c_meta_ImageName := soundC_of ok_meta_ImageName hf_meta_ImageName hB_meta_ImageName (by
  intro vs bs p v bs' h hp
  unfold c_meta_ImageName at h
  split at h
  · cases h
    exact ⟨by kernel_rfl, rfl, .inl (run_meta_ImageName _ _ hp.1 _ ⟨rfl, rfl⟩)⟩
  · cases h)

def c_trust_Take : Contract := fun vs bs => match vs, bs with
  | [.agg [.dat (.list .str) b], .one (.dat (.list .signed) l), .agg [.dat .int v, .dat (.list .int) ks, .dat .int t, .dat .int n], .agg [.dat (.list .root) rs, .dat (.list (.list .int)) rg, .dat .int ov, .dat .int ou, .dat (.list .target) ts, .dat (.list .int) sg, .dat (.list (.list .int)) im], .one (.dat .int now), .one (.dat .int units)], [] => some (some (b.length ≤ 140737488355328), .tup [.agg [.dat .int (takeT b l ⟨⟨v, ks, t⟩, n⟩ ⟨rs, rg, ⟨ov, ou, ts⟩, sg, im⟩ now units).1.r.version, .dat (.list .int) (takeT b l ⟨⟨v, ks, t⟩, n⟩ ⟨rs, rg, ⟨ov, ou, ts⟩, sg, im⟩ now units).1.r.keys, .dat .int (takeT b l ⟨⟨v, ks, t⟩, n⟩ ⟨rs, rg, ⟨ov, ou, ts⟩, sg, im⟩ now units).1.r.thr, .dat .int (takeT b l ⟨⟨v, ks, t⟩, n⟩ ⟨rs, rg, ⟨ov, ou, ts⟩, sg, im⟩ now units).1.version], .one (.dat .int (takeT b l ⟨⟨v, ks, t⟩, n⟩ ⟨rs, rg, ⟨ov, ou, ts⟩, sg, im⟩ now units).2)], [])
  | _, _ => none
def Γ_trust_Take : Ctx := [(n_trust_CheckTrust, c_trust_CheckTrust), (n_trust_Turn, c_trust_Turn), (n_trust_Take_1, c_trust_Take_1), (n_meta_ReleaseText, c_meta_ReleaseText), (n_meta_Name, c_meta_Name), (n_trust_Count, c_trust_Count), (n_meta_ImageName, c_meta_ImageName), (n_slices_Clone_Lint, c_slices_Clone_Lint)]
theorem ok_trust_Take : Ok Tryd.prog tab Γ_trust_Take := ((((((((ok_nil.consC hf_slices_Clone_Lint hB_slices_Clone_Lint sound_slices_Clone_Lint).consC hf_meta_ImageName hB_meta_ImageName sound_meta_ImageName).consC hf_trust_Count hB_trust_Count sound_trust_Count).consC hf_meta_Name hB_meta_Name sound_meta_Name).consC hf_meta_ReleaseText hB_meta_ReleaseText sound_meta_ReleaseText).consC hf_trust_Take_1 hB_trust_Take_1 sound_trust_Take_1).consC hf_trust_Turn hB_trust_Turn sound_trust_Turn).consC hf_trust_CheckTrust hB_trust_CheckTrust sound_trust_CheckTrust)
noncomputable def trust_Take_L0 : List It := [.inLoop [57, 56, 55, 14, 13, 12, 9, 8, 6, 1, 4, 5] (Code.sub (bodyOf fn_trust_Take) [1, 1, 1, 1, 0, 1, 0, 0]), .inBlock 0, .code (Code.sub (bodyOf fn_trust_Take) [1, 1, 1, 1, 1])]
def trust_Take_S0 (x0 : Int) (x1 : Int) (x2 : (List Vm.Root)) (x3 : Int) (x4 : (List Vm.Signed)) (x5 : Int) (x6 : Int) (x7 : Int) (x8 : Int) (x9 : Int) (x10 : (List Vm.Root)) (x11 : (List (List Int))) (x12 : Int) (x13 : Int) (x14 : (List Vm.Target)) (x15 : (List Int)) (x16 : (List (List Int))) (x17 : Int) (x18 : (List Int)) (x19 : Int) (x20 : Int) (x21 : (List (List UInt8))) (x22 : (List Int)) : St := ⟨[(57, .one (.dat Ty.int x0)), (56, .one (.dat Ty.int x1)), (55, .one (.dat (Ty.list Ty.root) x2)), (14, .one (.fn n_trust_Take_1 [])), (13, .one (.dat Ty.int x3)), (12, .one (.ptr 0 0)), (9, .one (.ptr 1 0)), (8, .one (.ptr 2 0)), (6, .one (.ptr 3 0)), (1, .one (.dat (Ty.list Ty.signed) x4)), (4, .one (.dat Ty.int x5)), (5, .one (.dat Ty.int x6))], [(0, .box [.dat Ty.int x7, .own 4, .dat Ty.int x8, .dat Ty.int x9]), (1, .box [.dat (Ty.list Ty.root) x10, .dat (Ty.list (Ty.list Ty.int)) x11, .dat Ty.int x12, .dat Ty.int x13, .dat (Ty.list Ty.target) x14, .dat (Ty.list Ty.int) x15, .dat (Ty.list (Ty.list Ty.int)) x16]), (2, .box [.dat Ty.int x17, .dat (Ty.list Ty.int) x18, .dat Ty.int x19, .dat Ty.int x20]), (3, .box [.dat (Ty.list Ty.str) x21]), (4, .arr Ty.int x22)], 5⟩
noncomputable def trust_Take_L1 : List It := [.inLoop [181, 180, 179, 14, 13, 12, 9, 8, 6] (Code.sub (bodyOf fn_trust_Take) [1, 1, 1, 1, 1, 1, 1, 1, 1, 1, 1, 0, 1, 0, 0]), .inBlock 3, .code (Code.sub (bodyOf fn_trust_Take) [1, 1, 1, 1, 1, 1, 1, 1, 1, 1, 1, 1])]
def trust_Take_S1 (x0 : Int) (x1 : Int) (x2 : (List Vm.Target)) (x3 : Int) (x4 : Int) (x5 : Int) (x6 : Int) (x7 : (List Vm.Root)) (x8 : (List (List Int))) (x9 : Int) (x10 : Int) (x11 : (List Vm.Target)) (x12 : (List Int)) (x13 : (List (List Int))) (x14 : Int) (x15 : (List Int)) (x16 : Int) (x17 : Int) (x18 : (List (List UInt8))) (x19 : (List Int)) : St := ⟨[(181, .one (.dat Ty.int x0)), (180, .one (.dat Ty.int x1)), (179, .one (.dat (Ty.list Ty.target) x2)), (14, .one (.fn n_trust_Take_1 [])), (13, .one (.dat Ty.int x3)), (12, .one (.ptr 0 0)), (9, .one (.ptr 1 0)), (8, .one (.ptr 2 0)), (6, .one (.ptr 3 0))], [(0, .box [.dat Ty.int x4, .own 4, .dat Ty.int x5, .dat Ty.int x6]), (1, .box [.dat (Ty.list Ty.root) x7, .dat (Ty.list (Ty.list Ty.int)) x8, .dat Ty.int x9, .dat Ty.int x10, .dat (Ty.list Ty.target) x11, .dat (Ty.list Ty.int) x12, .dat (Ty.list (Ty.list Ty.int)) x13]), (2, .box [.dat Ty.int x14, .dat (Ty.list Ty.int) x15, .dat Ty.int x16, .dat Ty.int x17]), (3, .box [.dat (Ty.list Ty.str) x18]), (4, .arr Ty.int x19)], 5⟩
theorem trust_Take_vc (b : List (List UInt8)) (l : List Signed) (v : Int) (ks : List Int) (t : Int) (n : Int) (rs : List Root) (rg : List (List Int)) (ov : Int) (ou : Int) (ts : List Vm.Target) (sg : List Int) (im : List (List Int)) (now : Int) (units : Int) (rec : List It → St → Prop) (K : V → List Blk → Prop) v0 (hv0 : v0 = (checkTrust (⟨(⟨v, ks, t⟩ : Vm.Root), n⟩ : Vm.Trust))) : segD Γ_trust_Take tab fn_trust_Take 0 K rec [.code (bodyOf fn_trust_Take)] (initSt [.agg [.dat (Ty.list Ty.str) b], .one (.dat (Ty.list Ty.signed) l), .agg [.dat Ty.int v, .dat (Ty.list Ty.int) ks, .dat Ty.int t, .dat Ty.int n], .agg [.dat (Ty.list Ty.root) rs, .dat (Ty.list (Ty.list Ty.int)) rg, .dat Ty.int ov, .dat Ty.int ou, .dat (Ty.list Ty.target) ts, .dat (Ty.list Ty.int) sg, .dat (Ty.list (Ty.list Ty.int)) im], .one (.dat Ty.int now), .one (.dat Ty.int units)] []) = (
    br (!(eqi v0 (0 : Int)))
     (K (.tup [.agg [.dat Ty.int (0 : Int), .dat (Ty.list Ty.int) [], .dat Ty.int (0 : Int), .dat Ty.int (0 : Int)], .one (.dat Ty.int v0)]) [])
     (br (lti (6 : Int) (((len rs) : Nat) : Int))
       (K (.tup [.agg [.dat Ty.int (0 : Int), .dat (Ty.list Ty.int) [], .dat Ty.int (0 : Int), .dat Ty.int (0 : Int)], .one (.dat Ty.int (2 : Int))]) [])
       (br (!(eqi (((len rg) : Nat) : Int) (((len rs) : Nat) : Int)))
         (K (.tup [.agg [.dat Ty.int (0 : Int), .dat (Ty.list Ty.int) [], .dat Ty.int (0 : Int), .dat Ty.int (0 : Int)], .one (.dat Ty.int (2 : Int))]) [])
         (rec trust_Take_L0 (trust_Take_S0 (0 : Int) (((len rs) : Nat) : Int) rs (0 : Int) l now units (0 : Int) (0 : Int) (0 : Int) rs rg ov ou ts sg im v ks t n b []))))) := by subst hv0; kernel_rfl
theorem trust_Take_w (b : List (List UInt8)) (l : List Signed) (v : Int) (ks : List Int) (t : Int) (n : Int) (rs : List Root) (rg : List (List Int)) (ov : Int) (ou : Int) (ts : List Vm.Target) (sg : List Int) (im : List (List Int)) (now : Int) (units : Int) (m : Nat) (K : V → List Blk → Prop) : goD Γ_trust_Take tab fn_trust_Take 0 K (m + 1) [.code (bodyOf fn_trust_Take)] (initSt [.agg [.dat (Ty.list Ty.str) b], .one (.dat (Ty.list Ty.signed) l), .agg [.dat Ty.int v, .dat (Ty.list Ty.int) ks, .dat Ty.int t, .dat Ty.int n], .agg [.dat (Ty.list Ty.root) rs, .dat (Ty.list (Ty.list Ty.int)) rg, .dat Ty.int ov, .dat Ty.int ou, .dat (Ty.list Ty.target) ts, .dat (Ty.list Ty.int) sg, .dat (Ty.list (Ty.list Ty.int)) im], .one (.dat Ty.int now), .one (.dat Ty.int units)] []) = segD Γ_trust_Take tab fn_trust_Take 0 K (goD Γ_trust_Take tab fn_trust_Take 0 K m) [.code (bodyOf fn_trust_Take)] (initSt [.agg [.dat (Ty.list Ty.str) b], .one (.dat (Ty.list Ty.signed) l), .agg [.dat Ty.int v, .dat (Ty.list Ty.int) ks, .dat Ty.int t, .dat Ty.int n], .agg [.dat (Ty.list Ty.root) rs, .dat (Ty.list (Ty.list Ty.int)) rg, .dat Ty.int ov, .dat Ty.int ou, .dat (Ty.list Ty.target) ts, .dat (Ty.list Ty.int) sg, .dat (Ty.list (Ty.list Ty.int)) im], .one (.dat Ty.int now), .one (.dat Ty.int units)] []) := rfl
theorem trust_Take_vc0 (x0 : Int) (x1 : Int) (x2 : (List Vm.Root)) (x3 : Int) (x4 : (List Vm.Signed)) (x5 : Int) (x6 : Int) (x7 : Int) (x8 : Int) (x9 : Int) (x10 : (List Vm.Root)) (x11 : (List (List Int))) (x12 : Int) (x13 : Int) (x14 : (List Vm.Target)) (x15 : (List Int)) (x16 : (List (List Int))) (x17 : Int) (x18 : (List Int)) (x19 : Int) (x20 : Int) (x21 : (List (List UInt8))) (x22 : (List Int)) (rec : List It → St → Prop) (K : V → List Blk → Prop) v0 (hv0 : v0 = (turnT x21 x4 (⟨(⟨x17, x18, x19⟩ : Vm.Root), x20⟩ : Vm.Trust) (⟨((nth x2 (Int.toNat x0) (Ty.dflt Ty.root))).version, ((nth x2 (Int.toNat x0) (Ty.dflt Ty.root))).keys, ((nth x2 (Int.toNat x0) (Ty.dflt Ty.root))).thr⟩ : Vm.Root) (nth x11 (Int.toNat x0) (Ty.dflt (Ty.list Ty.int))))) v1 (hv1 : v1 = (releaseTextE x12 x13 x14)) v2 (hv2 : v2 = (nameB x21 (v1).fst)) v3 (hv3 : v3 = (countT x4 (⟨x17, x18, x19⟩ : Vm.Root) x15 (v2).fst)) : segD Γ_trust_Take tab fn_trust_Take 0 K rec (.code (Code.sub (bodyOf fn_trust_Take) [1, 1, 1, 1, 0, 1, 0, 0]) :: trust_Take_L0) (trust_Take_S0 x0 x1 x2 x3 x4 x5 x6 x7 x8 x9 x10 x11 x12 x13 x14 x15 x16 x17 x18 x19 x20 x21 x22) = (
    br (lti x0 x1)
     ((((0 : Int) ≤ x0) ∧ (x0 < (((len x2) : Nat) : Int))) ∧
      ((((0 : Int) ≤ x0) ∧ (x0 < (((len x11) : Nat) : Int))) ∧
      (((List.length x21) ≤ 140737488355328) ∧
      (br (!(eqi (v0).snd (0 : Int)))
       (K (.tup [.agg [.dat Ty.int (0 : Int), .dat (Ty.list Ty.int) [], .dat Ty.int (0 : Int), .dat Ty.int (0 : Int)], .one (.dat Ty.int (v0).snd)]) [])
       (rec trust_Take_L0 (trust_Take_S0 (w64 (x0 + (1 : Int))) x1 x2 x3 x4 x5 x6 x7 x8 x9 x10 x11 x12 x13 x14 x15 x16 (((v0).fst).r).version (((v0).fst).r).keys (((v0).fst).r).thr ((v0).fst).version x21 x22))))))
     (br (!(eqi (v1).snd (0 : Int)))
       (K (.tup [.agg [.dat Ty.int (0 : Int), .dat (Ty.list Ty.int) [], .dat Ty.int (0 : Int), .dat Ty.int (0 : Int)], .one (.dat Ty.int (v1).snd)]) [])
       (((List.length x21) ≤ 140737488355328) ∧
        (br (!(eqi (v2).snd (0 : Int)))
         (K (.tup [.agg [.dat Ty.int (0 : Int), .dat (Ty.list Ty.int) [], .dat Ty.int (0 : Int), .dat Ty.int (0 : Int)], .one (.dat Ty.int (v2).snd)]) [])
         (br (!(eqi (v3).snd (0 : Int)))
           (K (.tup [.agg [.dat Ty.int (0 : Int), .dat (Ty.list Ty.int) [], .dat Ty.int (0 : Int), .dat Ty.int (0 : Int)], .one (.dat Ty.int (v3).snd)]) [])
           (br (lti (v3).fst x19)
             (K (.tup [.agg [.dat Ty.int (0 : Int), .dat (Ty.list Ty.int) [], .dat Ty.int (0 : Int), .dat Ty.int (0 : Int)], .one (.dat Ty.int (9 : Int))]) [])
             (br (lei x12 x20)
               (K (.tup [.agg [.dat Ty.int (0 : Int), .dat (Ty.list Ty.int) [], .dat Ty.int (0 : Int), .dat Ty.int (0 : Int)], .one (.dat Ty.int (10 : Int))]) [])
               (br (lti x13 x5)
                 (K (.tup [.agg [.dat Ty.int (0 : Int), .dat (Ty.list Ty.int) [], .dat Ty.int (0 : Int), .dat Ty.int (0 : Int)], .one (.dat Ty.int (11 : Int))]) [])
                 (br (!(eqi (((len x14) : Nat) : Int) x6))
                   (K (.tup [.agg [.dat Ty.int (0 : Int), .dat (Ty.list Ty.int) [], .dat Ty.int (0 : Int), .dat Ty.int (0 : Int)], .one (.dat Ty.int (4 : Int))]) [])
                   (br (!(eqi (((len x16) : Nat) : Int) x6))
                     (K (.tup [.agg [.dat Ty.int (0 : Int), .dat (Ty.list Ty.int) [], .dat Ty.int (0 : Int), .dat Ty.int (0 : Int)], .one (.dat Ty.int (4 : Int))]) [])
                     (rec trust_Take_L1 (trust_Take_S1 (0 : Int) (((len x14) : Nat) : Int) x14 x3 x7 x8 x9 x10 x11 x12 x13 x14 x15 x16 x17 x18 x19 x20 x21 x22)))))))))))) := by subst hv3; subst hv2; subst hv1; subst hv0; kernel_rfl
theorem trust_Take_w0 (x0 : Int) (x1 : Int) (x2 : (List Vm.Root)) (x3 : Int) (x4 : (List Vm.Signed)) (x5 : Int) (x6 : Int) (x7 : Int) (x8 : Int) (x9 : Int) (x10 : (List Vm.Root)) (x11 : (List (List Int))) (x12 : Int) (x13 : Int) (x14 : (List Vm.Target)) (x15 : (List Int)) (x16 : (List (List Int))) (x17 : Int) (x18 : (List Int)) (x19 : Int) (x20 : Int) (x21 : (List (List UInt8))) (x22 : (List Int)) (m : Nat) (K : V → List Blk → Prop) : goD Γ_trust_Take tab fn_trust_Take 0 K (m + 1) trust_Take_L0 (trust_Take_S0 x0 x1 x2 x3 x4 x5 x6 x7 x8 x9 x10 x11 x12 x13 x14 x15 x16 x17 x18 x19 x20 x21 x22) = segD Γ_trust_Take tab fn_trust_Take 0 K (goD Γ_trust_Take tab fn_trust_Take 0 K m) (.code (Code.sub (bodyOf fn_trust_Take) [1, 1, 1, 1, 0, 1, 0, 0]) :: trust_Take_L0) (trust_Take_S0 x0 x1 x2 x3 x4 x5 x6 x7 x8 x9 x10 x11 x12 x13 x14 x15 x16 x17 x18 x19 x20 x21 x22) := rfl
theorem trust_Take_vc1 (x0 : Int) (x1 : Int) (x2 : (List Vm.Target)) (x3 : Int) (x4 : Int) (x5 : Int) (x6 : Int) (x7 : (List Vm.Root)) (x8 : (List (List Int))) (x9 : Int) (x10 : Int) (x11 : (List Vm.Target)) (x12 : (List Int)) (x13 : (List (List Int))) (x14 : Int) (x15 : (List Int)) (x16 : Int) (x17 : Int) (x18 : (List (List UInt8))) (x19 : (List Int)) (rec : List It → St → Prop) (K : V → List Blk → Prop) v0 (hv0 : v0 = (imageName x18 (nth x13 (Int.toNat x0) (Ty.dflt (Ty.list Ty.int))))) : segD Γ_trust_Take tab fn_trust_Take 0 K rec (.code (Code.sub (bodyOf fn_trust_Take) [1, 1, 1, 1, 1, 1, 1, 1, 1, 1, 1, 0, 1, 0, 0]) :: trust_Take_L1) (trust_Take_S1 x0 x1 x2 x3 x4 x5 x6 x7 x8 x9 x10 x11 x12 x13 x14 x15 x16 x17 x18 x19) = (
    br (lti x0 x1)
     ((((0 : Int) ≤ x0) ∧ (x0 < (((len x2) : Nat) : Int))) ∧
      ((((0 : Int) ≤ x0) ∧ (x0 < (((len x13) : Nat) : Int))) ∧
      (((List.length x18) ≤ 140737488355328) ∧
      (br (!(eqi (v0).snd (0 : Int)))
       (K (.tup [.agg [.dat Ty.int (0 : Int), .dat (Ty.list Ty.int) [], .dat Ty.int (0 : Int), .dat Ty.int (0 : Int)], .one (.dat Ty.int (5 : Int))]) [])
       (br (!(eqi (v0).fst ((nth x2 (Int.toNat x0) (Ty.dflt Ty.target))).image))
         (K (.tup [.agg [.dat Ty.int (0 : Int), .dat (Ty.list Ty.int) [], .dat Ty.int (0 : Int), .dat Ty.int (0 : Int)], .one (.dat Ty.int (5 : Int))]) [])
         ((((0 : Int) ≤ x0) ∧ (x0 < (((len x13) : Nat) : Int))) ∧
          (br (!(eqi (((len (nth x13 (Int.toNat x0) (Ty.dflt (Ty.list Ty.int)))) : Nat) : Int) ((nth x2 (Int.toNat x0) (Ty.dflt Ty.target))).long))
           (K (.tup [.agg [.dat Ty.int (0 : Int), .dat (Ty.list Ty.int) [], .dat Ty.int (0 : Int), .dat Ty.int (0 : Int)], .one (.dat Ty.int (5 : Int))]) [])
           (rec trust_Take_L1 (trust_Take_S1 (w64 (x0 + (1 : Int))) x1 x2 x3 x4 x5 x6 x7 x8 x9 x10 x11 x12 x13 x14 x15 x16 x17 x18 x19)))))))))
     ((((len x15) * 8) ≤ 140737488355328) ∧
      (K (.tup [.agg [.dat Ty.int x14, .dat (Ty.list Ty.int) x15, .dat Ty.int x16, .dat Ty.int x9], .one (.dat Ty.int (0 : Int))]) []))) := by subst hv0; kernel_rfl
theorem trust_Take_w1 (x0 : Int) (x1 : Int) (x2 : (List Vm.Target)) (x3 : Int) (x4 : Int) (x5 : Int) (x6 : Int) (x7 : (List Vm.Root)) (x8 : (List (List Int))) (x9 : Int) (x10 : Int) (x11 : (List Vm.Target)) (x12 : (List Int)) (x13 : (List (List Int))) (x14 : Int) (x15 : (List Int)) (x16 : Int) (x17 : Int) (x18 : (List (List UInt8))) (x19 : (List Int)) (m : Nat) (K : V → List Blk → Prop) : goD Γ_trust_Take tab fn_trust_Take 0 K (m + 1) trust_Take_L1 (trust_Take_S1 x0 x1 x2 x3 x4 x5 x6 x7 x8 x9 x10 x11 x12 x13 x14 x15 x16 x17 x18 x19) = segD Γ_trust_Take tab fn_trust_Take 0 K (goD Γ_trust_Take tab fn_trust_Take 0 K m) (.code (Code.sub (bodyOf fn_trust_Take) [1, 1, 1, 1, 1, 1, 1, 1, 1, 1, 1, 0, 1, 0, 0]) :: trust_Take_L1) (trust_Take_S1 x0 x1 x2 x3 x4 x5 x6 x7 x8 x9 x10 x11 x12 x13 x14 x15 x16 x17 x18 x19) := rfl

theorem loop1_trust_Take (b : List (List UInt8)) (hb : b.length ≤ 140737488355328) (ts : List Vm.Target) (im : List (List Int)) (hl : ts.length ≤ 4) (hi : im.length = ts.length) (K : V → List Blk → Prop) (x3 x4 x5 x6 : Int) (rs : List Vm.Root) (rg : List (List Int)) (ov ou : Int) (sg : List Int) (v : Int) (ks : List Int) (t n : Int) (hk : ks.length ≤ 6) (x19 : List Int) : ∀ (d k : Nat), k + d = ts.length →
    (okImages b (ts.drop k) (im.drop k) = true → K (.tup [.agg [.dat .int v, .dat (.list .int) ks, .dat .int t, .dat .int ov], .one (.dat .int 0)]) []) →
    (okImages b (ts.drop k) (im.drop k) = false → K (.tup [.agg [.dat .int 0, .dat (.list .int) [], .dat .int 0, .dat .int 0], .one (.dat .int 5)]) []) →
    goD Γ_trust_Take tab fn_trust_Take 0 K (d + 1) trust_Take_L1 (trust_Take_S1 (k : Int) (((len ts) : Nat) : Int) ts x3 x4 x5 x6 rs rg ov ou ts sg im v ks t n b x19)
  | 0, k, hk', hT, hF => by
    rw [trust_Take_w1, trust_Take_vc1 _ _ _ _ _ _ _ _ _ _ _ _ _ _ _ _ _ _ _ _ _ _ _ rfl]
    rw [List.drop_of_length_le (by omega)] at hT
    exact lt_f (by simp only [len]; omega) ⟨by simp only [len]; omega, hT rfl⟩
  | d + 1, k, hk', hT, hF => by
    rw [trust_Take_w1, trust_Take_vc1 _ _ _ _ _ _ _ _ _ _ _ _ _ _ _ _ _ _ _ _ _ _ _ rfl, toNat_nat]
    rw [drop_step (l := ts) (by omega) (Ty.dflt Ty.target), drop_step (l := im) (by omega) (Ty.dflt (Ty.list Ty.int))] at hT hF
    obtain ⟨x, hx⟩ : ∃ x, nth ts k (Ty.dflt Ty.target) = x := ⟨_, rfl⟩
    obtain ⟨w, hw⟩ : ∃ w, nth im k (Ty.dflt (Ty.list Ty.int)) = w := ⟨_, rfl⟩
    rw [hx, hw] at hT hF ⊢
    simp only [okImages, List.headD_cons, List.tail_cons] at hT hF
    have five : okImage b x w = false → K (.tup [.agg [.dat .int 0, .dat (.list .int) [], .dat .int 0, .dat .int 0], .one (.dat .int 5)]) [] := fun h => hF (by rw [h]; rfl)
    have ek : w64 ((k : Int) + 1) = ((k + 1 : Nat) : Int) := w64_succ (by omega)
    rw [ek]
    refine lt_t (by simp only [len]; omega) ⟨⟨by omega, by simp only [len]; omega⟩, ⟨by omega, by simp only [len]; omega⟩, hb, ne_s (fun h => five ?_) (fun h => ne_s (fun h2 => five ?_) (fun h2 => ⟨⟨by omega, by simp only [len]; omega⟩, ne_s (fun h3 => five ?_) (fun h3 => ?_)⟩))⟩
    · simp [okImage, h]
    · simp [okImage, h2]
    · simp only [okImage, Bool.and_eq_false_iff, decide_eq_false_iff_not]; exact .inr h3
    · have ok : okImage b x w = true := by
        simp only [okImage, Bool.and_eq_true, decide_eq_true_eq]; exact ⟨⟨h, h2⟩, h3⟩
      rw [ok] at hT hF
      exact loop1_trust_Take b hb ts im hl hi K x3 x4 x5 x6 rs rg ov ou sg v ks t n hk x19 d (k + 1) (by omega) (fun g => hT (by rw [g]; rfl)) (fun g => hF (by rw [g]; rfl))
theorem loop_trust_Take (b : List (List UInt8)) (hb : b.length ≤ 140737488355328) (l : List Vm.Signed) (rs : List Vm.Root) (rg : List (List Int)) (ov ou : Int) (ts : List Vm.Target) (sg : List Int) (im : List (List Int)) (now units : Int) (hr : rs.length ≤ 6) (hg : rg.length = rs.length) (K : V → List Blk → Prop) (x3 x7 x8 x9 : Int) (x22 : List Int) : ∀ (d k : Nat) (v : Int) (ks : List Int) (t n : Int), k + d = rs.length → ks.length ≤ 6 →
    K (.tup [.agg [.dat .int (takeEnd b l ⟨rs, rg, ⟨ov, ou, ts⟩, sg, im⟩ now units (rootsT b l ⟨⟨v, ks, t⟩, n⟩ (rs.drop k) (rg.drop k))).1.r.version, .dat (.list .int) (takeEnd b l ⟨rs, rg, ⟨ov, ou, ts⟩, sg, im⟩ now units (rootsT b l ⟨⟨v, ks, t⟩, n⟩ (rs.drop k) (rg.drop k))).1.r.keys, .dat .int (takeEnd b l ⟨rs, rg, ⟨ov, ou, ts⟩, sg, im⟩ now units (rootsT b l ⟨⟨v, ks, t⟩, n⟩ (rs.drop k) (rg.drop k))).1.r.thr, .dat .int (takeEnd b l ⟨rs, rg, ⟨ov, ou, ts⟩, sg, im⟩ now units (rootsT b l ⟨⟨v, ks, t⟩, n⟩ (rs.drop k) (rg.drop k))).1.version], .one (.dat .int (takeEnd b l ⟨rs, rg, ⟨ov, ou, ts⟩, sg, im⟩ now units (rootsT b l ⟨⟨v, ks, t⟩, n⟩ (rs.drop k) (rg.drop k))).2)]) [] →
    goD Γ_trust_Take tab fn_trust_Take 0 K ((ts.length + 1) + d + 1) trust_Take_L0 (trust_Take_S0 (k : Int) (((len rs) : Nat) : Int) rs x3 l now units x7 x8 x9 rs rg ov ou ts sg im v ks t n b x22)
  | 0, k, v, ks, t, n, hk, hks, hK => by
    rw [trust_Take_w0, trust_Take_vc0 _ _ _ _ _ _ _ _ _ _ _ _ _ _ _ _ _ _ _ _ _ _ _ _ _ _ rfl _ rfl _ rfl _ rfl]
    rw [List.drop_of_length_le (by omega)] at hK
    refine lt_f (by simp only [len]; omega) ?_
    have e0 : takeEnd b l ⟨rs, rg, ⟨ov, ou, ts⟩, sg, im⟩ now units (rootsT b l ⟨⟨v, ks, t⟩, n⟩ [] (rg.drop k)) = if relE b l ⟨⟨v, ks, t⟩, n⟩ ⟨rs, rg, ⟨ov, ou, ts⟩, sg, im⟩ now units = 0 then (⟨⟨v, ks, t⟩, ov⟩, 0) else (noTrust, relE b l ⟨⟨v, ks, t⟩, n⟩ ⟨rs, rg, ⟨ov, ou, ts⟩, sg, im⟩ now units) := rfl
    rw [e0] at hK
    have bad : ∀ e : Int, e ≠ 0 → relE b l ⟨⟨v, ks, t⟩, n⟩ ⟨rs, rg, ⟨ov, ou, ts⟩, sg, im⟩ now units = e → K (.tup [.agg [.dat .int 0, .dat (.list .int) [], .dat .int 0, .dat .int 0], .one (.dat .int e)]) [] := fun e he h => by
      rw [if_neg (by rw [h]; exact he), h] at hK; exact hK
    have good : relE b l ⟨⟨v, ks, t⟩, n⟩ ⟨rs, rg, ⟨ov, ou, ts⟩, sg, im⟩ now units = 0 → K (.tup [.agg [.dat .int v, .dat (.list .int) ks, .dat .int t, .dat .int ov], .one (.dat .int 0)]) [] := fun h => by
      rw [if_pos h] at hK; exact hK
    clear hK e0
    refine ne_s (fun h2 => ?_) (fun h2 => ⟨hb, ?_⟩)
    · unfold releaseTextE at h2 ⊢
      by_cases c : checkRelease ov ou ts = 0
      · rw [if_pos c] at h2; exact absurd rfl h2
      · rw [if_neg c]
        exact bad _ c (if_neg c)
    have c2 : checkRelease ov ou ts = 0 := by
      by_cases c : checkRelease ov ou ts = 0
      · exact c
      · unfold releaseTextE at h2; rw [if_neg c] at h2; exact h2
    rw [show releaseTextE ov ou ts = (releaseText ov ou ts, 0) from if_pos c2]
    have E2 : relE b l ⟨⟨v, ks, t⟩, n⟩ ⟨rs, rg, ⟨ov, ou, ts⟩, sg, im⟩ now units = _ := if_pos c2
    refine ne_s (fun h3 => ?_) (fun h3 => ?_)
    · unfold nameB at h3 ⊢
      by_cases c : checkBook b = 0
      · rw [if_pos c] at h3; exact absurd rfl h3
      · rw [if_neg c]
        exact bad _ c (E2.trans (if_neg c))
    have c3 : checkBook b = 0 := by
      by_cases c : checkBook b = 0
      · exact c
      · unfold nameB at h3; rw [if_neg c] at h3; exact h3
    have E3 := E2.trans (if_pos c3)
    simp only [show nameB b (releaseText ov ou ts) = (indexS (releaseText ov ou ts) b + 1, 0) from if_pos c3]
    obtain ⟨q1, q2, q3, q4, q5, q6, _⟩ := checkRelease_ok c2
    refine ne_s (fun g => ?_) (fun g => lt_s (fun g2 => ?_) (fun g2 => ?_))
    · have e : enough l ⟨v, ks, t⟩ sg (indexS (releaseText ov ou ts) b + 1) = (countT l ⟨v, ks, t⟩ sg (indexS (releaseText ov ou ts) b + 1)).2 := if_neg g
      exact bad _ g ((E3.trans (if_neg (by rw [e]; exact g))).trans e)
    · have e : enough l ⟨v, ks, t⟩ sg (indexS (releaseText ov ou ts) b + 1) = 9 := by unfold enough; rw [if_pos g, if_pos g2]
      exact bad _ (by decide) ((E3.trans (if_neg (by rw [e]; decide))).trans e)
    have e : enough l ⟨v, ks, t⟩ sg (indexS (releaseText ov ou ts) b + 1) = 0 := by unfold enough; rw [if_pos g, if_neg (by simp only; omega)]
    have E4 := E3.trans (if_pos e)
    simp only at E4
    refine br_split (fun h5 => ?_) (fun h5 => ?_)
    · rw [lei_true] at h5
      exact bad _ (by decide) (E4.trans (if_pos h5))
    rw [lei_false] at h5
    have E5 := E4.trans (if_neg (by omega))
    refine lt_s (fun h6 => bad _ (by decide) (E5.trans (if_pos h6))) (fun h6 => ?_)
    have E6 := E5.trans (if_neg (by omega))
    refine ne_s (fun h7 => bad _ (by decide) (E6.trans (if_pos (.inl h7)))) (fun h7 => ne_s (fun h8 => bad _ (by decide) (E6.trans (if_pos (.inr h8)))) (fun h8 => ?_))
    have E7 := E6.trans (if_neg (by simp only [len] at h7 h8; omega))
    exact loop1_trust_Take b hb ts im q6 (by simp only [len] at h7 h8; omega) K x3 x7 x8 x9 rs rg ov ou sg v ks t n hks x22 ts.length 0 (by omega) (fun g => good (E7.trans (if_pos g))) (fun g => bad 5 (by decide) (E7.trans (if_neg (by rw [show okImages b ts im = false from g]; simp))))
  | d + 1, k, v, ks, t, n, hk, hks, hK => by
    rw [show ts.length + 1 + (d + 1) + 1 = (ts.length + 1 + d + 1) + 1 by omega, trust_Take_w0, trust_Take_vc0 _ _ _ _ _ _ _ _ _ _ _ _ _ _ _ _ _ _ _ _ _ _ _ _ _ _ rfl _ rfl _ rfl _ rfl, toNat_nat]
    rw [drop_step (l := rs) (by omega) (Ty.dflt Ty.root), drop_step (l := rg) (by omega) (Ty.dflt (Ty.list Ty.int))] at hK
    obtain ⟨x, hx⟩ : ∃ x, nth rs k (Ty.dflt Ty.root) = x := ⟨_, rfl⟩
    obtain ⟨w, hw⟩ : ∃ w, nth rg k (Ty.dflt (Ty.list Ty.int)) = w := ⟨_, rfl⟩
    rw [hx, hw] at hK ⊢
    have ek : w64 ((k : Int) + 1) = ((k + 1 : Nat) : Int) := w64_succ (by omega)
    rw [ek]
    have ex : (⟨x.version, x.keys, x.thr⟩ : Vm.Root) = x := rfl
    rw [ex]
    refine lt_t (by simp only [len]; omega) ⟨⟨by omega, by simp only [len]; omega⟩, ⟨by omega, by simp only [len]; omega⟩, hb, ne_s (fun h => ?_) (fun h => ?_)⟩
    · rw [show rootsT b l ⟨⟨v, ks, t⟩, n⟩ (x :: rs.drop (k + 1)) (w :: rg.drop (k + 1)) = (noTrust, (turnT b l ⟨⟨v, ks, t⟩, n⟩ x w).2) from if_neg h] at hK
      have e : takeEnd b l ⟨rs, rg, ⟨ov, ou, ts⟩, sg, im⟩ now units (noTrust, (turnT b l ⟨⟨v, ks, t⟩, n⟩ x w).2) = (noTrust, (turnT b l ⟨⟨v, ks, t⟩, n⟩ x w).2) := if_neg h
      rw [e] at hK; exact hK
    · rw [show rootsT b l ⟨⟨v, ks, t⟩, n⟩ (x :: rs.drop (k + 1)) (w :: rg.drop (k + 1)) = rootsT b l (turnT b l ⟨⟨v, ks, t⟩, n⟩ x w).1 (rs.drop (k + 1)) (rg.drop (k + 1)) from if_pos h] at hK
      obtain ⟨h1, h2⟩ := turnT_ok h
      obtain ⟨_, h3, _⟩ := turnE_ok h1
      rw [h2] at hK ⊢
      exact loop_trust_Take b hb l rs rg ov ou ts sg im now units hr hg K x3 x7 x8 x9 x22 d (k + 1) x.version x.keys x.thr n (by omega) (checkRoot_ok h3).2.2.2.2.1 hK
set_option maxHeartbeats 4000000 in
theorem run_trust_Take (b : List (List UInt8)) (l : List Vm.Signed) (v : Int) (ks : List Int) (t n : Int) (rs : List Vm.Root) (rg : List (List Int)) (ov ou : Int) (ts : List Vm.Target) (sg : List Int) (im : List (List Int)) (now units : Int) (hp : b.length ≤ 140737488355328) (K : V → List Blk → Prop) (hK : K (.tup [.agg [.dat .int (takeT b l ⟨⟨v, ks, t⟩, n⟩ ⟨rs, rg, ⟨ov, ou, ts⟩, sg, im⟩ now units).1.r.version, .dat (.list .int) (takeT b l ⟨⟨v, ks, t⟩, n⟩ ⟨rs, rg, ⟨ov, ou, ts⟩, sg, im⟩ now units).1.r.keys, .dat .int (takeT b l ⟨⟨v, ks, t⟩, n⟩ ⟨rs, rg, ⟨ov, ou, ts⟩, sg, im⟩ now units).1.r.thr, .dat .int (takeT b l ⟨⟨v, ks, t⟩, n⟩ ⟨rs, rg, ⟨ov, ou, ts⟩, sg, im⟩ now units).1.version], .one (.dat .int (takeT b l ⟨⟨v, ks, t⟩, n⟩ ⟨rs, rg, ⟨ov, ou, ts⟩, sg, im⟩ now units).2)]) []) : ∃ m, goD Γ_trust_Take tab fn_trust_Take 0 K m [.code (bodyOf fn_trust_Take)] (initSt [.agg [.dat (.list .str) b], .one (.dat (.list .signed) l), .agg [.dat .int v, .dat (.list .int) ks, .dat .int t, .dat .int n], .agg [.dat (.list .root) rs, .dat (.list (.list .int)) rg, .dat .int ov, .dat .int ou, .dat (.list .target) ts, .dat (.list .int) sg, .dat (.list (.list .int)) im], .one (.dat .int now), .one (.dat .int units)] []) := by
  refine ⟨ts.length + 1 + rs.length + 1 + 1, ?_⟩
  rw [trust_Take_w, trust_Take_vc _ _ _ _ _ _ _ _ _ _ _ _ _ _ _ _ _ _ rfl]
  unfold takeT at hK
  simp only at hK
  refine ne_s (fun h => ?_) (fun h => lt_s (fun h2 => ?_) (fun h2 => ne_s (fun h3 => ?_) (fun h3 => ?_)))
  · rw [if_neg h] at hK; exact hK
  · rw [if_pos h, if_pos (.inl (by simp only [len] at h2; omega))] at hK; exact hK
  · rw [if_pos h, if_pos (.inr (by simp only [len] at h3; omega))] at hK; exact hK
  · rw [if_pos h, if_neg (by simp only [len] at h2 h3; omega)] at hK
    exact loop_trust_Take b hp l rs rg ov ou ts sg im now units (by simp only [len] at h2; omega) (by simp only [len] at h3; omega) K 0 0 0 0 [] rs.length 0 v ks t n (by omega) (checkRoot_ok (checkTrust_ok h).2.2).2.2.2.2.1 hK
theorem sound_trust_Take : SoundC Tryd.prog tab n_trust_Take c_trust_Take := soundC_of ok_trust_Take hf_trust_Take hB_trust_Take (by
  intro vs bs p v bs' h hp
  unfold c_trust_Take at h
  split at h
  · cases h
    exact ⟨by kernel_rfl, rfl, .inl (run_trust_Take _ _ _ _ _ _ _ _ _ _ _ _ _ _ _ hp.1 _ ⟨rfl, rfl⟩)⟩
  · cases h)

def c_gate_Begin : Contract := fun vs bs => match vs, bs with
  | [.agg [.dat (.list .str) b], .one (.dat (.list .signed) l), .agg [.dat (.list .int) ws, .dat .int fu, .dat .bool up, .dat .int tv, .dat (.list .int) tk, .dat .int tt, .dat .int tn, .dat (.list .bool) vo, .dat (.list .bool) di], .agg [.dat (.list .root) rs, .dat (.list (.list .int)) rg, .dat .int ov, .dat .int ou, .dat (.list .target) ts, .dat (.list .int) sg, .dat (.list (.list .int)) im], .one (.dat .int now)], [] => some (some (b.length ≤ 140737488355328), .tup [.agg [.dat (.list .int) (beginG b l ⟨⟨ws, fu⟩, up, ⟨⟨tv, tk, tt⟩, tn⟩, vo, di⟩ ⟨rs, rg, ⟨ov, ou, ts⟩, sg, im⟩ now).1.f.words, .dat .int (beginG b l ⟨⟨ws, fu⟩, up, ⟨⟨tv, tk, tt⟩, tn⟩, vo, di⟩ ⟨rs, rg, ⟨ov, ou, ts⟩, sg, im⟩ now).1.f.fuel, .dat .bool (beginG b l ⟨⟨ws, fu⟩, up, ⟨⟨tv, tk, tt⟩, tn⟩, vo, di⟩ ⟨rs, rg, ⟨ov, ou, ts⟩, sg, im⟩ now).1.up, .dat .int (beginG b l ⟨⟨ws, fu⟩, up, ⟨⟨tv, tk, tt⟩, tn⟩, vo, di⟩ ⟨rs, rg, ⟨ov, ou, ts⟩, sg, im⟩ now).1.t.r.version, .dat (.list .int) (beginG b l ⟨⟨ws, fu⟩, up, ⟨⟨tv, tk, tt⟩, tn⟩, vo, di⟩ ⟨rs, rg, ⟨ov, ou, ts⟩, sg, im⟩ now).1.t.r.keys, .dat .int (beginG b l ⟨⟨ws, fu⟩, up, ⟨⟨tv, tk, tt⟩, tn⟩, vo, di⟩ ⟨rs, rg, ⟨ov, ou, ts⟩, sg, im⟩ now).1.t.r.thr, .dat .int (beginG b l ⟨⟨ws, fu⟩, up, ⟨⟨tv, tk, tt⟩, tn⟩, vo, di⟩ ⟨rs, rg, ⟨ov, ou, ts⟩, sg, im⟩ now).1.t.version, .dat (.list .bool) (beginG b l ⟨⟨ws, fu⟩, up, ⟨⟨tv, tk, tt⟩, tn⟩, vo, di⟩ ⟨rs, rg, ⟨ov, ou, ts⟩, sg, im⟩ now).1.voted, .dat (.list .bool) (beginG b l ⟨⟨ws, fu⟩, up, ⟨⟨tv, tk, tt⟩, tn⟩, vo, di⟩ ⟨rs, rg, ⟨ov, ou, ts⟩, sg, im⟩ now).1.did], .one (.dat .int (beginG b l ⟨⟨ws, fu⟩, up, ⟨⟨tv, tk, tt⟩, tn⟩, vo, di⟩ ⟨rs, rg, ⟨ov, ou, ts⟩, sg, im⟩ now).2.1), .one (.dat .int (beginG b l ⟨⟨ws, fu⟩, up, ⟨⟨tv, tk, tt⟩, tn⟩, vo, di⟩ ⟨rs, rg, ⟨ov, ou, ts⟩, sg, im⟩ now).2.2)], [])
  | _, _ => none
def Γ_gate_Begin : Ctx := [(n_gate_up, c_gate_up), (n_gate_of, c_gate_of), (n_trust_Take, c_trust_Take), (n_gate_Copy, c_gate_Copy), (n_gate_note, c_gate_note), (n_gate_forget, c_gate_forget)]
theorem ok_gate_Begin : Ok Tryd.prog tab Γ_gate_Begin := ((((((ok_nil.consC hf_gate_forget hB_gate_forget sound_gate_forget).consC hf_gate_note hB_gate_note sound_gate_note).consC hf_gate_Copy hB_gate_Copy sound_gate_Copy).consC hf_trust_Take hB_trust_Take sound_trust_Take).consC hf_gate_of hB_gate_of sound_gate_of).consC hf_gate_up hB_gate_up sound_gate_up)
theorem gate_Begin_vc (b : List (List UInt8)) (l : List Signed) (ws : List Int) (fu : Int) (up : Bool) (tv : Int) (tk : List Int) (tt : Int) (tn : Int) (vo : List Bool) (di : List Bool) (rs : List Root) (rg : List (List Int)) (ov : Int) (ou : Int) (ts : List Vm.Target) (sg : List Int) (im : List (List Int)) (now : Int) (rec : List It → St → Prop) (K : V → List Blk → Prop) v0 (hv0 : v0 = (upG (⟨(⟨ws, fu⟩ : Vm.Flash), up, (⟨(⟨tv, tk, tt⟩ : Vm.Root), tn⟩ : Vm.Trust), vo, di⟩ : Vm.Gate))) v1 (hv1 : v1 = (ofG (⟨ws, fu⟩ : Vm.Flash))) v2 (hv2 : v2 = (takeT b l (⟨(⟨tv, tk, tt⟩ : Vm.Root), tn⟩ : Vm.Trust) (⟨rs, rg, (⟨ov, ou, ts⟩ : Vm.Release), sg, im⟩ : Vm.Offer) now (((len vo) : Nat) : Int))) v3 (hv3 : v3 = (noteG (⟨(⟨ws, fu⟩ : Vm.Flash), up, (⟨(⟨tv, tk, tt⟩ : Vm.Root), tn⟩ : Vm.Trust), vo, di⟩ : Vm.Gate) ((1 : Int) :: ((w64 ((v1).n + (1 : Int))) :: (ov :: []))))) : segD Γ_gate_Begin tab fn_gate_Begin 0 K rec [.code (bodyOf fn_gate_Begin)] (initSt [.agg [.dat (Ty.list Ty.str) b], .one (.dat (Ty.list Ty.signed) l), .agg [.dat (Ty.list Ty.int) ws, .dat Ty.int fu, .dat Ty.bool up, .dat Ty.int tv, .dat (Ty.list Ty.int) tk, .dat Ty.int tt, .dat Ty.int tn, .dat (Ty.list Ty.bool) vo, .dat (Ty.list Ty.bool) di], .agg [.dat (Ty.list Ty.root) rs, .dat (Ty.list (Ty.list Ty.int)) rg, .dat Ty.int ov, .dat Ty.int ou, .dat (Ty.list Ty.target) ts, .dat (Ty.list Ty.int) sg, .dat (Ty.list (Ty.list Ty.int)) im], .one (.dat Ty.int now)] []) = (
    br (!(eqi v0 (0 : Int)))
     (K (.tup [.agg [.dat (Ty.list Ty.int) [], .dat Ty.int (0 : Int), .dat Ty.bool false, .dat Ty.int (0 : Int), .dat (Ty.list Ty.int) [], .dat Ty.int (0 : Int), .dat Ty.int (0 : Int), .dat (Ty.list Ty.bool) [], .dat (Ty.list Ty.bool) []], .one (.dat Ty.int (0 : Int)), .one (.dat Ty.int v0)]) [])
     (br (lti (0 : Int) (v1).n)
       (br (!(v1).ended)
         (K (.tup [.agg [.dat (Ty.list Ty.int) [], .dat Ty.int (0 : Int), .dat Ty.bool false, .dat Ty.int (0 : Int), .dat (Ty.list Ty.int) [], .dat Ty.int (0 : Int), .dat Ty.int (0 : Int), .dat (Ty.list Ty.bool) [], .dat (Ty.list Ty.bool) []], .one (.dat Ty.int (0 : Int)), .one (.dat Ty.int (12 : Int))]) [])
         (br (eqi (v1).n (8 : Int))
           (K (.tup [.agg [.dat (Ty.list Ty.int) [], .dat Ty.int (0 : Int), .dat Ty.bool false, .dat Ty.int (0 : Int), .dat (Ty.list Ty.int) [], .dat Ty.int (0 : Int), .dat Ty.int (0 : Int), .dat (Ty.list Ty.bool) [], .dat (Ty.list Ty.bool) []], .one (.dat Ty.int (0 : Int)), .one (.dat Ty.int (8 : Int))]) [])
           (((List.length b) ≤ 140737488355328) ∧
            (br (!(eqi (v2).snd (0 : Int)))
             (K (.tup [.agg [.dat (Ty.list Ty.int) [], .dat Ty.int (0 : Int), .dat Ty.bool false, .dat Ty.int (0 : Int), .dat (Ty.list Ty.int) [], .dat Ty.int (0 : Int), .dat Ty.int (0 : Int), .dat (Ty.list Ty.bool) [], .dat (Ty.list Ty.bool) []], .one (.dat Ty.int (0 : Int)), .one (.dat Ty.int (v2).snd)]) [])
             (((((len ws) * 8) ≤ 140737488355328) ∧ ((((len tk) * 8) ≤ 140737488355328) ∧ (((len vo) ≤ 1000) ∧ ((len di) ≤ 1000)))) ∧
              (((List.length ((1 : Int) :: ((w64 ((v1).n + (1 : Int))) :: (ov :: [])))) ≤ 140737488355328) ∧
              (br (!(v3).snd)
               (K (.tup [.agg [.dat (Ty.list Ty.int) (((v3).fst).f).words, .dat Ty.int (((v3).fst).f).fuel, .dat Ty.bool ((v3).fst).up, .dat Ty.int ((((v3).fst).t).r).version, .dat (Ty.list Ty.int) ((((v3).fst).t).r).keys, .dat Ty.int ((((v3).fst).t).r).thr, .dat Ty.int (((v3).fst).t).version, .dat (Ty.list Ty.bool) ((v3).fst).voted, .dat (Ty.list Ty.bool) ((v3).fst).did], .one (.dat Ty.int (0 : Int)), .one (.dat Ty.int (0 : Int))]) [])
               (K (.tup [.agg [.dat (Ty.list Ty.int) (((v3).fst).f).words, .dat Ty.int (((v3).fst).f).fuel, .dat Ty.bool ((v3).fst).up, .dat Ty.int (((v2).fst).r).version, .dat (Ty.list Ty.int) (((v2).fst).r).keys, .dat Ty.int (((v2).fst).r).thr, .dat Ty.int ((v2).fst).version, .dat (Ty.list Ty.bool) (zeros (List.length ((v3).fst).voted) false), .dat (Ty.list Ty.bool) (zeros (List.length ((v3).fst).did) false)], .one (.dat Ty.int (w64 ((v1).n + (1 : Int)))), .one (.dat Ty.int (0 : Int))]) []))))))))
       (br (eqi (v1).n (8 : Int))
         (K (.tup [.agg [.dat (Ty.list Ty.int) [], .dat Ty.int (0 : Int), .dat Ty.bool false, .dat Ty.int (0 : Int), .dat (Ty.list Ty.int) [], .dat Ty.int (0 : Int), .dat Ty.int (0 : Int), .dat (Ty.list Ty.bool) [], .dat (Ty.list Ty.bool) []], .one (.dat Ty.int (0 : Int)), .one (.dat Ty.int (8 : Int))]) [])
         (((List.length b) ≤ 140737488355328) ∧
          (br (!(eqi (v2).snd (0 : Int)))
           (K (.tup [.agg [.dat (Ty.list Ty.int) [], .dat Ty.int (0 : Int), .dat Ty.bool false, .dat Ty.int (0 : Int), .dat (Ty.list Ty.int) [], .dat Ty.int (0 : Int), .dat Ty.int (0 : Int), .dat (Ty.list Ty.bool) [], .dat (Ty.list Ty.bool) []], .one (.dat Ty.int (0 : Int)), .one (.dat Ty.int (v2).snd)]) [])
           (((((len ws) * 8) ≤ 140737488355328) ∧ ((((len tk) * 8) ≤ 140737488355328) ∧ (((len vo) ≤ 1000) ∧ ((len di) ≤ 1000)))) ∧
            (((List.length ((1 : Int) :: ((w64 ((v1).n + (1 : Int))) :: (ov :: [])))) ≤ 140737488355328) ∧
            (br (!(v3).snd)
             (K (.tup [.agg [.dat (Ty.list Ty.int) (((v3).fst).f).words, .dat Ty.int (((v3).fst).f).fuel, .dat Ty.bool ((v3).fst).up, .dat Ty.int ((((v3).fst).t).r).version, .dat (Ty.list Ty.int) ((((v3).fst).t).r).keys, .dat Ty.int ((((v3).fst).t).r).thr, .dat Ty.int (((v3).fst).t).version, .dat (Ty.list Ty.bool) ((v3).fst).voted, .dat (Ty.list Ty.bool) ((v3).fst).did], .one (.dat Ty.int (0 : Int)), .one (.dat Ty.int (0 : Int))]) [])
             (K (.tup [.agg [.dat (Ty.list Ty.int) (((v3).fst).f).words, .dat Ty.int (((v3).fst).f).fuel, .dat Ty.bool ((v3).fst).up, .dat Ty.int (((v2).fst).r).version, .dat (Ty.list Ty.int) (((v2).fst).r).keys, .dat Ty.int (((v2).fst).r).thr, .dat Ty.int ((v2).fst).version, .dat (Ty.list Ty.bool) (zeros (List.length ((v3).fst).voted) false), .dat (Ty.list Ty.bool) (zeros (List.length ((v3).fst).did) false)], .one (.dat Ty.int (w64 ((v1).n + (1 : Int)))), .one (.dat Ty.int (0 : Int))]) []))))))))) := by subst hv3; subst hv2; subst hv1; subst hv0; kernel_rfl
theorem gate_Begin_w (b : List (List UInt8)) (l : List Signed) (ws : List Int) (fu : Int) (up : Bool) (tv : Int) (tk : List Int) (tt : Int) (tn : Int) (vo : List Bool) (di : List Bool) (rs : List Root) (rg : List (List Int)) (ov : Int) (ou : Int) (ts : List Vm.Target) (sg : List Int) (im : List (List Int)) (now : Int) (m : Nat) (K : V → List Blk → Prop) : goD Γ_gate_Begin tab fn_gate_Begin 0 K (m + 1) [.code (bodyOf fn_gate_Begin)] (initSt [.agg [.dat (Ty.list Ty.str) b], .one (.dat (Ty.list Ty.signed) l), .agg [.dat (Ty.list Ty.int) ws, .dat Ty.int fu, .dat Ty.bool up, .dat Ty.int tv, .dat (Ty.list Ty.int) tk, .dat Ty.int tt, .dat Ty.int tn, .dat (Ty.list Ty.bool) vo, .dat (Ty.list Ty.bool) di], .agg [.dat (Ty.list Ty.root) rs, .dat (Ty.list (Ty.list Ty.int)) rg, .dat Ty.int ov, .dat Ty.int ou, .dat (Ty.list Ty.target) ts, .dat (Ty.list Ty.int) sg, .dat (Ty.list (Ty.list Ty.int)) im], .one (.dat Ty.int now)] []) = segD Γ_gate_Begin tab fn_gate_Begin 0 K (goD Γ_gate_Begin tab fn_gate_Begin 0 K m) [.code (bodyOf fn_gate_Begin)] (initSt [.agg [.dat (Ty.list Ty.str) b], .one (.dat (Ty.list Ty.signed) l), .agg [.dat (Ty.list Ty.int) ws, .dat Ty.int fu, .dat Ty.bool up, .dat Ty.int tv, .dat (Ty.list Ty.int) tk, .dat Ty.int tt, .dat Ty.int tn, .dat (Ty.list Ty.bool) vo, .dat (Ty.list Ty.bool) di], .agg [.dat (Ty.list Ty.root) rs, .dat (Ty.list (Ty.list Ty.int)) rg, .dat Ty.int ov, .dat Ty.int ou, .dat (Ty.list Ty.target) ts, .dat (Ty.list Ty.int) sg, .dat (Ty.list (Ty.list Ty.int)) im], .one (.dat Ty.int now)] []) := rfl

set_option maxHeartbeats 4000000 in
theorem run_gate_Begin (b : List (List UInt8)) (l : List Vm.Signed) (ws : List Int) (fu : Int) (up : Bool) (tv : Int) (tk : List Int) (tt tn : Int) (vo di : List Bool) (rs : List Vm.Root) (rg : List (List Int)) (ov ou : Int) (ts : List Vm.Target) (sg : List Int) (im : List (List Int)) (now : Int) (hp : b.length ≤ 140737488355328) (K : V → List Blk → Prop) (hK : K (.tup [.agg [.dat (.list .int) (beginG b l ⟨⟨ws, fu⟩, up, ⟨⟨tv, tk, tt⟩, tn⟩, vo, di⟩ ⟨rs, rg, ⟨ov, ou, ts⟩, sg, im⟩ now).1.f.words, .dat .int (beginG b l ⟨⟨ws, fu⟩, up, ⟨⟨tv, tk, tt⟩, tn⟩, vo, di⟩ ⟨rs, rg, ⟨ov, ou, ts⟩, sg, im⟩ now).1.f.fuel, .dat .bool (beginG b l ⟨⟨ws, fu⟩, up, ⟨⟨tv, tk, tt⟩, tn⟩, vo, di⟩ ⟨rs, rg, ⟨ov, ou, ts⟩, sg, im⟩ now).1.up, .dat .int (beginG b l ⟨⟨ws, fu⟩, up, ⟨⟨tv, tk, tt⟩, tn⟩, vo, di⟩ ⟨rs, rg, ⟨ov, ou, ts⟩, sg, im⟩ now).1.t.r.version, .dat (.list .int) (beginG b l ⟨⟨ws, fu⟩, up, ⟨⟨tv, tk, tt⟩, tn⟩, vo, di⟩ ⟨rs, rg, ⟨ov, ou, ts⟩, sg, im⟩ now).1.t.r.keys, .dat .int (beginG b l ⟨⟨ws, fu⟩, up, ⟨⟨tv, tk, tt⟩, tn⟩, vo, di⟩ ⟨rs, rg, ⟨ov, ou, ts⟩, sg, im⟩ now).1.t.r.thr, .dat .int (beginG b l ⟨⟨ws, fu⟩, up, ⟨⟨tv, tk, tt⟩, tn⟩, vo, di⟩ ⟨rs, rg, ⟨ov, ou, ts⟩, sg, im⟩ now).1.t.version, .dat (.list .bool) (beginG b l ⟨⟨ws, fu⟩, up, ⟨⟨tv, tk, tt⟩, tn⟩, vo, di⟩ ⟨rs, rg, ⟨ov, ou, ts⟩, sg, im⟩ now).1.voted, .dat (.list .bool) (beginG b l ⟨⟨ws, fu⟩, up, ⟨⟨tv, tk, tt⟩, tn⟩, vo, di⟩ ⟨rs, rg, ⟨ov, ou, ts⟩, sg, im⟩ now).1.did], .one (.dat .int (beginG b l ⟨⟨ws, fu⟩, up, ⟨⟨tv, tk, tt⟩, tn⟩, vo, di⟩ ⟨rs, rg, ⟨ov, ou, ts⟩, sg, im⟩ now).2.1), .one (.dat .int (beginG b l ⟨⟨ws, fu⟩, up, ⟨⟨tv, tk, tt⟩, tn⟩, vo, di⟩ ⟨rs, rg, ⟨ov, ou, ts⟩, sg, im⟩ now).2.2)]) []) : ∃ m, goD Γ_gate_Begin tab fn_gate_Begin 0 K m [.code (bodyOf fn_gate_Begin)] (initSt [.agg [.dat (.list .str) b], .one (.dat (.list .signed) l), .agg [.dat (.list .int) ws, .dat .int fu, .dat .bool up, .dat .int tv, .dat (.list .int) tk, .dat .int tt, .dat .int tn, .dat (.list .bool) vo, .dat (.list .bool) di], .agg [.dat (.list .root) rs, .dat (.list (.list .int)) rg, .dat .int ov, .dat .int ou, .dat (.list .target) ts, .dat (.list .int) sg, .dat (.list (.list .int)) im], .one (.dat .int now)] []) := by
  refine ⟨1, ?_⟩
  rw [gate_Begin_w, gate_Begin_vc _ _ _ _ _ _ _ _ _ _ _ _ _ _ _ _ _ _ _ _ _ _ rfl _ rfl _ rfl _ rfl]
  unfold beginG beginE begunG at hK
  simp only at hK
  have hv0 := ofG_ok ⟨ws, fu⟩
  obtain ⟨s, hs⟩ : ∃ s, ofG ⟨ws, fu⟩ = s := ⟨_, rfl⟩
  rw [hs] at hK hv0 ⊢
  obtain ⟨t, ht⟩ : ∃ t, takeT b l ⟨⟨tv, tk, tt⟩, tn⟩ ⟨rs, rg, ⟨ov, ou, ts⟩, sg, im⟩ now (vo.length : Int) = t := ⟨_, rfl⟩
  rw [show ((len vo : Nat) : Int) = (vo.length : Int) from rfl]
  rw [ht] at hK ⊢
  have n0 := hv0.n0
  have n8 := hv0.n8
  have ew : w64 (s.n + 1) = s.n + 1 := w64_id (by omega) (by omega)
  rw [ew]
  refine ne_s (fun h => ?_) (fun h => ?_)
  · rw [if_neg h, if_neg h] at hK; exact hK
  have hc : checkG ⟨⟨ws, fu⟩, up, ⟨⟨tv, tk, tt⟩, tn⟩, vo, di⟩ = 0 := upG_check h
  obtain ⟨s1, s2, s3, s4⟩ := checkG_sm hc
  obtain ⟨_, _, l1, l2, _⟩ := note_allG (r := [1, s.n + 1, ov]) (checkG_ok hc).1
  rw [if_pos h] at hK
  by_cases c : 0 < s.n ∧ s.ended = false
  · rw [if_pos c, if_neg (by omega)] at hK
    exact lt_t c.1 (nt_t c.2 hK)
  rw [if_neg c] at hK
  have key : br (eqi s.n 8) (K (.tup [.agg [.dat (Ty.list Ty.int) [], .dat Ty.int (0 : Int), .dat Ty.bool false, .dat Ty.int (0 : Int), .dat (Ty.list Ty.int) [], .dat Ty.int (0 : Int), .dat Ty.int (0 : Int), .dat (Ty.list Ty.bool) [], .dat (Ty.list Ty.bool) []], .one (.dat Ty.int (0 : Int)), .one (.dat Ty.int (8 : Int))]) []) (((List.length b) ≤ 140737488355328) ∧
      (br (!(eqi t.2 (0 : Int)))
       (K (.tup [.agg [.dat (Ty.list Ty.int) [], .dat Ty.int (0 : Int), .dat Ty.bool false, .dat Ty.int (0 : Int), .dat (Ty.list Ty.int) [], .dat Ty.int (0 : Int), .dat Ty.int (0 : Int), .dat (Ty.list Ty.bool) [], .dat (Ty.list Ty.bool) []], .one (.dat Ty.int (0 : Int)), .one (.dat Ty.int t.2)]) [])
       (((((len ws) * 8) ≤ 140737488355328) ∧ ((((len tk) * 8) ≤ 140737488355328) ∧ (((len vo) ≤ 1000) ∧ ((len di) ≤ 1000)))) ∧
        (((List.length ((1 : Int) :: (s.n + 1) :: (ov :: []))) ≤ 140737488355328) ∧
        (br (!(noteG ⟨⟨ws, fu⟩, up, ⟨⟨tv, tk, tt⟩, tn⟩, vo, di⟩ [1, s.n + 1, ov]).2)
         (K (.tup [.agg [.dat (Ty.list Ty.int) (((noteG ⟨⟨ws, fu⟩, up, ⟨⟨tv, tk, tt⟩, tn⟩, vo, di⟩ [1, s.n + 1, ov]).1).f).words, .dat Ty.int (((noteG ⟨⟨ws, fu⟩, up, ⟨⟨tv, tk, tt⟩, tn⟩, vo, di⟩ [1, s.n + 1, ov]).1).f).fuel, .dat Ty.bool ((noteG ⟨⟨ws, fu⟩, up, ⟨⟨tv, tk, tt⟩, tn⟩, vo, di⟩ [1, s.n + 1, ov]).1).up, .dat Ty.int ((((noteG ⟨⟨ws, fu⟩, up, ⟨⟨tv, tk, tt⟩, tn⟩, vo, di⟩ [1, s.n + 1, ov]).1).t).r).version, .dat (Ty.list Ty.int) ((((noteG ⟨⟨ws, fu⟩, up, ⟨⟨tv, tk, tt⟩, tn⟩, vo, di⟩ [1, s.n + 1, ov]).1).t).r).keys, .dat Ty.int ((((noteG ⟨⟨ws, fu⟩, up, ⟨⟨tv, tk, tt⟩, tn⟩, vo, di⟩ [1, s.n + 1, ov]).1).t).r).thr, .dat Ty.int (((noteG ⟨⟨ws, fu⟩, up, ⟨⟨tv, tk, tt⟩, tn⟩, vo, di⟩ [1, s.n + 1, ov]).1).t).version, .dat (Ty.list Ty.bool) ((noteG ⟨⟨ws, fu⟩, up, ⟨⟨tv, tk, tt⟩, tn⟩, vo, di⟩ [1, s.n + 1, ov]).1).voted, .dat (Ty.list Ty.bool) ((noteG ⟨⟨ws, fu⟩, up, ⟨⟨tv, tk, tt⟩, tn⟩, vo, di⟩ [1, s.n + 1, ov]).1).did], .one (.dat Ty.int (0 : Int)), .one (.dat Ty.int (0 : Int))]) [])
         (K (.tup [.agg [.dat (Ty.list Ty.int) (((noteG ⟨⟨ws, fu⟩, up, ⟨⟨tv, tk, tt⟩, tn⟩, vo, di⟩ [1, s.n + 1, ov]).1).f).words, .dat Ty.int (((noteG ⟨⟨ws, fu⟩, up, ⟨⟨tv, tk, tt⟩, tn⟩, vo, di⟩ [1, s.n + 1, ov]).1).f).fuel, .dat Ty.bool ((noteG ⟨⟨ws, fu⟩, up, ⟨⟨tv, tk, tt⟩, tn⟩, vo, di⟩ [1, s.n + 1, ov]).1).up, .dat Ty.int ((t.fst).r).version, .dat (Ty.list Ty.int) ((t.fst).r).keys, .dat Ty.int ((t.fst).r).thr, .dat Ty.int (t.fst).version, .dat (Ty.list Ty.bool) (zeros (List.length ((noteG ⟨⟨ws, fu⟩, up, ⟨⟨tv, tk, tt⟩, tn⟩, vo, di⟩ [1, s.n + 1, ov]).1).voted) false), .dat (Ty.list Ty.bool) (zeros (List.length ((noteG ⟨⟨ws, fu⟩, up, ⟨⟨tv, tk, tt⟩, tn⟩, vo, di⟩ [1, s.n + 1, ov]).1).did) false)], .one (.dat Ty.int (s.n + 1)), .one (.dat Ty.int (0 : Int))]) [])))))) := by
    refine eq_s (fun c2 => ?_) (fun c2 => ?_)
    · rw [if_pos c2, if_neg (by omega)] at hK; exact hK
    rw [if_neg c2] at hK
    refine ⟨hp, ne_s (fun c3 => ?_) (fun c3 => ⟨⟨s1, s2, s3, s4⟩, by simp, ?_⟩)⟩
    · rw [if_neg c3] at hK; exact hK
    rw [if_pos c3] at hK
    rw [l1, l2]
    refine nt_s (fun c4 => ?_) (fun c4 => ?_)
    · rw [if_neg (by rw [c4]; simp)] at hK; exact hK
    · rw [if_pos c4] at hK; exact hK
  refine lt_s (fun c1 => nt_s (fun c2 => absurd ⟨c1, c2⟩ c) (fun _ => key)) (fun _ => key)
theorem sound_gate_Begin : SoundC Tryd.prog tab n_gate_Begin c_gate_Begin := soundC_of ok_gate_Begin hf_gate_Begin hB_gate_Begin (by
  intro vs bs p v bs' h hp
  unfold c_gate_Begin at h
  split at h
  · cases h
    exact ⟨by kernel_rfl, rfl, .inl (run_gate_Begin _ _ _ _ _ _ _ _ _ _ _ _ _ _ _ _ _ _ _ hp.1 _ ⟨rfl, rfl⟩)⟩
  · cases h)

def c_gate_Due : Contract := fun vs bs => match vs, bs with
  | [.agg [.dat (.list .int) ws, .dat .int fu, .dat .bool up, .dat .int tv, .dat (.list .int) tk, .dat .int tt, .dat .int tn, .dat (.list .bool) vo, .dat (.list .bool) di], .agg [.dat .int cn, .dat .int cv, .dat .int cu, .dat (.list .target) ct, .dat (.list (.list .int)) ci], .one (.dat .int u)], [] => some (some (ct.length ≤ 140737488355328 ∧ ci.length ≤ 140737488355328), .tup [.one (.dat (.list .message) (dueG ⟨⟨ws, fu⟩, up, ⟨⟨tv, tk, tt⟩, tn⟩, vo, di⟩ ⟨cn, ⟨cv, cu, ct⟩, ci⟩ u).1), .one (.dat .int (dueG ⟨⟨ws, fu⟩, up, ⟨⟨tv, tk, tt⟩, tn⟩, vo, di⟩ ⟨cn, ⟨cv, cu, ct⟩, ci⟩ u).2)], [])
  | _, _ => none
def Γ_gate_Due : Ctx := [(n_gate_up, c_gate_up), (n_gate_of, c_gate_of), (n_gate_decision, c_gate_decision), (n_slices_Clone_Lint, c_slices_Clone_Lint)]
theorem ok_gate_Due : Ok Tryd.prog tab Γ_gate_Due := ((((ok_nil.consC hf_slices_Clone_Lint hB_slices_Clone_Lint sound_slices_Clone_Lint).consC hf_gate_decision hB_gate_decision sound_gate_decision).consC hf_gate_of hB_gate_of sound_gate_of).consC hf_gate_up hB_gate_up sound_gate_up)
noncomputable def gate_Due_L0 : List It := [.inLoop [12, 11, 10, 9, 7, 6, 4, 2] (Code.sub (bodyOf fn_gate_Due) [1, 1, 1, 1, 1, 1, 1, 1, 1, 1, 0, 1, 0, 0]), .inBlock 0, .code (Code.sub (bodyOf fn_gate_Due) [1, 1, 1, 1, 1, 1, 1, 1, 1, 1, 1])]
def gate_Due_S0 (x0 : Int) (x1 : (List Int)) (x2 : Int) (x3 : Int) (x4 : (List Vm.Message)) (x5 : Int) (x6 : Int) (x7 : Bool) (x8 : Bool) (x9 : Bool) (x10 : (List Vm.Message)) (x11 : Int) (x12 : Int) (x13 : Int) (x14 : (List Vm.Target)) (x15 : (List (List Int))) : St := ⟨[(12, .one (.dat Ty.int x0)), (11, .one (.own 0)), (10, .one (.dat (Ty.list Ty.int) x1)), (9, .one (.ptr 1 0)), (7, .one (.dat Ty.int x2)), (6, .one (.own 2)), (4, .one (.ptr 3 0)), (2, .one (.dat Ty.int x3))], [(0, .arr Ty.message x4), (1, .box [.dat Ty.int x5, .dat Ty.int x6, .dat Ty.bool x7, .dat Ty.bool x8, .dat Ty.bool x9]), (2, .arr Ty.message x10), (3, .box [.dat Ty.int x11, .dat Ty.int x12, .dat Ty.int x13, .dat (Ty.list Ty.target) x14, .dat (Ty.list (Ty.list Ty.int)) x15])], 4⟩
theorem gate_Due_vc (ws : List Int) (fu : Int) (up : Bool) (tv : Int) (tk : List Int) (tt : Int) (tn : Int) (vo : List Bool) (di : List Bool) (cn : Int) (cv : Int) (cu : Int) (ct : List Vm.Target) (ci : List (List Int)) (u : Int) (rec : List It → St → Prop) (K : V → List Blk → Prop) v0 (hv0 : v0 = (upG (⟨(⟨ws, fu⟩ : Vm.Flash), up, (⟨(⟨tv, tk, tt⟩ : Vm.Root), tn⟩ : Vm.Trust), vo, di⟩ : Vm.Gate))) v1 (hv1 : v1 = (ofG (⟨ws, fu⟩ : Vm.Flash))) v2 (hv2 : v2 = (kindG (⟨(v1).n, (v1).version, (v1).commit, (v1).abort, (v1).ended⟩ : Vm.GState) (v1).n)) : segD Γ_gate_Due tab fn_gate_Due 0 K rec [.code (bodyOf fn_gate_Due)] (initSt [.agg [.dat (Ty.list Ty.int) ws, .dat Ty.int fu, .dat Ty.bool up, .dat Ty.int tv, .dat (Ty.list Ty.int) tk, .dat Ty.int tt, .dat Ty.int tn, .dat (Ty.list Ty.bool) vo, .dat (Ty.list Ty.bool) di], .agg [.dat Ty.int cn, .dat Ty.int cv, .dat Ty.int cu, .dat (Ty.list Ty.target) ct, .dat (Ty.list (Ty.list Ty.int)) ci], .one (.dat Ty.int u)] []) = (
    br (!(eqi v0 (0 : Int)))
     (K (.tup [.one (.dat (Ty.list Ty.message) []), .one (.dat Ty.int v0)]) [])
     (br (eqi (v1).n (0 : Int))
       (K (.tup [.one (.dat (Ty.list Ty.message) []), .one (.dat Ty.int (12 : Int))]) [])
       (br (v1).ended
         (K (.tup [.one (.dat (Ty.list Ty.message) []), .one (.dat Ty.int (12 : Int))]) [])
         (br (lti u (0 : Int))
           (K (.tup [.one (.dat (Ty.list Ty.message) []), .one (.dat Ty.int (5 : Int))]) [])
           (br (lei (((len vo) : Nat) : Int) u)
             (K (.tup [.one (.dat (Ty.list Ty.message) []), .one (.dat Ty.int (5 : Int))]) [])
             (br (!(eqi cn (v1).n))
               (K (.tup [.one (.dat (Ty.list Ty.message) []), .one (.dat Ty.int (5 : Int))]) [])
               (br (lei (((len ci) : Nat) : Int) u)
                 (K (.tup [.one (.dat (Ty.list Ty.message) []), .one (.dat Ty.int (5 : Int))]) [])
                 (br (lei (((len ct) : Nat) : Int) u)
                   (K (.tup [.one (.dat (Ty.list Ty.message) []), .one (.dat Ty.int (5 : Int))]) [])
                   (br (v1).commit
                     ((((0 : Int) ≤ u) ∧ (u < (((len di) : Nat) : Int))) ∧
                      (br (nth di (Int.toNat u) (Ty.dflt Ty.bool))
                       (K (.tup [.one (.dat (Ty.list Ty.message) []), .one (.dat Ty.int (0 : Int))]) [])
                       (K (.tup [.one (.dat (Ty.list Ty.message) ((⟨v2, u, (v1).n, (0 : Int), (0 : Int), [], false⟩ : Vm.Message) :: [])), .one (.dat Ty.int (0 : Int))]) [])))
                     (br (v1).abort
                       ((((0 : Int) ≤ u) ∧ (u < (((len di) : Nat) : Int))) ∧
                        (br (nth di (Int.toNat u) (Ty.dflt Ty.bool))
                         (K (.tup [.one (.dat (Ty.list Ty.message) []), .one (.dat Ty.int (0 : Int))]) [])
                         (K (.tup [.one (.dat (Ty.list Ty.message) ((⟨v2, u, (v1).n, (0 : Int), (0 : Int), [], false⟩ : Vm.Message) :: [])), .one (.dat Ty.int (0 : Int))]) [])))
                       ((((0 : Int) ≤ u) ∧ (u < (((len vo) : Nat) : Int))) ∧
                        (br (nth vo (Int.toNat u) (Ty.dflt Ty.bool))
                         (K (.tup [.one (.dat (Ty.list Ty.message) []), .one (.dat Ty.int (0 : Int))]) [])
                         ((((0 : Int) ≤ u) ∧ (u < (((len ci) : Nat) : Int))) ∧
                          (br (lti (40 : Int) (((len (nth ci (Int.toNat u) (Ty.dflt (Ty.list Ty.int)))) : Nat) : Int))
                           (K (.tup [.one (.dat (Ty.list Ty.message) []), .one (.dat Ty.int (2 : Int))]) [])
                           (rec gate_Due_L0 (gate_Due_S0 (0 : Int) (nth ci (Int.toNat u) (Ty.dflt (Ty.list Ty.int))) (0 : Int) u [] (v1).n (v1).version (v1).commit (v1).abort (v1).ended [] cn cv cu ct ci)))))))))))))))) := by subst hv2; subst hv1; subst hv0; kernel_rfl
theorem gate_Due_w (ws : List Int) (fu : Int) (up : Bool) (tv : Int) (tk : List Int) (tt : Int) (tn : Int) (vo : List Bool) (di : List Bool) (cn : Int) (cv : Int) (cu : Int) (ct : List Vm.Target) (ci : List (List Int)) (u : Int) (m : Nat) (K : V → List Blk → Prop) : goD Γ_gate_Due tab fn_gate_Due 0 K (m + 1) [.code (bodyOf fn_gate_Due)] (initSt [.agg [.dat (Ty.list Ty.int) ws, .dat Ty.int fu, .dat Ty.bool up, .dat Ty.int tv, .dat (Ty.list Ty.int) tk, .dat Ty.int tt, .dat Ty.int tn, .dat (Ty.list Ty.bool) vo, .dat (Ty.list Ty.bool) di], .agg [.dat Ty.int cn, .dat Ty.int cv, .dat Ty.int cu, .dat (Ty.list Ty.target) ct, .dat (Ty.list (Ty.list Ty.int)) ci], .one (.dat Ty.int u)] []) = segD Γ_gate_Due tab fn_gate_Due 0 K (goD Γ_gate_Due tab fn_gate_Due 0 K m) [.code (bodyOf fn_gate_Due)] (initSt [.agg [.dat (Ty.list Ty.int) ws, .dat Ty.int fu, .dat Ty.bool up, .dat Ty.int tv, .dat (Ty.list Ty.int) tk, .dat Ty.int tt, .dat Ty.int tn, .dat (Ty.list Ty.bool) vo, .dat (Ty.list Ty.bool) di], .agg [.dat Ty.int cn, .dat Ty.int cv, .dat Ty.int cu, .dat (Ty.list Ty.target) ct, .dat (Ty.list (Ty.list Ty.int)) ci], .one (.dat Ty.int u)] []) := rfl
theorem gate_Due_vc0 (x0 : Int) (x1 : (List Int)) (x2 : Int) (x3 : Int) (x4 : (List Vm.Message)) (x5 : Int) (x6 : Int) (x7 : Bool) (x8 : Bool) (x9 : Bool) (x10 : (List Vm.Message)) (x11 : Int) (x12 : Int) (x13 : Int) (x14 : (List Vm.Target)) (x15 : (List (List Int))) (rec : List It → St → Prop) (K : V → List Blk → Prop) : segD Γ_gate_Due tab fn_gate_Due 0 K rec (.code (Code.sub (bodyOf fn_gate_Due) [1, 1, 1, 1, 1, 1, 1, 1, 1, 1, 0, 1, 0, 0]) :: gate_Due_L0) (gate_Due_S0 x0 x1 x2 x3 x4 x5 x6 x7 x8 x9 x10 x11 x12 x13 x14 x15) = (
    br (lti x0 (((len x1) : Nat) : Int))
     ((((0 : Int) ≤ x0) ∧ ((x0 ≤ (min (w64 (x0 + (8 : Int))) (((len x1) : Nat) : Int))) ∧ ((min (w64 (x0 + (8 : Int))) (((len x1) : Nat) : Int)) ≤ (((len x1) : Nat) : Int)))) ∧
      ((((len (slc x1 (Int.toNat x0) (Int.toNat (min (w64 (x0 + (8 : Int))) (((len x1) : Nat) : Int))))) * 8) ≤ 140737488355328) ∧
      (((((len x4) + (len ((⟨(1 : Int), x3, x5, x0, (0 : Int), (slc x1 (Int.toNat x0) (Int.toNat (min (w64 (x0 + (8 : Int))) (((len x1) : Nat) : Int)))), false⟩ : Vm.Message) :: []))) * 72) ≤ 140737488355328) ∧
      (rec gate_Due_L0 (gate_Due_S0 (w64 (x0 + (8 : Int))) x1 x2 x3 (cat x4 ((⟨(1 : Int), x3, x5, x0, (0 : Int), (slc x1 (Int.toNat x0) (Int.toNat (min (w64 (x0 + (8 : Int))) (((len x1) : Nat) : Int)))), false⟩ : Vm.Message) :: [])) x5 x6 x7 x8 x9 x10 x11 x12 x13 x14 x15)))))
     ((((0 : Int) ≤ x3) ∧ (x3 < (((len x14) : Nat) : Int))) ∧
      (((((len x4) + (len ((⟨(2 : Int), x3, x5, (((len x1) : Nat) : Int), ((nth x14 (Int.toNat x3) (Ty.dflt Ty.target))).image, [], false⟩ : Vm.Message) :: []))) * 72) ≤ 140737488355328) ∧
      (K (.tup [.one (.dat (Ty.list Ty.message) (cat x4 ((⟨(2 : Int), x3, x5, (((len x1) : Nat) : Int), ((nth x14 (Int.toNat x3) (Ty.dflt Ty.target))).image, [], false⟩ : Vm.Message) :: []))), .one (.dat Ty.int (0 : Int))]) [])))) := by kernel_rfl
theorem gate_Due_w0 (x0 : Int) (x1 : (List Int)) (x2 : Int) (x3 : Int) (x4 : (List Vm.Message)) (x5 : Int) (x6 : Int) (x7 : Bool) (x8 : Bool) (x9 : Bool) (x10 : (List Vm.Message)) (x11 : Int) (x12 : Int) (x13 : Int) (x14 : (List Vm.Target)) (x15 : (List (List Int))) (m : Nat) (K : V → List Blk → Prop) : goD Γ_gate_Due tab fn_gate_Due 0 K (m + 1) gate_Due_L0 (gate_Due_S0 x0 x1 x2 x3 x4 x5 x6 x7 x8 x9 x10 x11 x12 x13 x14 x15) = segD Γ_gate_Due tab fn_gate_Due 0 K (goD Γ_gate_Due tab fn_gate_Due 0 K m) (.code (Code.sub (bodyOf fn_gate_Due) [1, 1, 1, 1, 1, 1, 1, 1, 1, 1, 0, 1, 0, 0]) :: gate_Due_L0) (gate_Due_S0 x0 x1 x2 x3 x4 x5 x6 x7 x8 x9 x10 x11 x12 x13 x14 x15) := rfl

theorem loop_gate_Due (w : List Int) (u n : Int) (hw : w.length ≤ 40) (a b : Int) (c d e : Bool) (ml : List Vm.Message) (cn cv cu : Int) (ct : List Vm.Target) (ci : List (List Int)) (hu : 0 ≤ u ∧ u < (ct.length : Int)) (K : V → List Blk → Prop) :
    ∀ (f k : Nat) (acc : List Vm.Message), w.length ≤ k + 8 * f → k ≤ 48 → acc.length + f ≤ 6 → K (.tup [.one (.dat (Ty.list Ty.message) (acc ++ (piecesM u n w f k ++ [⟨2, u, n, (w.length : Int), (nth ct u.toNat ⟨0, 0, 0⟩).image, [], false⟩]))), .one (.dat Ty.int (0 : Int))]) [] →
    goD Γ_gate_Due tab fn_gate_Due 0 K (f + 1) gate_Due_L0 (gate_Due_S0 (k : Int) w a u acc n b c d e ml cn cv cu ct ci)
  | 0, k, acc, hk, h48, ha, hK => by
    rw [gate_Due_w0, gate_Due_vc0 _ _ _ _ _ _ _ _ _ _ _ _ _ _ _ _ _ _]
    exact lt_f (by simp only [len]; omega) ⟨⟨hu.1, by simp only [len]; omega⟩, by simp only [len, List.length_cons, List.length_nil]; omega, hK⟩
  | f + 1, k, acc, hk, h48, ha, hK => by
    rw [gate_Due_w0, gate_Due_vc0 _ _ _ _ _ _ _ _ _ _ _ _ _ _ _ _ _ _]
    by_cases c : k < w.length
    · simp only [piecesM, if_pos c] at hK
      have em : min (w64 ((k : Int) + 8)) (((len w : Nat)) : Int) = ((min (k + 8) w.length : Nat) : Int) := by rw [w64_id (by omega) (by omega)]; simp only [len]; omega
      rw [em, toNat_nat, toNat_nat, show w64 ((k : Int) + 8) = ((k + 8 : Nat) : Int) by rw [w64_id (by omega) (by omega)]; omega]
      have lp : len (slc w k (min (k + 8) w.length)) ≤ 8 := by simp only [len, slc, List.length_drop, List.length_take]; omega
      refine lt_t (by simp only [len]; omega) ⟨⟨by omega, by omega, by simp only [len]; omega⟩, by omega, by simp only [len, List.length_cons, List.length_nil]; omega, ?_⟩
      refine loop_gate_Due w u n hw a b _ d e ml cn cv cu ct ci hu K f (k + 8) _ (by omega) (by omega) (by simp only [cat, List.length_append, List.length_cons, List.length_nil]; omega) ?_
      simp only [cat, List.append_assoc, List.cons_append, List.nil_append] at hK ⊢
      exact hK
    · simp only [piecesM, if_neg c] at hK
      exact lt_f (by simp only [len]; omega) ⟨⟨hu.1, by simp only [len]; omega⟩, by simp only [len, List.length_cons, List.length_nil]; omega, hK⟩
set_option maxHeartbeats 4000000 in
theorem run_gate_Due (ws : List Int) (fu : Int) (up : Bool) (tv : Int) (tk : List Int) (tt tn : Int) (vo di : List Bool)(cn cv cu : Int) (ct : List Vm.Target) (ci : List (List Int)) (u : Int) (hp : ct.length ≤ 140737488355328 ∧ ci.length ≤ 140737488355328) (K : V → List Blk → Prop) (hK : K (.tup [.one (.dat (.list .message) (dueG ⟨⟨ws, fu⟩, up, ⟨⟨tv, tk, tt⟩, tn⟩, vo, di⟩ ⟨cn, ⟨cv, cu, ct⟩, ci⟩ u).1), .one (.dat .int (dueG ⟨⟨ws, fu⟩, up, ⟨⟨tv, tk, tt⟩, tn⟩, vo, di⟩ ⟨cn, ⟨cv, cu, ct⟩, ci⟩ u).2)]) []) : ∃ m, goD Γ_gate_Due tab fn_gate_Due 0 K m [.code (bodyOf fn_gate_Due)] (initSt [.agg [.dat (.list .int) ws, .dat .int fu, .dat .bool up, .dat .int tv, .dat (.list .int) tk, .dat .int tt, .dat .int tn, .dat (.list .bool) vo, .dat (.list .bool) di], .agg [.dat .int cn, .dat .int cv, .dat .int cu, .dat (.list .target) ct, .dat (.list (.list .int)) ci], .one (.dat .int u)] []) := by
  unfold dueG dueE duesG at hK
  simp only at hK
  have lv : ((len vo : Nat) : Int) = (vo.length : Int) := rfl
  have ld : ((len di : Nat) : Int) = (di.length : Int) := rfl
  have lc : ((len ci : Nat) : Int) = (ci.length : Int) := rfl
  have lt : ((len ct : Nat) : Int) = (ct.length : Int) := rfl
  obtain ⟨s, hs⟩ : ∃ s, ofG ⟨ws, fu⟩ = s := ⟨_, rfl⟩
  rw [hs] at hK
  refine ⟨7 + 1, ?_⟩
  rw [gate_Due_w, gate_Due_vc _ _ _ _ _ _ _ _ _ _ _ _ _ _ _ _ _ _ rfl _ rfl _ rfl, hs, lv, ld, lc, lt]
  refine ne_s (fun h => ?_) (fun h => ?_)
  · rw [if_neg h, if_neg h] at hK; exact hK
  have hc : checkG ⟨⟨ws, fu⟩, up, ⟨⟨tv, tk, tt⟩, tn⟩, vo, di⟩ = 0 := upG_check h
  obtain ⟨_, v1, v2, v3, _⟩ := checkG_ok hc
  simp only at v1 v2 v3
  rw [if_pos h] at hK
  by_cases c1 : s.n = 0 ∨ s.ended = true
  · rw [if_pos c1, if_neg (by decide)] at hK
    exact eq_s (fun _ => hK) (fun q => br_t (c1.resolve_left q) hK)
  rw [if_neg c1] at hK
  simp only [not_or, Bool.not_eq_true] at c1
  refine eq_f c1.1 (br_f c1.2 ?_)
  by_cases c2 : u < 0 ∨ (vo.length : Int) ≤ u ∨ cn ≠ s.n ∨ (ci.length : Int) ≤ u ∨ (ct.length : Int) ≤ u
  · rw [if_pos c2, if_neg (by decide)] at hK
    exact lt_s (fun _ => hK) (fun q1 => br_split (fun _ => hK) (fun q2 => ne_s (fun _ => hK) (fun q3 => br_split (fun _ => hK) (fun q4 => br_t (lei_true.2 (by rw [lei_false] at q2 q4; omega)) hK))))
  rw [if_neg c2, if_pos rfl] at hK
  refine lt_f (by omega) (br_f (lei_false.2 (by omega)) (ne_f (by omega) (br_f (lei_false.2 (by omega)) (br_f (lei_false.2 (by omega)) ?_))))
  have dec : s.commit = true ∨ s.abort = true → br (nth di (Int.toNat u) (Ty.dflt Ty.bool)) (K (.tup [.one (.dat (Ty.list Ty.message) []), .one (.dat Ty.int (0 : Int))]) [])
      (K (.tup [.one (.dat (Ty.list Ty.message) ((⟨kindG s s.n, u, s.n, (0 : Int), (0 : Int), [], false⟩ : Vm.Message) :: [])), .one (.dat Ty.int (0 : Int))]) []) := fun hd => by
    rw [if_pos hd] at hK
    refine br_split (fun q => ?_) (fun q => ?_)
    · rw [if_pos (by exact q)] at hK; exact hK
    · rw [if_neg (by exact Bool.eq_false_iff.1 q)] at hK; exact hK
  refine br_split (fun d1 => ⟨⟨by omega, by omega⟩, dec (.inl d1)⟩) (fun d1 => br_split (fun d2 => ⟨⟨by omega, by omega⟩, dec (.inr d2)⟩) (fun d2 => ⟨⟨by omega, by omega⟩, ?_⟩))
  rw [if_neg (by rw [d1, d2]; simp)] at hK
  refine br_split (fun q => ?_) (fun q => ⟨⟨by omega, by omega⟩, ?_⟩)
  · rw [if_pos (by exact q)] at hK; exact hK
  rw [if_neg (by exact Bool.eq_false_iff.1 q)] at hK
  unfold imageM at hK
  simp only at hK
  obtain ⟨w, hw⟩ : ∃ w, nth ci (Int.toNat u) (Ty.dflt (Ty.list Ty.int)) = w := ⟨_, rfl⟩
  have hw' : nth ci (Int.toNat u) [] = w := hw
  rw [hw]
  rw [hw'] at hK
  have lw : ((len w : Nat) : Int) = (w.length : Int) := rfl
  rw [lw]
  by_cases c3 : 40 < w.length
  · rw [if_pos c3] at hK
    exact lt_t (by omega) hK
  · rw [if_neg c3] at hK
    have hl := loop_gate_Due w u s.n (by omega) 0 s.version s.commit s.abort s.ended [] cn cv cu ct ci ⟨by omega, by omega⟩ K 6 0 [] (by omega) (by omega) (by simp) (by rw [List.nil_append]; exact hK)
    exact lt_f (by omega) hl
theorem sound_gate_Due : SoundC Tryd.prog tab n_gate_Due c_gate_Due := soundC_of ok_gate_Due hf_gate_Due hB_gate_Due (by
  intro vs bs p v bs' h hp
  unfold c_gate_Due at h
  split at h
  · cases h
    exact ⟨by kernel_rfl, rfl, .inl (run_gate_Due _ _ _ _ _ _ _ _ _ _ _ _ _ _ _ hp.1 _ ⟨rfl, rfl⟩)⟩
  · cases h)

def c_gate_Read : Contract := fun vs bs => match vs, bs with
  | [.agg [.dat (.list .int) ws, .dat .int fu, .dat .bool up, .dat .int tv, .dat (.list .int) tk, .dat .int tt, .dat .int tn, .dat (.list .bool) vo, .dat (.list .bool) di]], [] => some (none, .tup [.agg [.dat .int (readG ⟨⟨ws, fu⟩, up, ⟨⟨tv, tk, tt⟩, tn⟩, vo, di⟩).1.n, .dat .int (readG ⟨⟨ws, fu⟩, up, ⟨⟨tv, tk, tt⟩, tn⟩, vo, di⟩).1.version, .dat .bool (readG ⟨⟨ws, fu⟩, up, ⟨⟨tv, tk, tt⟩, tn⟩, vo, di⟩).1.commit, .dat .bool (readG ⟨⟨ws, fu⟩, up, ⟨⟨tv, tk, tt⟩, tn⟩, vo, di⟩).1.abort, .dat .bool (readG ⟨⟨ws, fu⟩, up, ⟨⟨tv, tk, tt⟩, tn⟩, vo, di⟩).1.ended], .one (.dat .int (readG ⟨⟨ws, fu⟩, up, ⟨⟨tv, tk, tt⟩, tn⟩, vo, di⟩).2)], [])
  | _, _ => none
def Γ_gate_Read : Ctx := [(n_gate_Check, c_gate_Check), (n_gate_of, c_gate_of)]
theorem ok_gate_Read : Ok Tryd.prog tab Γ_gate_Read := ((ok_nil.consC hf_gate_of hB_gate_of sound_gate_of).consC hf_gate_Check hB_gate_Check sound_gate_Check)
theorem gate_Read_vc (ws : List Int) (fu : Int) (up : Bool) (tv : Int) (tk : List Int) (tt : Int) (tn : Int) (vo : List Bool) (di : List Bool) (rec : List It → St → Prop) (K : V → List Blk → Prop) v0 (hv0 : v0 = (checkG (⟨(⟨ws, fu⟩ : Vm.Flash), up, (⟨(⟨tv, tk, tt⟩ : Vm.Root), tn⟩ : Vm.Trust), vo, di⟩ : Vm.Gate))) v1 (hv1 : v1 = (ofG (⟨ws, fu⟩ : Vm.Flash))) : segD Γ_gate_Read tab fn_gate_Read 0 K rec [.code (bodyOf fn_gate_Read)] (initSt [.agg [.dat (Ty.list Ty.int) ws, .dat Ty.int fu, .dat Ty.bool up, .dat Ty.int tv, .dat (Ty.list Ty.int) tk, .dat Ty.int tt, .dat Ty.int tn, .dat (Ty.list Ty.bool) vo, .dat (Ty.list Ty.bool) di]] []) = (
    br (!(eqi v0 (0 : Int)))
     (K (.tup [.agg [.dat Ty.int (0 : Int), .dat Ty.int (0 : Int), .dat Ty.bool false, .dat Ty.bool false, .dat Ty.bool false], .one (.dat Ty.int v0)]) [])
     (K (.tup [.agg [.dat Ty.int (v1).n, .dat Ty.int (v1).version, .dat Ty.bool (v1).commit, .dat Ty.bool (v1).abort, .dat Ty.bool (v1).ended], .one (.dat Ty.int (0 : Int))]) [])) := by subst hv1; subst hv0; kernel_rfl
theorem gate_Read_w (ws : List Int) (fu : Int) (up : Bool) (tv : Int) (tk : List Int) (tt : Int) (tn : Int) (vo : List Bool) (di : List Bool) (m : Nat) (K : V → List Blk → Prop) : goD Γ_gate_Read tab fn_gate_Read 0 K (m + 1) [.code (bodyOf fn_gate_Read)] (initSt [.agg [.dat (Ty.list Ty.int) ws, .dat Ty.int fu, .dat Ty.bool up, .dat Ty.int tv, .dat (Ty.list Ty.int) tk, .dat Ty.int tt, .dat Ty.int tn, .dat (Ty.list Ty.bool) vo, .dat (Ty.list Ty.bool) di]] []) = segD Γ_gate_Read tab fn_gate_Read 0 K (goD Γ_gate_Read tab fn_gate_Read 0 K m) [.code (bodyOf fn_gate_Read)] (initSt [.agg [.dat (Ty.list Ty.int) ws, .dat Ty.int fu, .dat Ty.bool up, .dat Ty.int tv, .dat (Ty.list Ty.int) tk, .dat Ty.int tt, .dat Ty.int tn, .dat (Ty.list Ty.bool) vo, .dat (Ty.list Ty.bool) di]] []) := rfl

set_option maxHeartbeats 4000000 in
theorem run_gate_Read (ws : List Int) (fu : Int) (up : Bool) (tv : Int) (tk : List Int) (tt tn : Int) (vo di : List Bool) (K : V → List Blk → Prop) (hK : K (.tup [.agg [.dat .int (readG ⟨⟨ws, fu⟩, up, ⟨⟨tv, tk, tt⟩, tn⟩, vo, di⟩).1.n, .dat .int (readG ⟨⟨ws, fu⟩, up, ⟨⟨tv, tk, tt⟩, tn⟩, vo, di⟩).1.version, .dat .bool (readG ⟨⟨ws, fu⟩, up, ⟨⟨tv, tk, tt⟩, tn⟩, vo, di⟩).1.commit, .dat .bool (readG ⟨⟨ws, fu⟩, up, ⟨⟨tv, tk, tt⟩, tn⟩, vo, di⟩).1.abort, .dat .bool (readG ⟨⟨ws, fu⟩, up, ⟨⟨tv, tk, tt⟩, tn⟩, vo, di⟩).1.ended], .one (.dat .int (readG ⟨⟨ws, fu⟩, up, ⟨⟨tv, tk, tt⟩, tn⟩, vo, di⟩).2)]) []) : ∃ m, goD Γ_gate_Read tab fn_gate_Read 0 K m [.code (bodyOf fn_gate_Read)] (initSt [.agg [.dat (.list .int) ws, .dat .int fu, .dat .bool up, .dat .int tv, .dat (.list .int) tk, .dat .int tt, .dat .int tn, .dat (.list .bool) vo, .dat (.list .bool) di]] []) := by
  refine ⟨1, ?_⟩
  rw [gate_Read_w, gate_Read_vc _ _ _ _ _ _ _ _ _ _ _ _ rfl _ rfl]
  unfold readG at hK
  refine ne_s (fun h => ?_) (fun h => ?_)
  · rw [if_neg h] at hK; exact hK
  · rw [if_pos h] at hK; exact hK
theorem sound_gate_Read : SoundC Tryd.prog tab n_gate_Read c_gate_Read := soundC_of ok_gate_Read hf_gate_Read hB_gate_Read (by
  intro vs bs p v bs' h hp
  unfold c_gate_Read at h
  split at h
  · cases h
    exact ⟨by kernel_rfl, rfl, .inl (run_gate_Read _ _ _ _ _ _ _ _ _ _ ⟨rfl, rfl⟩)⟩
  · cases h)

def c_law_gated : Contract := fun vs bs => match vs, bs with
  | [], [] => some (none, .one (.dat .bool true), [])
  | _, _ => none
def Γ_law_gated : Ctx := [(n_law_simple, c_law_simple), (n_gate_New, c_gate_New), (n_gate_Begin, c_gate_Begin), (n_gate_Due, c_gate_Due), (n_gate_Hear, c_gate_Hear), (n_gate_Read, c_gate_Read)]
theorem ok_law_gated : Ok Tryd.prog tab Γ_law_gated := ((((((ok_nil.consC hf_gate_Read hB_gate_Read sound_gate_Read).consC hf_gate_Hear hB_gate_Hear sound_gate_Hear).consC hf_gate_Due hB_gate_Due sound_gate_Due).consC hf_gate_Begin hB_gate_Begin sound_gate_Begin).consC hf_gate_New hB_gate_New sound_gate_New).consC hf_law_simple hB_law_simple sound_law_simple)

set_option maxHeartbeats 4000000 in
theorem run_law_gated  (K : V → List Blk → Prop) (hK : K (.one (.dat .bool true)) []) : ∃ m, goD Γ_law_gated tab fn_law_gated 0 K m [.code (bodyOf fn_law_gated)] (initSt [] []) := by
  refine ⟨1, ?_⟩
  have e : goD Γ_law_gated tab fn_law_gated 0 K 1 [.code (bodyOf fn_law_gated)] (initSt [] []) = ((len [(3 : Int)] * 8 ≤ 140737488355328) ∧ (simpleB.length ≤ 140737488355328) ∧ (1 ≤ 140737488355328 ∧ 1 ≤ 140737488355328) ∧ K (.one (.dat .bool true)) []) := by kernel_rfl
  rw [e]
  exact ⟨by decide, by decide, by decide, hK⟩
theorem sound_law_gated : SoundC Tryd.prog tab n_law_gated c_law_gated := soundC_of ok_law_gated hf_law_gated hB_law_gated (by
  intro vs bs p v bs' h hp
  unfold c_law_gated at h
  split at h
  · cases h
    exact ⟨by kernel_rfl, rfl, .inl (run_law_gated  _ ⟨rfl, rfl⟩)⟩
  · cases h)

def c_slices_Equal_Lint : Contract := fun vs bs => match vs, bs with
  | [.one (.dat (.list .int) a), .one (.dat (.list .int) b)], [] => some (some (Sm a), .one (.dat .bool (eqIs a b)), [])
  | _, _ => none
def Γ_slices_Equal_Lint : Ctx := []
theorem ok_slices_Equal_Lint : Ok Tryd.prog tab Γ_slices_Equal_Lint := ok_nil
noncomputable def slices_Equal_Lint_L0 : List It := [.inLoop [13, 12, 4, 0, 1] (Code.sub (bodyOf fn_slices_Equal_Lint) [1, 1, 0, 1, 0, 0]), .inBlock 0, .code (Code.sub (bodyOf fn_slices_Equal_Lint) [1, 1, 1])]
def slices_Equal_Lint_S0 (x0 : Int) (x1 : Int) (x2 : Bool) (x3 : (List Int)) (x4 : (List Int)) : St := ⟨[(13, .one (.dat Ty.int x0)), (12, .one (.dat Ty.int x1)), (4, .one (.dat Ty.bool x2)), (0, .one (.dat (Ty.list Ty.int) x3)), (1, .one (.dat (Ty.list Ty.int) x4))], [], 0⟩
theorem slices_Equal_Lint_vc (a : List Int) (b : List Int) (rec : List It → St → Prop) (K : V → List Blk → Prop) : segD Γ_slices_Equal_Lint tab fn_slices_Equal_Lint 0 K rec [.code (bodyOf fn_slices_Equal_Lint)] (initSt [.one (.dat (Ty.list Ty.int) a), .one (.dat (Ty.list Ty.int) b)] []) = (
    br (!(eqi (((len a) : Nat) : Int) (((len b) : Nat) : Int)))
     (K (.one (.dat Ty.bool false)) [])
     (rec slices_Equal_Lint_L0 (slices_Equal_Lint_S0 (0 : Int) (((len a) : Nat) : Int) false a b))) := by kernel_rfl
theorem slices_Equal_Lint_w (a : List Int) (b : List Int) (m : Nat) (K : V → List Blk → Prop) : goD Γ_slices_Equal_Lint tab fn_slices_Equal_Lint 0 K (m + 1) [.code (bodyOf fn_slices_Equal_Lint)] (initSt [.one (.dat (Ty.list Ty.int) a), .one (.dat (Ty.list Ty.int) b)] []) = segD Γ_slices_Equal_Lint tab fn_slices_Equal_Lint 0 K (goD Γ_slices_Equal_Lint tab fn_slices_Equal_Lint 0 K m) [.code (bodyOf fn_slices_Equal_Lint)] (initSt [.one (.dat (Ty.list Ty.int) a), .one (.dat (Ty.list Ty.int) b)] []) := rfl
theorem slices_Equal_Lint_vc0 (x0 : Int) (x1 : Int) (x2 : Bool) (x3 : (List Int)) (x4 : (List Int)) (rec : List It → St → Prop) (K : V → List Blk → Prop) : segD Γ_slices_Equal_Lint tab fn_slices_Equal_Lint 0 K rec (.code (Code.sub (bodyOf fn_slices_Equal_Lint) [1, 1, 0, 1, 0, 0]) :: slices_Equal_Lint_L0) (slices_Equal_Lint_S0 x0 x1 x2 x3 x4) = (
    br (lti x0 x1)
     ((((0 : Int) ≤ x0) ∧ (x0 < (((len x3) : Nat) : Int))) ∧
      ((((0 : Int) ≤ x0) ∧ (x0 < (((len x4) : Nat) : Int))) ∧
      (br (!(eqi (nth x3 (Int.toNat x0) (Ty.dflt Ty.int)) (nth x4 (Int.toNat x0) (Ty.dflt Ty.int))))
       (K (.one (.dat Ty.bool false)) [])
       (rec slices_Equal_Lint_L0 (slices_Equal_Lint_S0 (w64 (x0 + (1 : Int))) x1 x2 x3 x4)))))
     (K (.one (.dat Ty.bool true)) [])) := by kernel_rfl
theorem slices_Equal_Lint_w0 (x0 : Int) (x1 : Int) (x2 : Bool) (x3 : (List Int)) (x4 : (List Int)) (m : Nat) (K : V → List Blk → Prop) : goD Γ_slices_Equal_Lint tab fn_slices_Equal_Lint 0 K (m + 1) slices_Equal_Lint_L0 (slices_Equal_Lint_S0 x0 x1 x2 x3 x4) = segD Γ_slices_Equal_Lint tab fn_slices_Equal_Lint 0 K (goD Γ_slices_Equal_Lint tab fn_slices_Equal_Lint 0 K m) (.code (Code.sub (bodyOf fn_slices_Equal_Lint) [1, 1, 0, 1, 0, 0]) :: slices_Equal_Lint_L0) (slices_Equal_Lint_S0 x0 x1 x2 x3 x4) := rfl

theorem loop_slices_Equal_Lint (a b : List Int) (hl : a.length = b.length) (hs : Sm a) (K : V → List Blk → Prop) (hK : K (.one (.dat .bool (eqIs a b))) []) : ∀ (d k : Nat), k + d = a.length → a.take k = b.take k →
    goD Γ_slices_Equal_Lint tab fn_slices_Equal_Lint 0 K (d + 1) slices_Equal_Lint_L0 (slices_Equal_Lint_S0 (k : Int) (((len a) : Nat) : Int) false a b)
  | 0, k, hk, he => by
    rw [slices_Equal_Lint_w0, slices_Equal_Lint_vc0 _ _ _ _ _ _ _]
    refine lt_f (by simp only [len]; omega) ?_
    rw [List.take_of_length_le (by omega), List.take_of_length_le (by omega)] at he
    rw [show eqIs a b = true from by simp [eqIs, he]] at hK
    exact hK
  | d + 1, k, hk, he => by
    unfold Sm at hs
    rw [slices_Equal_Lint_w0, slices_Equal_Lint_vc0 _ _ _ _ _ _ _]
    refine lt_t (by simp only [len]; omega) ⟨⟨by omega, by simp only [len]; omega⟩, ⟨by omega, by simp only [len]; omega⟩, ne_s (fun hne => ?_) (fun heq => ?_)⟩
    · rw [show eqIs a b = false from by simp only [eqIs, decide_eq_false_iff_not]; rintro rfl; exact hne rfl] at hK
      exact hK
    · rw [w64_succ (by omega)]
      refine loop_slices_Equal_Lint a b hl ‹Sm a› K hK d (k + 1) (by omega) ?_
      rw [take_step (by omega) (Ty.dflt Ty.int), take_step (by omega) (Ty.dflt Ty.int), he]
      rw [toNat_nat] at heq
      rw [heq]
set_option maxHeartbeats 4000000 in
theorem run_slices_Equal_Lint (a b : List Int) (hp : Sm a) (K : V → List Blk → Prop) (hK : K (.one (.dat .bool (eqIs a b))) []) : ∃ m, goD Γ_slices_Equal_Lint tab fn_slices_Equal_Lint 0 K m [.code (bodyOf fn_slices_Equal_Lint)] (initSt [.one (.dat (.list .int) a), .one (.dat (.list .int) b)] []) := by
  refine ⟨a.length + 2, ?_⟩
  rw [slices_Equal_Lint_w, slices_Equal_Lint_vc _ _ _ _]
  refine ne_s (fun h => ?_) (fun h => ?_)
  · rw [show eqIs a b = false from by simp only [eqIs, decide_eq_false_iff_not]; rintro rfl; exact h rfl] at hK
    exact hK
  · exact loop_slices_Equal_Lint a b (by simp only [len] at h; omega) hp K hK a.length 0 (by omega) rfl
theorem sound_slices_Equal_Lint : SoundC Tryd.prog tab n_slices_Equal_Lint c_slices_Equal_Lint := soundC_of ok_slices_Equal_Lint hf_slices_Equal_Lint hB_slices_Equal_Lint (by
  intro vs bs p v bs' h hp
  unfold c_slices_Equal_Lint at h
  split at h
  · cases h
    exact ⟨by kernel_rfl, rfl, .inl (run_slices_Equal_Lint _ _ hp.1 _ ⟨rfl, rfl⟩)⟩
  · cases h)

def c_ref_SameFlash : Contract := fun vs bs => match vs, bs with
  | [.agg [.dat (.list .int) ws, .dat .int fu], .agg [.dat (.list .int) us, .dat .int fv]], [] => some (some (Sm ws), .one (.dat .bool (sameFlash ⟨ws, fu⟩ ⟨us, fv⟩)), [])
  | _, _ => none
def Γ_ref_SameFlash : Ctx := [(n_slices_Equal_Lint, c_slices_Equal_Lint)]
theorem ok_ref_SameFlash : Ok Tryd.prog tab Γ_ref_SameFlash := (ok_nil.consC hf_slices_Equal_Lint hB_slices_Equal_Lint sound_slices_Equal_Lint)
theorem ref_SameFlash_vc (ws : List Int) (fu : Int) (us : List Int) (fv : Int) (rec : List It → St → Prop) (K : V → List Blk → Prop) v0 (hv0 : v0 = (eqIs ws us)) : segD Γ_ref_SameFlash tab fn_ref_SameFlash 0 K rec [.code (bodyOf fn_ref_SameFlash)] (initSt [.agg [.dat (Ty.list Ty.int) ws, .dat Ty.int fu], .agg [.dat (Ty.list Ty.int) us, .dat Ty.int fv]] []) = (
    br (eqi fu fv)
     (((List.length ws) ≤ 140737488355328) ∧
      (K (.one (.dat Ty.bool v0)) []))
     (K (.one (.dat Ty.bool false)) [])) := by subst hv0; kernel_rfl
theorem ref_SameFlash_w (ws : List Int) (fu : Int) (us : List Int) (fv : Int) (m : Nat) (K : V → List Blk → Prop) : goD Γ_ref_SameFlash tab fn_ref_SameFlash 0 K (m + 1) [.code (bodyOf fn_ref_SameFlash)] (initSt [.agg [.dat (Ty.list Ty.int) ws, .dat Ty.int fu], .agg [.dat (Ty.list Ty.int) us, .dat Ty.int fv]] []) = segD Γ_ref_SameFlash tab fn_ref_SameFlash 0 K (goD Γ_ref_SameFlash tab fn_ref_SameFlash 0 K m) [.code (bodyOf fn_ref_SameFlash)] (initSt [.agg [.dat (Ty.list Ty.int) ws, .dat Ty.int fu], .agg [.dat (Ty.list Ty.int) us, .dat Ty.int fv]] []) := rfl

set_option maxHeartbeats 4000000 in
theorem run_ref_SameFlash (ws : List Int) (fu : Int) (us : List Int) (fv : Int) (hp : Sm ws) (K : V → List Blk → Prop) (hK : K (.one (.dat .bool (sameFlash ⟨ws, fu⟩ ⟨us, fv⟩))) []) : ∃ m, goD Γ_ref_SameFlash tab fn_ref_SameFlash 0 K m [.code (bodyOf fn_ref_SameFlash)] (initSt [.agg [.dat (.list .int) ws, .dat .int fu], .agg [.dat (.list .int) us, .dat .int fv]] []) := by
  refine ⟨1, ?_⟩
  rw [ref_SameFlash_w, ref_SameFlash_vc _ _ _ _ _ _ _ rfl]
  refine eq_s (fun h => ⟨hp, ?_⟩) (fun h => ?_)
  · rw [show sameFlash ⟨ws, fu⟩ ⟨us, fv⟩ = eqIs ws us from by simp [sameFlash, h]] at hK; exact hK
  · rw [show sameFlash ⟨ws, fu⟩ ⟨us, fv⟩ = false from by simp [sameFlash, h]] at hK; exact hK
theorem sound_ref_SameFlash : SoundC Tryd.prog tab n_ref_SameFlash c_ref_SameFlash := soundC_of ok_ref_SameFlash hf_ref_SameFlash hB_ref_SameFlash (by
  intro vs bs p v bs' h hp
  unfold c_ref_SameFlash at h
  split at h
  · cases h
    exact ⟨by kernel_rfl, rfl, .inl (run_ref_SameFlash _ _ _ _ hp.1 _ ⟨rfl, rfl⟩)⟩
  · cases h)

def c_ref_SameTrust : Contract := fun vs bs => match vs, bs with
  | [.agg [.dat .int v, .dat (.list .int) ks, .dat .int t, .dat .int n], .agg [.dat .int v2, .dat (.list .int) ks2, .dat .int t2, .dat .int n2]], [] => some (some (Sm ks), .one (.dat .bool (sameTrust ⟨⟨v, ks, t⟩, n⟩ ⟨⟨v2, ks2, t2⟩, n2⟩)), [])
  | _, _ => none
def Γ_ref_SameTrust : Ctx := [(n_slices_Equal_Lint, c_slices_Equal_Lint)]
theorem ok_ref_SameTrust : Ok Tryd.prog tab Γ_ref_SameTrust := (ok_nil.consC hf_slices_Equal_Lint hB_slices_Equal_Lint sound_slices_Equal_Lint)
theorem ref_SameTrust_vc (v : Int) (ks : List Int) (t : Int) (n : Int) (v2 : Int) (ks2 : List Int) (t2 : Int) (n2 : Int) (rec : List It → St → Prop) (K : V → List Blk → Prop) v0 (hv0 : v0 = (eqIs ks ks2)) : segD Γ_ref_SameTrust tab fn_ref_SameTrust 0 K rec [.code (bodyOf fn_ref_SameTrust)] (initSt [.agg [.dat Ty.int v, .dat (Ty.list Ty.int) ks, .dat Ty.int t, .dat Ty.int n], .agg [.dat Ty.int v2, .dat (Ty.list Ty.int) ks2, .dat Ty.int t2, .dat Ty.int n2]] []) = (
    br (eqi n n2)
     (br (eqi v v2)
       (br (eqi t t2)
         (((List.length ks) ≤ 140737488355328) ∧
          (K (.one (.dat Ty.bool v0)) []))
         (K (.one (.dat Ty.bool false)) []))
       (K (.one (.dat Ty.bool false)) []))
     (K (.one (.dat Ty.bool false)) [])) := by subst hv0; kernel_rfl
theorem ref_SameTrust_w (v : Int) (ks : List Int) (t : Int) (n : Int) (v2 : Int) (ks2 : List Int) (t2 : Int) (n2 : Int) (m : Nat) (K : V → List Blk → Prop) : goD Γ_ref_SameTrust tab fn_ref_SameTrust 0 K (m + 1) [.code (bodyOf fn_ref_SameTrust)] (initSt [.agg [.dat Ty.int v, .dat (Ty.list Ty.int) ks, .dat Ty.int t, .dat Ty.int n], .agg [.dat Ty.int v2, .dat (Ty.list Ty.int) ks2, .dat Ty.int t2, .dat Ty.int n2]] []) = segD Γ_ref_SameTrust tab fn_ref_SameTrust 0 K (goD Γ_ref_SameTrust tab fn_ref_SameTrust 0 K m) [.code (bodyOf fn_ref_SameTrust)] (initSt [.agg [.dat Ty.int v, .dat (Ty.list Ty.int) ks, .dat Ty.int t, .dat Ty.int n], .agg [.dat Ty.int v2, .dat (Ty.list Ty.int) ks2, .dat Ty.int t2, .dat Ty.int n2]] []) := rfl

set_option maxHeartbeats 4000000 in
theorem run_ref_SameTrust (v : Int) (ks : List Int) (t n v2 : Int) (ks2 : List Int) (t2 n2 : Int) (hp : Sm ks) (K : V → List Blk → Prop) (hK : K (.one (.dat .bool (sameTrust ⟨⟨v, ks, t⟩, n⟩ ⟨⟨v2, ks2, t2⟩, n2⟩))) []) : ∃ m, goD Γ_ref_SameTrust tab fn_ref_SameTrust 0 K m [.code (bodyOf fn_ref_SameTrust)] (initSt [.agg [.dat .int v, .dat (.list .int) ks, .dat .int t, .dat .int n], .agg [.dat .int v2, .dat (.list .int) ks2, .dat .int t2, .dat .int n2]] []) := by
  refine ⟨1, ?_⟩
  rw [ref_SameTrust_w, ref_SameTrust_vc _ _ _ _ _ _ _ _ _ _ _ rfl]
  unfold sameTrust at hK
  simp only at hK
  refine br_split (fun h => br_split (fun h2 => br_split (fun h3 => ⟨hp, ?_⟩) (fun h3 => ?_)) (fun h2 => ?_)) (fun h => ?_)
  · rw [h, h2, h3] at hK; exact hK
  · rw [h, h2, h3] at hK; exact hK
  · rw [h, h2] at hK; exact hK
  · rw [h] at hK; exact hK
theorem sound_ref_SameTrust : SoundC Tryd.prog tab n_ref_SameTrust c_ref_SameTrust := soundC_of ok_ref_SameTrust hf_ref_SameTrust hB_ref_SameTrust (by
  intro vs bs p v bs' h hp
  unfold c_ref_SameTrust at h
  split at h
  · cases h
    exact ⟨by kernel_rfl, rfl, .inl (run_ref_SameTrust _ _ _ _ _ _ _ _ hp.1 _ ⟨rfl, rfl⟩)⟩
  · cases h)

def c_slices_Equal_Lbool : Contract := fun vs bs => match vs, bs with
  | [.one (.dat (.list .bool) a), .one (.dat (.list .bool) b)], [] => some (some (len a ≤ 140737488355328), .one (.dat .bool (eqBs a b)), [])
  | _, _ => none
def Γ_slices_Equal_Lbool : Ctx := []
theorem ok_slices_Equal_Lbool : Ok Tryd.prog tab Γ_slices_Equal_Lbool := ok_nil
noncomputable def slices_Equal_Lbool_L0 : List It := [.inLoop [13, 12, 4, 0, 1] (Code.sub (bodyOf fn_slices_Equal_Lbool) [1, 1, 0, 1, 0, 0]), .inBlock 0, .code (Code.sub (bodyOf fn_slices_Equal_Lbool) [1, 1, 1])]
def slices_Equal_Lbool_S0 (x0 : Int) (x1 : Int) (x2 : Bool) (x3 : (List Bool)) (x4 : (List Bool)) : St := ⟨[(13, .one (.dat Ty.int x0)), (12, .one (.dat Ty.int x1)), (4, .one (.dat Ty.bool x2)), (0, .one (.dat (Ty.list Ty.bool) x3)), (1, .one (.dat (Ty.list Ty.bool) x4))], [], 0⟩
theorem slices_Equal_Lbool_vc (a : List Bool) (b : List Bool) (rec : List It → St → Prop) (K : V → List Blk → Prop) : segD Γ_slices_Equal_Lbool tab fn_slices_Equal_Lbool 0 K rec [.code (bodyOf fn_slices_Equal_Lbool)] (initSt [.one (.dat (Ty.list Ty.bool) a), .one (.dat (Ty.list Ty.bool) b)] []) = (
    br (!(eqi (((len a) : Nat) : Int) (((len b) : Nat) : Int)))
     (K (.one (.dat Ty.bool false)) [])
     (rec slices_Equal_Lbool_L0 (slices_Equal_Lbool_S0 (0 : Int) (((len a) : Nat) : Int) false a b))) := by kernel_rfl
theorem slices_Equal_Lbool_w (a : List Bool) (b : List Bool) (m : Nat) (K : V → List Blk → Prop) : goD Γ_slices_Equal_Lbool tab fn_slices_Equal_Lbool 0 K (m + 1) [.code (bodyOf fn_slices_Equal_Lbool)] (initSt [.one (.dat (Ty.list Ty.bool) a), .one (.dat (Ty.list Ty.bool) b)] []) = segD Γ_slices_Equal_Lbool tab fn_slices_Equal_Lbool 0 K (goD Γ_slices_Equal_Lbool tab fn_slices_Equal_Lbool 0 K m) [.code (bodyOf fn_slices_Equal_Lbool)] (initSt [.one (.dat (Ty.list Ty.bool) a), .one (.dat (Ty.list Ty.bool) b)] []) := rfl
theorem slices_Equal_Lbool_vc0 (x0 : Int) (x1 : Int) (x2 : Bool) (x3 : (List Bool)) (x4 : (List Bool)) (rec : List It → St → Prop) (K : V → List Blk → Prop) : segD Γ_slices_Equal_Lbool tab fn_slices_Equal_Lbool 0 K rec (.code (Code.sub (bodyOf fn_slices_Equal_Lbool) [1, 1, 0, 1, 0, 0]) :: slices_Equal_Lbool_L0) (slices_Equal_Lbool_S0 x0 x1 x2 x3 x4) = (
    br (lti x0 x1)
     ((((0 : Int) ≤ x0) ∧ (x0 < (((len x3) : Nat) : Int))) ∧
      ((((0 : Int) ≤ x0) ∧ (x0 < (((len x4) : Nat) : Int))) ∧
      (br (!(eqb (nth x3 (Int.toNat x0) (Ty.dflt Ty.bool)) (nth x4 (Int.toNat x0) (Ty.dflt Ty.bool))))
       (K (.one (.dat Ty.bool false)) [])
       (rec slices_Equal_Lbool_L0 (slices_Equal_Lbool_S0 (w64 (x0 + (1 : Int))) x1 x2 x3 x4)))))
     (K (.one (.dat Ty.bool true)) [])) := by kernel_rfl
theorem slices_Equal_Lbool_w0 (x0 : Int) (x1 : Int) (x2 : Bool) (x3 : (List Bool)) (x4 : (List Bool)) (m : Nat) (K : V → List Blk → Prop) : goD Γ_slices_Equal_Lbool tab fn_slices_Equal_Lbool 0 K (m + 1) slices_Equal_Lbool_L0 (slices_Equal_Lbool_S0 x0 x1 x2 x3 x4) = segD Γ_slices_Equal_Lbool tab fn_slices_Equal_Lbool 0 K (goD Γ_slices_Equal_Lbool tab fn_slices_Equal_Lbool 0 K m) (.code (Code.sub (bodyOf fn_slices_Equal_Lbool) [1, 1, 0, 1, 0, 0]) :: slices_Equal_Lbool_L0) (slices_Equal_Lbool_S0 x0 x1 x2 x3 x4) := rfl

theorem loop_slices_Equal_Lbool (a b : List Bool) (hl : a.length = b.length) (hs : a.length ≤ 140737488355328) (K : V → List Blk → Prop) (hK : K (.one (.dat .bool (eqBs a b))) []) : ∀ (d k : Nat), k + d = a.length → a.take k = b.take k →
    goD Γ_slices_Equal_Lbool tab fn_slices_Equal_Lbool 0 K (d + 1) slices_Equal_Lbool_L0 (slices_Equal_Lbool_S0 (k : Int) (((len a) : Nat) : Int) false a b)
  | 0, k, hk, he => by
    rw [slices_Equal_Lbool_w0, slices_Equal_Lbool_vc0 _ _ _ _ _ _ _]
    refine lt_f (by simp only [len]; omega) ?_
    rw [List.take_of_length_le (by omega), List.take_of_length_le (by omega)] at he
    rw [show eqBs a b = true from decide_eq_true he] at hK
    exact hK
  | d + 1, k, hk, he => by
    rw [slices_Equal_Lbool_w0, slices_Equal_Lbool_vc0 _ _ _ _ _ _ _]
    refine lt_t (by simp only [len]; omega) ⟨⟨by omega, by simp only [len]; omega⟩, ⟨by omega, by simp only [len]; omega⟩, nt_s (fun hne => ?_) (fun heq => ?_)⟩
    · have hne := of_decide_eq_false hne
      rw [show eqBs a b = false from decide_eq_false (by rintro rfl; exact hne rfl)] at hK
      exact hK
    · have heq := of_decide_eq_true heq
      rw [w64_succ (by omega)]
      refine loop_slices_Equal_Lbool a b hl hs K hK d (k + 1) (by omega) ?_
      rw [take_step (by omega) (Ty.dflt Ty.bool), take_step (by omega) (Ty.dflt Ty.bool), he]
      rw [toNat_nat] at heq
      rw [heq]
set_option maxHeartbeats 4000000 in
theorem run_slices_Equal_Lbool (a b : List Bool) (hp : len a ≤ 140737488355328) (K : V → List Blk → Prop) (hK : K (.one (.dat .bool (eqBs a b))) []) : ∃ m, goD Γ_slices_Equal_Lbool tab fn_slices_Equal_Lbool 0 K m [.code (bodyOf fn_slices_Equal_Lbool)] (initSt [.one (.dat (.list .bool) a), .one (.dat (.list .bool) b)] []) := by
  refine ⟨a.length + 2, ?_⟩
  rw [slices_Equal_Lbool_w, slices_Equal_Lbool_vc _ _ _ _]
  refine ne_s (fun h => ?_) (fun h => ?_)
  · rw [show eqBs a b = false from decide_eq_false (by rintro rfl; exact h rfl)] at hK
    exact hK
  · exact loop_slices_Equal_Lbool a b (by simp only [len] at h; omega) hp K hK a.length 0 (by omega) rfl
theorem sound_slices_Equal_Lbool : SoundC Tryd.prog tab n_slices_Equal_Lbool c_slices_Equal_Lbool := soundC_of ok_slices_Equal_Lbool hf_slices_Equal_Lbool hB_slices_Equal_Lbool (by
  intro vs bs p v bs' h hp
  unfold c_slices_Equal_Lbool at h
  split at h
  · cases h
    exact ⟨by kernel_rfl, rfl, .inl (run_slices_Equal_Lbool _ _ hp.1 _ ⟨rfl, rfl⟩)⟩
  · cases h)

def c_ref_SameGate : Contract := fun vs bs => match vs, bs with
  | [.agg [.dat (.list .int) ws, .dat .int fu, .dat .bool up, .dat .int tv, .dat (.list .int) tk, .dat .int tt, .dat .int tn, .dat (.list .bool) vo, .dat (.list .bool) di], .agg [.dat (.list .int) ws2, .dat .int fu2, .dat .bool up2, .dat .int tv2, .dat (.list .int) tk2, .dat .int tt2, .dat .int tn2, .dat (.list .bool) vo2, .dat (.list .bool) di2]], [] => some (some (Sm ws ∧ Sm tk ∧ len vo ≤ 140737488355328 ∧ len di ≤ 140737488355328), .one (.dat .bool (sameGate ⟨⟨ws, fu⟩, up, ⟨⟨tv, tk, tt⟩, tn⟩, vo, di⟩ ⟨⟨ws2, fu2⟩, up2, ⟨⟨tv2, tk2, tt2⟩, tn2⟩, vo2, di2⟩)), [])
  | _, _ => none
def Γ_ref_SameGate : Ctx := [(n_ref_SameFlash, c_ref_SameFlash), (n_ref_SameTrust, c_ref_SameTrust), (n_slices_Equal_Lbool, c_slices_Equal_Lbool)]
theorem ok_ref_SameGate : Ok Tryd.prog tab Γ_ref_SameGate := (((ok_nil.consC hf_slices_Equal_Lbool hB_slices_Equal_Lbool sound_slices_Equal_Lbool).consC hf_ref_SameTrust hB_ref_SameTrust sound_ref_SameTrust).consC hf_ref_SameFlash hB_ref_SameFlash sound_ref_SameFlash)
theorem ref_SameGate_vc (ws : List Int) (fu : Int) (up : Bool) (tv : Int) (tk : List Int) (tt : Int) (tn : Int) (vo : List Bool) (di : List Bool) (ws2 : List Int) (fu2 : Int) (up2 : Bool) (tv2 : Int) (tk2 : List Int) (tt2 : Int) (tn2 : Int) (vo2 : List Bool) (di2 : List Bool) (rec : List It → St → Prop) (K : V → List Blk → Prop) v0 (hv0 : v0 = (sameFlash (⟨ws, fu⟩ : Vm.Flash) (⟨ws2, fu2⟩ : Vm.Flash))) v1 (hv1 : v1 = (sameTrust (⟨(⟨tv, tk, tt⟩ : Vm.Root), tn⟩ : Vm.Trust) (⟨(⟨tv2, tk2, tt2⟩ : Vm.Root), tn2⟩ : Vm.Trust))) v2 (hv2 : v2 = (eqBs vo vo2)) v3 (hv3 : v3 = (eqBs di di2)) : segD Γ_ref_SameGate tab fn_ref_SameGate 0 K rec [.code (bodyOf fn_ref_SameGate)] (initSt [.agg [.dat (Ty.list Ty.int) ws, .dat Ty.int fu, .dat Ty.bool up, .dat Ty.int tv, .dat (Ty.list Ty.int) tk, .dat Ty.int tt, .dat Ty.int tn, .dat (Ty.list Ty.bool) vo, .dat (Ty.list Ty.bool) di], .agg [.dat (Ty.list Ty.int) ws2, .dat Ty.int fu2, .dat Ty.bool up2, .dat Ty.int tv2, .dat (Ty.list Ty.int) tk2, .dat Ty.int tt2, .dat Ty.int tn2, .dat (Ty.list Ty.bool) vo2, .dat (Ty.list Ty.bool) di2]] []) = (
    ((List.length ws) ≤ 140737488355328) ∧
    (br v0
     (br (eqb up up2)
       (((List.length tk) ≤ 140737488355328) ∧
        (br v1
         (((len vo) ≤ 140737488355328) ∧
          (br v2
           (((len di) ≤ 140737488355328) ∧
            (K (.one (.dat Ty.bool v3)) []))
           (K (.one (.dat Ty.bool false)) [])))
         (K (.one (.dat Ty.bool false)) [])))
       (K (.one (.dat Ty.bool false)) []))
     (K (.one (.dat Ty.bool false)) []))) := by subst hv3; subst hv2; subst hv1; subst hv0; kernel_rfl
theorem ref_SameGate_w (ws : List Int) (fu : Int) (up : Bool) (tv : Int) (tk : List Int) (tt : Int) (tn : Int) (vo : List Bool) (di : List Bool) (ws2 : List Int) (fu2 : Int) (up2 : Bool) (tv2 : Int) (tk2 : List Int) (tt2 : Int) (tn2 : Int) (vo2 : List Bool) (di2 : List Bool) (m : Nat) (K : V → List Blk → Prop) : goD Γ_ref_SameGate tab fn_ref_SameGate 0 K (m + 1) [.code (bodyOf fn_ref_SameGate)] (initSt [.agg [.dat (Ty.list Ty.int) ws, .dat Ty.int fu, .dat Ty.bool up, .dat Ty.int tv, .dat (Ty.list Ty.int) tk, .dat Ty.int tt, .dat Ty.int tn, .dat (Ty.list Ty.bool) vo, .dat (Ty.list Ty.bool) di], .agg [.dat (Ty.list Ty.int) ws2, .dat Ty.int fu2, .dat Ty.bool up2, .dat Ty.int tv2, .dat (Ty.list Ty.int) tk2, .dat Ty.int tt2, .dat Ty.int tn2, .dat (Ty.list Ty.bool) vo2, .dat (Ty.list Ty.bool) di2]] []) = segD Γ_ref_SameGate tab fn_ref_SameGate 0 K (goD Γ_ref_SameGate tab fn_ref_SameGate 0 K m) [.code (bodyOf fn_ref_SameGate)] (initSt [.agg [.dat (Ty.list Ty.int) ws, .dat Ty.int fu, .dat Ty.bool up, .dat Ty.int tv, .dat (Ty.list Ty.int) tk, .dat Ty.int tt, .dat Ty.int tn, .dat (Ty.list Ty.bool) vo, .dat (Ty.list Ty.bool) di], .agg [.dat (Ty.list Ty.int) ws2, .dat Ty.int fu2, .dat Ty.bool up2, .dat Ty.int tv2, .dat (Ty.list Ty.int) tk2, .dat Ty.int tt2, .dat Ty.int tn2, .dat (Ty.list Ty.bool) vo2, .dat (Ty.list Ty.bool) di2]] []) := rfl

set_option maxHeartbeats 4000000 in
theorem run_ref_SameGate (ws : List Int) (fu : Int) (up : Bool) (tv : Int) (tk : List Int) (tt tn : Int) (vo di : List Bool)(ws2 : List Int) (fu2 : Int) (up2 : Bool) (tv2 : Int) (tk2 : List Int) (tt2 tn2 : Int) (vo2 di2 : List Bool) (hp : Sm ws ∧ Sm tk ∧ len vo ≤ 140737488355328 ∧ len di ≤ 140737488355328) (K : V → List Blk → Prop) (hK : K (.one (.dat .bool (sameGate ⟨⟨ws, fu⟩, up, ⟨⟨tv, tk, tt⟩, tn⟩, vo, di⟩ ⟨⟨ws2, fu2⟩, up2, ⟨⟨tv2, tk2, tt2⟩, tn2⟩, vo2, di2⟩))) []) : ∃ m, goD Γ_ref_SameGate tab fn_ref_SameGate 0 K m [.code (bodyOf fn_ref_SameGate)] (initSt [.agg [.dat (.list .int) ws, .dat .int fu, .dat .bool up, .dat .int tv, .dat (.list .int) tk, .dat .int tt, .dat .int tn, .dat (.list .bool) vo, .dat (.list .bool) di], .agg [.dat (.list .int) ws2, .dat .int fu2, .dat .bool up2, .dat .int tv2, .dat (.list .int) tk2, .dat .int tt2, .dat .int tn2, .dat (.list .bool) vo2, .dat (.list .bool) di2]] []) := by
  refine ⟨1, ?_⟩
  rw [ref_SameGate_w, ref_SameGate_vc _ _ _ _ _ _ _ _ _ _ _ _ _ _ _ _ _ _ _ _ _ rfl _ rfl _ rfl _ rfl]
  unfold sameGate at hK
  simp only at hK
  refine ⟨hp.1, br_split (fun h1 => br_split (fun h2 => ⟨hp.2.1, br_split (fun h3 => ⟨hp.2.2.1, br_split (fun h4 => ⟨hp.2.2.2, ?_⟩) (fun h4 => ?_)⟩) (fun h3 => ?_)⟩) (fun h2 => ?_)) (fun h1 => ?_)⟩
  · rw [h1, h2, h3, h4] at hK; exact hK
  · rw [h1, h2, h3, h4] at hK; exact hK
  · rw [h1, h2, h3] at hK; exact hK
  · rw [h1, h2] at hK; exact hK
  · rw [h1] at hK; exact hK
theorem sound_ref_SameGate : SoundC Tryd.prog tab n_ref_SameGate c_ref_SameGate := soundC_of ok_ref_SameGate hf_ref_SameGate hB_ref_SameGate (by
  intro vs bs p v bs' h hp
  unfold c_ref_SameGate at h
  split at h
  · cases h
    exact ⟨by kernel_rfl, rfl, .inl (run_ref_SameGate _ _ _ _ _ _ _ _ _ _ _ _ _ _ _ _ _ _ hp.1 _ ⟨rfl, rfl⟩)⟩
  · cases h)

def c_ref_SameMessages_1 : Contract := fun vs bs => match vs, bs with
  | [.agg [.dat .int mk, .dat .int mu, .dat .int mn, .dat .int ma, .dat .int mi, .dat (.list .int) mw, .dat .bool my], .agg [.dat .int qk, .dat .int qu, .dat .int qn, .dat .int qa, .dat .int qi, .dat (.list .int) qw, .dat .bool qy]], [] => some (some (Sm mw), .one (.dat .bool (sameMsg ⟨mk, mu, mn, ma, mi, mw, my⟩ ⟨qk, qu, qn, qa, qi, qw, qy⟩)), [])
  | _, _ => none
def Γ_ref_SameMessages_1 : Ctx := [(n_slices_Equal_Lint, c_slices_Equal_Lint)]
theorem ok_ref_SameMessages_1 : Ok Tryd.prog tab Γ_ref_SameMessages_1 := (ok_nil.consC hf_slices_Equal_Lint hB_slices_Equal_Lint sound_slices_Equal_Lint)
theorem ref_SameMessages_1_vc (mk : Int) (mu : Int) (mn : Int) (ma : Int) (mi : Int) (mw : List Int) (my : Bool) (qk : Int) (qu : Int) (qn : Int) (qa : Int) (qi : Int) (qw : List Int) (qy : Bool) (rec : List It → St → Prop) (K : V → List Blk → Prop) v0 (hv0 : v0 = (eqIs mw qw)) : segD Γ_ref_SameMessages_1 tab fn_ref_SameMessages_1 0 K rec [.code (bodyOf fn_ref_SameMessages_1)] (initSt [.agg [.dat Ty.int mk, .dat Ty.int mu, .dat Ty.int mn, .dat Ty.int ma, .dat Ty.int mi, .dat (Ty.list Ty.int) mw, .dat Ty.bool my], .agg [.dat Ty.int qk, .dat Ty.int qu, .dat Ty.int qn, .dat Ty.int qa, .dat Ty.int qi, .dat (Ty.list Ty.int) qw, .dat Ty.bool qy]] []) = (
    br (eqi mk qk)
     (br (eqi mu qu)
       (br (eqi mn qn)
         (br (eqi ma qa)
           (br (eqi mi qi)
             (br (eqb my qy)
               (((List.length mw) ≤ 140737488355328) ∧
                (K (.one (.dat Ty.bool v0)) []))
               (K (.one (.dat Ty.bool false)) []))
             (K (.one (.dat Ty.bool false)) []))
           (K (.one (.dat Ty.bool false)) []))
         (K (.one (.dat Ty.bool false)) []))
       (K (.one (.dat Ty.bool false)) []))
     (K (.one (.dat Ty.bool false)) [])) := by subst hv0; kernel_rfl
theorem ref_SameMessages_1_w (mk : Int) (mu : Int) (mn : Int) (ma : Int) (mi : Int) (mw : List Int) (my : Bool) (qk : Int) (qu : Int) (qn : Int) (qa : Int) (qi : Int) (qw : List Int) (qy : Bool) (m : Nat) (K : V → List Blk → Prop) : goD Γ_ref_SameMessages_1 tab fn_ref_SameMessages_1 0 K (m + 1) [.code (bodyOf fn_ref_SameMessages_1)] (initSt [.agg [.dat Ty.int mk, .dat Ty.int mu, .dat Ty.int mn, .dat Ty.int ma, .dat Ty.int mi, .dat (Ty.list Ty.int) mw, .dat Ty.bool my], .agg [.dat Ty.int qk, .dat Ty.int qu, .dat Ty.int qn, .dat Ty.int qa, .dat Ty.int qi, .dat (Ty.list Ty.int) qw, .dat Ty.bool qy]] []) = segD Γ_ref_SameMessages_1 tab fn_ref_SameMessages_1 0 K (goD Γ_ref_SameMessages_1 tab fn_ref_SameMessages_1 0 K m) [.code (bodyOf fn_ref_SameMessages_1)] (initSt [.agg [.dat Ty.int mk, .dat Ty.int mu, .dat Ty.int mn, .dat Ty.int ma, .dat Ty.int mi, .dat (Ty.list Ty.int) mw, .dat Ty.bool my], .agg [.dat Ty.int qk, .dat Ty.int qu, .dat Ty.int qn, .dat Ty.int qa, .dat Ty.int qi, .dat (Ty.list Ty.int) qw, .dat Ty.bool qy]] []) := rfl

set_option maxHeartbeats 4000000 in
theorem run_ref_SameMessages_1 (mk mu mn ma mi : Int) (mw : List Int) (my : Bool)(qk qu qn qa qi : Int) (qw : List Int) (qy : Bool) (hp : Sm mw) (K : V → List Blk → Prop) (hK : K (.one (.dat .bool (sameMsg ⟨mk, mu, mn, ma, mi, mw, my⟩ ⟨qk, qu, qn, qa, qi, qw, qy⟩))) []) : ∃ m, goD Γ_ref_SameMessages_1 tab fn_ref_SameMessages_1 0 K m [.code (bodyOf fn_ref_SameMessages_1)] (initSt [.agg [.dat .int mk, .dat .int mu, .dat .int mn, .dat .int ma, .dat .int mi, .dat (.list .int) mw, .dat .bool my], .agg [.dat .int qk, .dat .int qu, .dat .int qn, .dat .int qa, .dat .int qi, .dat (.list .int) qw, .dat .bool qy]] []) := by
  refine ⟨1, ?_⟩
  rw [ref_SameMessages_1_w, ref_SameMessages_1_vc _ _ _ _ _ _ _ _ _ _ _ _ _ _ _ _ _ rfl]
  unfold sameMsg at hK
  simp only at hK
  refine br_split (fun h1 => br_split (fun h2 => br_split (fun h3 => br_split (fun h4 => br_split (fun h5 => br_split (fun h6 => ⟨hp, ?_⟩) (fun h6 => ?_)) (fun h5 => ?_)) (fun h4 => ?_)) (fun h3 => ?_)) (fun h2 => ?_)) (fun h1 => ?_)
  · rw [h1, h2, h3, h4, h5, h6] at hK; exact hK
  · rw [h1, h2, h3, h4, h5, h6] at hK; exact hK
  · rw [h1, h2, h3, h4, h5] at hK; exact hK
  · rw [h1, h2, h3, h4] at hK; exact hK
  · rw [h1, h2, h3] at hK; exact hK
  · rw [h1, h2] at hK; exact hK
  · rw [h1] at hK; exact hK
theorem sound_ref_SameMessages_1 : SoundC Tryd.prog tab n_ref_SameMessages_1 c_ref_SameMessages_1 := soundC_of ok_ref_SameMessages_1 hf_ref_SameMessages_1 hB_ref_SameMessages_1 (by
  intro vs bs p v bs' h hp
  unfold c_ref_SameMessages_1 at h
  split at h
  · cases h
    exact ⟨by kernel_rfl, rfl, .inl (run_ref_SameMessages_1 _ _ _ _ _ _ _ _ _ _ _ _ _ _ hp.1 _ ⟨rfl, rfl⟩)⟩
  · cases h)

def c_slices_EqualFunc_LMessage : Contract := fun vs bs => match vs, bs with
  | [.one (.dat (.list .message) a), .one (.dat (.list .message) b), .one (.fn f [])], [] => (match Nat.beq f n_ref_SameMessages_1 with | true => some (some (a.length ≤ 140737488355328 ∧ smM a = true), .one (.dat .bool (sameMsgs a b)), []) | false => none)
  | _, _ => none
def Γ_slices_EqualFunc_LMessage : Ctx := [(n_ref_SameMessages_1, c_ref_SameMessages_1)]
theorem ok_slices_EqualFunc_LMessage : Ok Tryd.prog tab Γ_slices_EqualFunc_LMessage := (ok_nil.consC hf_ref_SameMessages_1 hB_ref_SameMessages_1 sound_ref_SameMessages_1)
noncomputable def slices_EqualFunc_LMessage_0_L0 : List It := [.inLoop [17, 16, 15, 6, 1, 2] (Code.sub (bodyOf fn_slices_EqualFunc_LMessage) [1, 1, 0, 1, 0, 0]), .inBlock 0, .code (Code.sub (bodyOf fn_slices_EqualFunc_LMessage) [1, 1, 1])]
def slices_EqualFunc_LMessage_0_S0 (x0 : Int) (x1 : Int) (x2 : (List Vm.Message)) (x3 : Bool) (x4 : (List Vm.Message)) : St := ⟨[(17, .one (.dat Ty.int x0)), (16, .one (.dat Ty.int x1)), (15, .one (.dat (Ty.list Ty.message) x2)), (6, .one (.dat Ty.bool x3)), (1, .one (.dat (Ty.list Ty.message) x4)), (2, .one (.fn n_ref_SameMessages_1 []))], [], 0⟩
theorem slices_EqualFunc_LMessage_0_vc (a : List Message) (b : List Message) (rec : List It → St → Prop) (K : V → List Blk → Prop) : segD Γ_slices_EqualFunc_LMessage tab fn_slices_EqualFunc_LMessage 0 K rec [.code (bodyOf fn_slices_EqualFunc_LMessage)] (initSt [.one (.dat (Ty.list Ty.message) a), .one (.dat (Ty.list Ty.message) b), .one (.fn n_ref_SameMessages_1 [])] []) = (
    br (!(eqi (((len a) : Nat) : Int) (((len b) : Nat) : Int)))
     (K (.one (.dat Ty.bool false)) [])
     (rec slices_EqualFunc_LMessage_0_L0 (slices_EqualFunc_LMessage_0_S0 (0 : Int) (((len a) : Nat) : Int) a false b))) := by kernel_rfl
theorem slices_EqualFunc_LMessage_0_w (a : List Message) (b : List Message) (m : Nat) (K : V → List Blk → Prop) : goD Γ_slices_EqualFunc_LMessage tab fn_slices_EqualFunc_LMessage 0 K (m + 1) [.code (bodyOf fn_slices_EqualFunc_LMessage)] (initSt [.one (.dat (Ty.list Ty.message) a), .one (.dat (Ty.list Ty.message) b), .one (.fn n_ref_SameMessages_1 [])] []) = segD Γ_slices_EqualFunc_LMessage tab fn_slices_EqualFunc_LMessage 0 K (goD Γ_slices_EqualFunc_LMessage tab fn_slices_EqualFunc_LMessage 0 K m) [.code (bodyOf fn_slices_EqualFunc_LMessage)] (initSt [.one (.dat (Ty.list Ty.message) a), .one (.dat (Ty.list Ty.message) b), .one (.fn n_ref_SameMessages_1 [])] []) := rfl
theorem slices_EqualFunc_LMessage_0_vc0 (x0 : Int) (x1 : Int) (x2 : (List Vm.Message)) (x3 : Bool) (x4 : (List Vm.Message)) (rec : List It → St → Prop) (K : V → List Blk → Prop) v0 (hv0 : v0 = (sameMsg (⟨((nth x2 (Int.toNat x0) (Ty.dflt Ty.message))).kind, ((nth x2 (Int.toNat x0) (Ty.dflt Ty.message))).unit, ((nth x2 (Int.toNat x0) (Ty.dflt Ty.message))).n, ((nth x2 (Int.toNat x0) (Ty.dflt Ty.message))).at_, ((nth x2 (Int.toNat x0) (Ty.dflt Ty.message))).image, ((nth x2 (Int.toNat x0) (Ty.dflt Ty.message))).words, ((nth x2 (Int.toNat x0) (Ty.dflt Ty.message))).yes⟩ : Vm.Message) (⟨((nth x4 (Int.toNat x0) (Ty.dflt Ty.message))).kind, ((nth x4 (Int.toNat x0) (Ty.dflt Ty.message))).unit, ((nth x4 (Int.toNat x0) (Ty.dflt Ty.message))).n, ((nth x4 (Int.toNat x0) (Ty.dflt Ty.message))).at_, ((nth x4 (Int.toNat x0) (Ty.dflt Ty.message))).image, ((nth x4 (Int.toNat x0) (Ty.dflt Ty.message))).words, ((nth x4 (Int.toNat x0) (Ty.dflt Ty.message))).yes⟩ : Vm.Message))) : segD Γ_slices_EqualFunc_LMessage tab fn_slices_EqualFunc_LMessage 0 K rec (.code (Code.sub (bodyOf fn_slices_EqualFunc_LMessage) [1, 1, 0, 1, 0, 0]) :: slices_EqualFunc_LMessage_0_L0) (slices_EqualFunc_LMessage_0_S0 x0 x1 x2 x3 x4) = (
    br (lti x0 x1)
     ((((0 : Int) ≤ x0) ∧ (x0 < (((len x2) : Nat) : Int))) ∧
      ((((0 : Int) ≤ x0) ∧ (x0 < (((len x4) : Nat) : Int))) ∧
      (((List.length ((nth x2 (Int.toNat x0) (Ty.dflt Ty.message))).words) ≤ 140737488355328) ∧
      (br (!v0)
       (K (.one (.dat Ty.bool false)) [])
       (rec slices_EqualFunc_LMessage_0_L0 (slices_EqualFunc_LMessage_0_S0 (w64 (x0 + (1 : Int))) x1 x2 x3 x4))))))
     (K (.one (.dat Ty.bool true)) [])) := by subst hv0; kernel_rfl
theorem slices_EqualFunc_LMessage_0_w0 (x0 : Int) (x1 : Int) (x2 : (List Vm.Message)) (x3 : Bool) (x4 : (List Vm.Message)) (m : Nat) (K : V → List Blk → Prop) : goD Γ_slices_EqualFunc_LMessage tab fn_slices_EqualFunc_LMessage 0 K (m + 1) slices_EqualFunc_LMessage_0_L0 (slices_EqualFunc_LMessage_0_S0 x0 x1 x2 x3 x4) = segD Γ_slices_EqualFunc_LMessage tab fn_slices_EqualFunc_LMessage 0 K (goD Γ_slices_EqualFunc_LMessage tab fn_slices_EqualFunc_LMessage 0 K m) (.code (Code.sub (bodyOf fn_slices_EqualFunc_LMessage) [1, 1, 0, 1, 0, 0]) :: slices_EqualFunc_LMessage_0_L0) (slices_EqualFunc_LMessage_0_S0 x0 x1 x2 x3 x4) := rfl

theorem loop_slices_EqualFunc_LMessage_0 (a b : List Vm.Message) (hl : a.length = b.length) (hs : a.length ≤ 140737488355328) (hr : smM a = true) (K : V → List Blk → Prop) : ∀ (d k : Nat), k + d = a.length → K (.one (.dat .bool (sameMsgs (a.drop k) (b.drop k)))) [] →
    goD Γ_slices_EqualFunc_LMessage tab fn_slices_EqualFunc_LMessage 0 K (d + 1) slices_EqualFunc_LMessage_0_L0 (slices_EqualFunc_LMessage_0_S0 (k : Int) (((len a) : Nat) : Int) a false b)
  | 0, k, hk, hK => by
    rw [slices_EqualFunc_LMessage_0_w0, slices_EqualFunc_LMessage_0_vc0 _ _ _ _ _ _ _ _ rfl]
    refine lt_f (by simp only [len]; omega) ?_
    rw [List.drop_of_length_le (by omega), List.drop_of_length_le (by omega)] at hK
    exact hK
  | d + 1, k, hk, hK => by
    rw [slices_EqualFunc_LMessage_0_w0, slices_EqualFunc_LMessage_0_vc0 _ _ _ _ _ _ _ _ rfl, toNat_nat]
    have hm : nth a k (Ty.dflt .message) ∈ a := by
      have : k < a.length := by omega
      simp [nth, List.getD_eq_getElem?_getD, this]
    rw [drop_step (l := a) (by omega) (Ty.dflt .message), drop_step (l := b) (by omega) (Ty.dflt .message)] at hK
    simp only [sameMsgs] at hK
    refine lt_t (by simp only [len]; omega) ⟨⟨by omega, by simp only [len]; omega⟩, ⟨by omega, by simp only [len]; omega⟩, by simpa using List.all_eq_true.1 hr _ hm, nt_s (fun hne => ?_) (fun heq => ?_)⟩
    · rw [show sameMsg (nth a k (Ty.dflt .message)) (nth b k (Ty.dflt .message)) = false from hne] at hK
      exact hK
    · rw [w64_succ (by omega)]
      rw [show sameMsg (nth a k (Ty.dflt .message)) (nth b k (Ty.dflt .message)) = true from heq, Bool.true_and] at hK
      exact loop_slices_EqualFunc_LMessage_0 a b hl hs hr K d (k + 1) (by omega) hK
set_option maxHeartbeats 4000000 in
theorem run_slices_EqualFunc_LMessage_0 (a b : List Vm.Message) (hp : a.length ≤ 140737488355328 ∧ smM a = true) (K : V → List Blk → Prop) (hK : K (.one (.dat .bool (sameMsgs a b))) []) : ∃ m, goD Γ_slices_EqualFunc_LMessage tab fn_slices_EqualFunc_LMessage 0 K m [.code (bodyOf fn_slices_EqualFunc_LMessage)] (initSt [.one (.dat (.list .message) a), .one (.dat (.list .message) b), .one (.fn n_ref_SameMessages_1 [])] []) := by
  refine ⟨a.length + 2, ?_⟩
  rw [slices_EqualFunc_LMessage_0_w, slices_EqualFunc_LMessage_0_vc _ _ _ _]
  refine ne_s (fun h => ?_) (fun h => ?_)
  · rw [sameMsgs_len a b (by simp only [len] at h; omega)] at hK
    exact hK
  · exact loop_slices_EqualFunc_LMessage_0 a b (by simp only [len] at h; omega) hp.1 hp.2 K a.length 0 (by omega) hK
theorem sound_slices_EqualFunc_LMessage : SoundC Tryd.prog tab n_slices_EqualFunc_LMessage c_slices_EqualFunc_LMessage := soundC_of ok_slices_EqualFunc_LMessage hf_slices_EqualFunc_LMessage hB_slices_EqualFunc_LMessage (by
  intro vs bs p v bs' h hp
  unfold c_slices_EqualFunc_LMessage at h
  split at h
  · split at h
    · rename_i hfn
      have hfn := Nat.eq_of_beq_eq_true hfn
      subst hfn
      cases h
      exact ⟨by kernel_rfl, rfl, .inl (run_slices_EqualFunc_LMessage_0 _ _ hp.1 _ ⟨rfl, rfl⟩)⟩
    · cases h
  · cases h)

def c_ref_SameMessages : Contract := fun vs bs => match vs, bs with
  | [.one (.dat (.list .message) a), .one (.dat (.list .message) b)], [] => some (some (a.length ≤ 140737488355328 ∧ smM a = true), .one (.dat .bool (sameMsgs a b)), [])
  | _, _ => none
def Γ_ref_SameMessages : Ctx := [(n_slices_EqualFunc_LMessage, c_slices_EqualFunc_LMessage), (n_ref_SameMessages_1, c_ref_SameMessages_1)]
theorem ok_ref_SameMessages : Ok Tryd.prog tab Γ_ref_SameMessages := ((ok_nil.consC hf_ref_SameMessages_1 hB_ref_SameMessages_1 sound_ref_SameMessages_1).consC hf_slices_EqualFunc_LMessage hB_slices_EqualFunc_LMessage sound_slices_EqualFunc_LMessage)
theorem ref_SameMessages_vc (a : List Message) (b : List Message) (rec : List It → St → Prop) (K : V → List Blk → Prop) v0 (hv0 : v0 = (smM a)) v1 (hv1 : v1 = (sameMsgs a b)) : segD Γ_ref_SameMessages tab fn_ref_SameMessages 0 K rec [.code (bodyOf fn_ref_SameMessages)] (initSt [.one (.dat (Ty.list Ty.message) a), .one (.dat (Ty.list Ty.message) b)] []) = (
    (((List.length a) ≤ 140737488355328) ∧ (v0 = true)) ∧
    (K (.one (.dat Ty.bool v1)) [])) := by subst hv1; subst hv0; kernel_rfl
theorem ref_SameMessages_w (a : List Message) (b : List Message) (m : Nat) (K : V → List Blk → Prop) : goD Γ_ref_SameMessages tab fn_ref_SameMessages 0 K (m + 1) [.code (bodyOf fn_ref_SameMessages)] (initSt [.one (.dat (Ty.list Ty.message) a), .one (.dat (Ty.list Ty.message) b)] []) = segD Γ_ref_SameMessages tab fn_ref_SameMessages 0 K (goD Γ_ref_SameMessages tab fn_ref_SameMessages 0 K m) [.code (bodyOf fn_ref_SameMessages)] (initSt [.one (.dat (Ty.list Ty.message) a), .one (.dat (Ty.list Ty.message) b)] []) := rfl

set_option maxHeartbeats 4000000 in
theorem run_ref_SameMessages (a b : List Vm.Message) (hp : a.length ≤ 140737488355328 ∧ smM a = true) (K : V → List Blk → Prop) (hK : K (.one (.dat .bool (sameMsgs a b))) []) : ∃ m, goD Γ_ref_SameMessages tab fn_ref_SameMessages 0 K m [.code (bodyOf fn_ref_SameMessages)] (initSt [.one (.dat (.list .message) a), .one (.dat (.list .message) b)] []) := by
  refine ⟨1, ?_⟩
  rw [ref_SameMessages_w, ref_SameMessages_vc _ _ _ _ _ rfl _ rfl]
  exact ⟨hp, hK⟩
theorem sound_ref_SameMessages : SoundC Tryd.prog tab n_ref_SameMessages c_ref_SameMessages := soundC_of ok_ref_SameMessages hf_ref_SameMessages hB_ref_SameMessages (by
  intro vs bs p v bs' h hp
  unfold c_ref_SameMessages at h
  split at h
  · cases h
    exact ⟨by kernel_rfl, rfl, .inl (run_ref_SameMessages _ _ hp.1 _ ⟨rfl, rfl⟩)⟩
  · cases h)

def c_law_GateTwice : Contract := fun vs bs => match vs, bs with
  | [.agg [.dat (.list .int) _, .dat .int _, .dat .bool _, .dat .int _, .dat (.list .int) _, .dat .int _, .dat .int _, .dat (.list .bool) _, .dat (.list .bool) _], .agg [.dat .int _, .dat .int _, .dat .int _, .dat .int _, .dat .int _, .dat (.list .int) _, .dat .bool _]], [] => some (none, .one (.dat .bool true), [])
  | _, _ => none
def Γ_law_GateTwice : Ctx := [(n_gate_Hear, c_gate_Hear), (n_law_gated, c_law_gated), (n_ref_SameGate, c_ref_SameGate), (n_ref_SameMessages, c_ref_SameMessages), (n_gate_Read, c_gate_Read), (n_slices_Equal_Lbool, c_slices_Equal_Lbool)]
theorem ok_law_GateTwice : Ok Tryd.prog tab Γ_law_GateTwice := ((((((ok_nil.consC hf_slices_Equal_Lbool hB_slices_Equal_Lbool sound_slices_Equal_Lbool).consC hf_gate_Read hB_gate_Read sound_gate_Read).consC hf_ref_SameMessages hB_ref_SameMessages sound_ref_SameMessages).consC hf_ref_SameGate hB_ref_SameGate sound_ref_SameGate).consC hf_law_gated hB_law_gated sound_law_gated).consC hf_gate_Hear hB_gate_Hear sound_gate_Hear)
theorem law_GateTwice_vc (ws : List Int) (fu : Int) (up : Bool) (tv : Int) (tk : List Int) (tt : Int) (tn : Int) (vo : List Bool) (di : List Bool) (mk : Int) (mu : Int) (mn : Int) (ma : Int) (mi : Int) (mw : List Int) (my : Bool) (rec : List It → St → Prop) (K : V → List Blk → Prop) v0 (hv0 : v0 = (hearG (⟨(⟨ws, (-(1 : Int))⟩ : Vm.Flash), up, (⟨(⟨tv, tk, tt⟩ : Vm.Root), tn⟩ : Vm.Trust), vo, di⟩ : Vm.Gate) (⟨mk, mu, mn, ma, mi, mw, my⟩ : Vm.Message))) v1 (hv1 : v1 = (hearG (⟨(⟨((((v0).fst).fst).f).words, ((((v0).fst).fst).f).fuel⟩ : Vm.Flash), (((v0).fst).fst).up, (⟨(⟨(((((v0).fst).fst).t).r).version, (((((v0).fst).fst).t).r).keys, (((((v0).fst).fst).t).r).thr⟩ : Vm.Root), ((((v0).fst).fst).t).version⟩ : Vm.Trust), (((v0).fst).fst).voted, (((v0).fst).fst).did⟩ : Vm.Gate) (⟨mk, mu, mn, ma, mi, mw, my⟩ : Vm.Message))) v2 (hv2 : v2 = (sameGate (⟨(⟨((((v0).fst).fst).f).words, ((((v0).fst).fst).f).fuel⟩ : Vm.Flash), (((v0).fst).fst).up, (⟨(⟨(((((v0).fst).fst).t).r).version, (((((v0).fst).fst).t).r).keys, (((((v0).fst).fst).t).r).thr⟩ : Vm.Root), ((((v0).fst).fst).t).version⟩ : Vm.Trust), (((v0).fst).fst).voted, (((v0).fst).fst).did⟩ : Vm.Gate) (⟨(⟨((((v1).fst).fst).f).words, ((((v1).fst).fst).f).fuel⟩ : Vm.Flash), (((v1).fst).fst).up, (⟨(⟨(((((v1).fst).fst).t).r).version, (((((v1).fst).fst).t).r).keys, (((((v1).fst).fst).t).r).thr⟩ : Vm.Root), ((((v1).fst).fst).t).version⟩ : Vm.Trust), (((v1).fst).fst).voted, (((v1).fst).fst).did⟩ : Vm.Gate))) v3 (hv3 : v3 = (smM ((v0).fst).snd)) v4 (hv4 : v4 = (sameMsgs ((v0).fst).snd ((v1).fst).snd)) v5 (hv5 : v5 = (readG (⟨(⟨((((v0).fst).fst).f).words, ((((v0).fst).fst).f).fuel⟩ : Vm.Flash), (((v0).fst).fst).up, (⟨(⟨(((((v0).fst).fst).t).r).version, (((((v0).fst).fst).t).r).keys, (((((v0).fst).fst).t).r).thr⟩ : Vm.Root), ((((v0).fst).fst).t).version⟩ : Vm.Trust), (((v0).fst).fst).voted, (((v0).fst).fst).did⟩ : Vm.Gate))) v6 (hv6 : v6 = (readG (⟨(⟨((((v1).fst).fst).f).words, ((((v1).fst).fst).f).fuel⟩ : Vm.Flash), (((v1).fst).fst).up, (⟨(⟨(((((v1).fst).fst).t).r).version, (((((v1).fst).fst).t).r).keys, (((((v1).fst).fst).t).r).thr⟩ : Vm.Root), ((((v1).fst).fst).t).version⟩ : Vm.Trust), (((v1).fst).fst).voted, (((v1).fst).fst).did⟩ : Vm.Gate))) v7 (hv7 : v7 = (eqBs (((v0).fst).fst).voted (((v1).fst).fst).voted)) v8 (hv8 : v8 = (eqBs (((v0).fst).fst).did (((v1).fst).fst).did)) : segD Γ_law_GateTwice tab fn_law_GateTwice 0 K rec [.code (bodyOf fn_law_GateTwice)] (initSt [.agg [.dat (Ty.list Ty.int) ws, .dat Ty.int fu, .dat Ty.bool up, .dat Ty.int tv, .dat (Ty.list Ty.int) tk, .dat Ty.int tt, .dat Ty.int tn, .dat (Ty.list Ty.bool) vo, .dat (Ty.list Ty.bool) di], .agg [.dat Ty.int mk, .dat Ty.int mu, .dat Ty.int mn, .dat Ty.int ma, .dat Ty.int mi, .dat (Ty.list Ty.int) mw, .dat Ty.bool my]] []) = (
    br (!(eqi (v0).snd (0 : Int)))
     (K (.one (.dat Ty.bool true)) [])
     (br (!(eqi (v1).snd (0 : Int)))
       (K (.one (.dat Ty.bool false)) [])
       (br (eqi mk (7 : Int))
         ((((List.length ((((v0).fst).fst).f).words) ≤ 140737488355328) ∧ (((List.length (((((v0).fst).fst).t).r).keys) ≤ 140737488355328) ∧ (((len (((v0).fst).fst).voted) ≤ 140737488355328) ∧ ((len (((v0).fst).fst).did) ≤ 140737488355328)))) ∧
          (br v2
           ((((List.length ((v0).fst).snd) ≤ 140737488355328) ∧ (v3 = true)) ∧
            (K (.one (.dat Ty.bool v4)) []))
           (K (.one (.dat Ty.bool false)) [])))
         (br (eqi (v5).snd (0 : Int))
           (br (eqi (v6).snd (0 : Int))
             (br ((eqi ((v5).fst).n ((v6).fst).n) && ((eqi ((v5).fst).version ((v6).fst).version) && ((eqb ((v5).fst).commit ((v6).fst).commit) && ((eqb ((v5).fst).abort ((v6).fst).abort) && ((eqb ((v5).fst).ended ((v6).fst).ended) && true)))))
               (br (eqi (w64 ((((len ((v0).fst).snd) : Nat) : Int) + (((len ((v1).fst).snd) : Nat) : Int))) (0 : Int))
                 (((len (((v0).fst).fst).voted) ≤ 140737488355328) ∧
                  (br v7
                   (((len (((v0).fst).fst).did) ≤ 140737488355328) ∧
                    (K (.one (.dat Ty.bool v8)) []))
                   (K (.one (.dat Ty.bool false)) [])))
                 (K (.one (.dat Ty.bool false)) []))
               (K (.one (.dat Ty.bool false)) []))
             (K (.one (.dat Ty.bool false)) []))
           (K (.one (.dat Ty.bool false)) []))))) := by subst hv8; subst hv7; subst hv6; subst hv5; subst hv4; subst hv3; subst hv2; subst hv1; subst hv0; kernel_rfl
theorem law_GateTwice_w (ws : List Int) (fu : Int) (up : Bool) (tv : Int) (tk : List Int) (tt : Int) (tn : Int) (vo : List Bool) (di : List Bool) (mk : Int) (mu : Int) (mn : Int) (ma : Int) (mi : Int) (mw : List Int) (my : Bool) (m : Nat) (K : V → List Blk → Prop) : goD Γ_law_GateTwice tab fn_law_GateTwice 0 K (m + 1) [.code (bodyOf fn_law_GateTwice)] (initSt [.agg [.dat (Ty.list Ty.int) ws, .dat Ty.int fu, .dat Ty.bool up, .dat Ty.int tv, .dat (Ty.list Ty.int) tk, .dat Ty.int tt, .dat Ty.int tn, .dat (Ty.list Ty.bool) vo, .dat (Ty.list Ty.bool) di], .agg [.dat Ty.int mk, .dat Ty.int mu, .dat Ty.int mn, .dat Ty.int ma, .dat Ty.int mi, .dat (Ty.list Ty.int) mw, .dat Ty.bool my]] []) = segD Γ_law_GateTwice tab fn_law_GateTwice 0 K (goD Γ_law_GateTwice tab fn_law_GateTwice 0 K m) [.code (bodyOf fn_law_GateTwice)] (initSt [.agg [.dat (Ty.list Ty.int) ws, .dat Ty.int fu, .dat Ty.bool up, .dat Ty.int tv, .dat (Ty.list Ty.int) tk, .dat Ty.int tt, .dat Ty.int tn, .dat (Ty.list Ty.bool) vo, .dat (Ty.list Ty.bool) di], .agg [.dat Ty.int mk, .dat Ty.int mu, .dat Ty.int mn, .dat Ty.int ma, .dat Ty.int mi, .dat (Ty.list Ty.int) mw, .dat Ty.bool my]] []) := rfl

set_option maxHeartbeats 4000000 in
theorem run_law_GateTwice (ws : List Int) (fu : Int) (up : Bool) (tv : Int) (tk : List Int) (tt tn : Int) (vo di : List Bool)(mk mu mn ma mi : Int) (mw : List Int) (my : Bool) (K : V → List Blk → Prop) (hK : K (.one (.dat .bool true)) []) : ∃ m, goD Γ_law_GateTwice tab fn_law_GateTwice 0 K m [.code (bodyOf fn_law_GateTwice)] (initSt [.agg [.dat (.list .int) ws, .dat .int fu, .dat .bool up, .dat .int tv, .dat (.list .int) tk, .dat .int tt, .dat .int tn, .dat (.list .bool) vo, .dat (.list .bool) di], .agg [.dat .int mk, .dat .int mu, .dat .int mn, .dat .int ma, .dat .int mi, .dat (.list .int) mw, .dat .bool my]] []) := by
  refine ⟨1, ?_⟩
  rw [law_GateTwice_w, law_GateTwice_vc _ _ _ _ _ _ _ _ _ _ _ _ _ _ _ _ _ _ _ rfl _ rfl _ rfl _ rfl _ rfl _ rfl _ rfl _ rfl _ rfl]
  refine ne_s (fun _ => hK) (fun g => ?_)
  obtain ⟨cg, cm, g2⟩ := hearG_ok g
  simp only at cm
  have h2 := hearsG_twice (m := ⟨mk, mu, mn, ma, mi, mw, my⟩) cg rfl cm.2.2.1
  have ha := hearsG_all (m := ⟨mk, mu, mn, ma, mi, mw, my⟩) cg cm.2.2.1
  have hl := hearsG_len (m := ⟨mk, mu, mn, ma, mi, mw, my⟩) cg
  rw [g2]
  obtain ⟨z, hz⟩ : ∃ z, hearsG ⟨⟨ws, -1⟩, up, ⟨⟨tv, tk, tt⟩, tn⟩, vo, di⟩ ⟨mk, mu, mn, ma, mi, mw, my⟩ = z := ⟨_, rfl⟩
  rw [hz] at h2 ha hl ⊢
  obtain ⟨x, l⟩ := z
  simp only at h2 ha hl ⊢
  have ex : ∀ x : Vm.Gate, (⟨⟨x.f.words, x.f.fuel⟩, x.up, ⟨⟨x.t.r.version, x.t.r.keys, x.t.r.thr⟩, x.t.version⟩, x.voted, x.did⟩ : Vm.Gate) = x := fun _ => rfl
  have h3 : hearG x ⟨mk, mu, mn, ma, mi, mw, my⟩ = ((x, l), 0) := by rw [hearG_mk ha.1 (by simp only; rw [hl.1]; exact cm), h2.1]
  rw [ex, h3]
  simp only [ex]
  rw [readG_ok ha.1]
  have cx := ha.1
  obtain ⟨s1, s2, s3, s4⟩ := checkG_sm' cx
  simp only [len] at s1 s2 s3 s4
  refine ne_f rfl (eq_s (fun _ => ⟨⟨by omega, by omega, by simp only [len]; omega, by simp only [len]; omega⟩, ?_⟩) (fun k7 => eq_t rfl (eq_t rfl (br_t (by simp [eqi, eqb]) ?_))))
  · rw [sameGate_refl, sameMsgs_refl]
    refine br_t rfl ⟨⟨by have := hl.2.1; omega, hl.2.2⟩, hK⟩
  · have el := h2.2 k7
    subst el
    refine eq_t rfl ⟨by simp only [len]; omega, br_t (by simp [eqBs]) ⟨by simp only [len]; omega, ?_⟩⟩
    rw [show eqBs x.did x.did = true by simp [eqBs]]
    exact hK
theorem sound_law_GateTwice : SoundC Tryd.prog tab n_law_GateTwice c_law_GateTwice := soundC_of ok_law_GateTwice hf_law_GateTwice hB_law_GateTwice (by
  intro vs bs p v bs' h hp
  unfold c_law_GateTwice at h
  split at h
  · cases h
    exact ⟨by kernel_rfl, rfl, .inl (run_law_GateTwice _ _ _ _ _ _ _ _ _ _ _ _ _ _ _ _ _ ⟨rfl, rfl⟩)⟩
  · cases h)
end Go.Proofs.YtlbppjmekiemiacDoor
