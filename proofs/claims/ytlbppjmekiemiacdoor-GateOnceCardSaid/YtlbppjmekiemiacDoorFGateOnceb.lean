/- What the functions of GateOnce compute (part 2 of 2). No condition. -/
import Derived.Test.YtlbppjmekiemiacDoorFGateOncea
import Derived.KernelRfl
namespace Go.Proofs.YtlbppjmekiemiacDoor
open Vm
abbrev n_gate_of_o : Nat := n_gate_of
noncomputable abbrev fn_gate_of_o : Func := fn_gate_of
theorem hf_gate_of_o : Tryd.prog.funcs[n_gate_of_o]? = some fn_gate_of_o := hf_gate_of
theorem hB_gate_of_o : fnB fn_gate_of_o = true := hB_gate_of
def c_gate_of_o : Contract := fun vs bs => match vs, bs with
  | [.agg [.dat (.list .int) ws, .dat .int fu, .dat .bool _, .dat .int _, .dat (.list .int) _, .dat .int _, .dat .int _, .own 0, .own 1]], [.arr .bool vo, .arr .bool di] => some (none, .agg [.dat .int (ofG ⟨ws, fu⟩).n, .dat .int (ofG ⟨ws, fu⟩).version, .dat .bool (ofG ⟨ws, fu⟩).commit, .dat .bool (ofG ⟨ws, fu⟩).abort, .dat .bool (ofG ⟨ws, fu⟩).ended], [.arr .bool vo, .arr .bool di])
  | _, _ => none
def Γ_gate_of_o : Ctx := [(n_log_Records, c_log_Records), (n_gate_state, c_gate_state)]
theorem ok_gate_of_o : Ok Tryd.prog tab Γ_gate_of_o := ((ok_nil.consC hf_gate_state hB_gate_state sound_gate_state).consC hf_log_Records hB_log_Records sound_log_Records)
theorem gate_of_o_vc (ws : List Int) (fu : Int) (up : Bool) (tv : Int) (tk : List Int) (tt : Int) (tn : Int) (vo : List Bool) (di : List Bool) (rec : RK) (K : KK) v0 (hv0 : v0 = (recordsF ⟨ws, fu⟩)) v1 (hv1 : v1 = (nonE v0.fst)) v2 (hv2 : v2 = (stateG v0.fst)) : segD Γ_gate_of_o tab fn_gate_of_o 2 K rec [.code (bodyOf fn_gate_of_o)] (initSt [.agg [dL ws, dI fu, dB up, dI tv, dL tk, dI tt, dI tn, .own 0, .own 1]] [.arr Ty.bool vo, .arr Ty.bool di]) = (
 (((len v0.fst) ≤ 1000) ∧ (v1 = true)) ∧
 (K (.agg [dI v2.n, dI v2.version, dB v2.commit, dB v2.abort, dB v2.ended]) [.arr Ty.bool vo, .arr Ty.bool di])) := by subst_vars; kernel_rfl
theorem gate_of_o_w (m : Nat) (K : KK) (st : St) : goD Γ_gate_of_o tab fn_gate_of_o 2 K (m + 1) [.code (bodyOf fn_gate_of_o)] st = segD Γ_gate_of_o tab fn_gate_of_o 2 K (goD Γ_gate_of_o tab fn_gate_of_o 2 K m) [.code (bodyOf fn_gate_of_o)] st := rfl

set_option maxHeartbeats 4000000 in
theorem run_gate_of_o (ws : List Int) (fu : Int) (up : Bool) (tv : Int) (tk : List Int) (tt tn : Int) (vo di : List Bool) (K : KK) (hK : K (.agg [dI (ofG ⟨ws, fu⟩).n, dI (ofG ⟨ws, fu⟩).version, dB (ofG ⟨ws, fu⟩).commit, dB (ofG ⟨ws, fu⟩).abort, dB (ofG ⟨ws, fu⟩).ended]) [.arr .bool vo, .arr .bool di]) : ∃ m, goD Γ_gate_of_o tab fn_gate_of_o 2 K m [.code (bodyOf fn_gate_of_o)] (initSt [.agg [dL ws, dI fu, dB up, dI tv, dL tk, dI tt, dI tn, .own 0, .own 1]] [.arr .bool vo, .arr .bool di]) := by
  refine ⟨1, ?_⟩
  rw [gate_of_o_w, gate_of_o_vc _ _ _ _ _ _ _ _ _ _ _ _ rfl _ rfl _ rfl]
  have h := recordsF_ok2 ⟨ws, fu⟩
  exact ⟨⟨by simp only [len]; omega, nonE_of h.2⟩, hK⟩
theorem sound_gate_of_o : SoundC Tryd.prog tab n_gate_of_o c_gate_of_o := soundC_of ok_gate_of_o hf_gate_of_o hB_gate_of_o (by
  intro vs bs p v bs' h hp
  unfold c_gate_of_o at h
  split at h
  · cases h
    exact ⟨by kernel_rfl, rfl, .inl (run_gate_of_o _ _ _ _ _ _ _ _ _ _ ⟨rfl, rfl⟩)⟩
  · cases h)

def c_gate_keep : Contract := fun vs bs => match vs, bs with
  | [.agg [.dat .int gn, .dat .int gv, .dat .bool gc, .dat .bool ga, .dat .bool ge]], [] => some (none, .one (.dat (.list (.list .int)) (keepG ⟨gn, gv, gc, ga, ge⟩)), [])
  | _, _ => none
def Γ_gate_keep : Ctx := []
theorem ok_gate_keep : Ok Tryd.prog tab Γ_gate_keep := ok_nil
theorem gate_keep_vc (gn : Int) (gv : Int) (gc : Bool) (ga : Bool) (ge : Bool) (rec : RK) (K : KK) : segD Γ_gate_keep tab fn_gate_keep 0 K rec [.code (bodyOf fn_gate_keep)] (initSt [.agg [dI gn, dI gv, dB gc, dB ga, dB ge]] []) = (
 br (eqi gn (0 : Int))
 (K (.one (dR [])) [])
 (br gc
 (((((len (((1 : Int) :: (gn :: (gv :: []))) :: [])) + (len (((2 : Int) :: (gn :: [])) :: []))) * 24) ≤ 140737488355328) ∧
 (br ga
 (((((len (cat (((1 : Int) :: (gn :: (gv :: []))) :: []) (((2 : Int) :: (gn :: [])) :: []))) + (len (((3 : Int) :: (gn :: [])) :: []))) * 24) ≤ 140737488355328) ∧
 (br ge
 (((((len (cat (cat (((1 : Int) :: (gn :: (gv :: []))) :: []) (((2 : Int) :: (gn :: [])) :: [])) (((3 : Int) :: (gn :: [])) :: []))) + (len (((4 : Int) :: (gn :: [])) :: []))) * 24) ≤ 140737488355328) ∧
 (K (.one (dR (cat (cat (cat (((1 : Int) :: (gn :: (gv :: []))) :: []) (((2 : Int) :: (gn :: [])) :: [])) (((3 : Int) :: (gn :: [])) :: [])) (((4 : Int) :: (gn :: [])) :: [])))) []))
 (K (.one (dR (cat (cat (((1 : Int) :: (gn :: (gv :: []))) :: []) (((2 : Int) :: (gn :: [])) :: [])) (((3 : Int) :: (gn :: [])) :: [])))) [])))
 (br ge
 (((((len (cat (((1 : Int) :: (gn :: (gv :: []))) :: []) (((2 : Int) :: (gn :: [])) :: []))) + (len (((4 : Int) :: (gn :: [])) :: []))) * 24) ≤ 140737488355328) ∧
 (K (.one (dR (cat (cat (((1 : Int) :: (gn :: (gv :: []))) :: []) (((2 : Int) :: (gn :: [])) :: [])) (((4 : Int) :: (gn :: [])) :: [])))) []))
 (K (.one (dR (cat (((1 : Int) :: (gn :: (gv :: []))) :: []) (((2 : Int) :: (gn :: [])) :: [])))) []))))
 (br ga
 (((((len (((1 : Int) :: (gn :: (gv :: []))) :: [])) + (len (((3 : Int) :: (gn :: [])) :: []))) * 24) ≤ 140737488355328) ∧
 (br ge
 (((((len (cat (((1 : Int) :: (gn :: (gv :: []))) :: []) (((3 : Int) :: (gn :: [])) :: []))) + (len (((4 : Int) :: (gn :: [])) :: []))) * 24) ≤ 140737488355328) ∧
 (K (.one (dR (cat (cat (((1 : Int) :: (gn :: (gv :: []))) :: []) (((3 : Int) :: (gn :: [])) :: [])) (((4 : Int) :: (gn :: [])) :: [])))) []))
 (K (.one (dR (cat (((1 : Int) :: (gn :: (gv :: []))) :: []) (((3 : Int) :: (gn :: [])) :: [])))) [])))
 (br ge
 (((((len (((1 : Int) :: (gn :: (gv :: []))) :: [])) + (len (((4 : Int) :: (gn :: [])) :: []))) * 24) ≤ 140737488355328) ∧
 (K (.one (dR (cat (((1 : Int) :: (gn :: (gv :: []))) :: []) (((4 : Int) :: (gn :: [])) :: [])))) []))
 (K (.one (dR (((1 : Int) :: (gn :: (gv :: []))) :: []))) []))))) := by kernel_rfl
theorem gate_keep_w (m : Nat) (K : KK) (st : St) : goD Γ_gate_keep tab fn_gate_keep 0 K (m + 1) [.code (bodyOf fn_gate_keep)] st = segD Γ_gate_keep tab fn_gate_keep 0 K (goD Γ_gate_keep tab fn_gate_keep 0 K m) [.code (bodyOf fn_gate_keep)] st := rfl

set_option maxHeartbeats 4000000 in
theorem run_gate_keep (gn gv : Int) (gc ga ge : Bool) (K : KK) (hK : K (.one (dR (keepG ⟨gn, gv, gc, ga, ge⟩))) []) : ∃ m, goD Γ_gate_keep tab fn_gate_keep 0 K m [.code (bodyOf fn_gate_keep)] (initSt [.agg [dI gn, dI gv, dB gc, dB ga, dB ge]] []) := by
  refine ⟨1, ?_⟩
  rw [gate_keep_w, gate_keep_vc _ _ _ _ _ _ _]
  unfold keepG at hK
  refine eq_s (fun h => ?_) (fun h => ?_)
  · rw [if_pos (by exact h)] at hK; exact hK
  · rw [if_neg (by exact h)] at hK
    cases gc <;> cases ga <;> cases ge
    · exact br_f rfl (br_f rfl (br_f rfl hK))
    · exact br_f rfl (br_f rfl (br_t rfl ⟨by simp [len], hK⟩))
    · exact br_f rfl (br_t rfl ⟨by simp [len], br_f rfl hK⟩)
    · exact br_f rfl (br_t rfl ⟨by simp [len], br_t rfl ⟨by simp [len, cat], hK⟩⟩)
    · exact br_t rfl ⟨by simp [len], br_f rfl (br_f rfl hK)⟩
    · exact br_t rfl ⟨by simp [len], br_f rfl (br_t rfl ⟨by simp [len, cat], hK⟩)⟩
    · exact br_t rfl ⟨by simp [len], br_t rfl ⟨by simp [len, cat], br_f rfl hK⟩⟩
    · exact br_t rfl ⟨by simp [len], br_t rfl ⟨by simp [len, cat], br_t rfl ⟨by simp [len, cat], hK⟩⟩⟩
theorem sound_gate_keep : SoundC Tryd.prog tab n_gate_keep c_gate_keep := soundC_of ok_gate_keep hf_gate_keep hB_gate_keep (by
  intro vs bs p v bs' h hp
  unfold c_gate_keep at h
  split at h
  · cases h
    exact ⟨by kernel_rfl, rfl, .inl (run_gate_keep _ _ _ _ _ _ ⟨rfl, rfl⟩)⟩
  · cases h)

def c_log_check_1 : Contract := fun vs bs => match vs, bs with
  | [.one (.dat .int w)], [] => some (none, .one (.dat .bool (!okWord w)), [])
  | _, _ => none
def Γ_log_check_1 : Ctx := []
theorem ok_log_check_1 : Ok Tryd.prog tab Γ_log_check_1 := ok_nil
theorem log_check_1_vc (w : Int) (rec : RK) (K : KK) : segD Γ_log_check_1 tab fn_log_check_1 0 K rec [.code (bodyOf fn_log_check_1)] (initSt [.one (dI w)] []) = (
 br (lti w (0 : Int))
 (K vT [])
 (K (.one (dB (lti (65535 : Int) w))) [])) := by kernel_rfl
theorem log_check_1_w (m : Nat) (K : KK) (st : St) : goD Γ_log_check_1 tab fn_log_check_1 0 K (m + 1) [.code (bodyOf fn_log_check_1)] st = segD Γ_log_check_1 tab fn_log_check_1 0 K (goD Γ_log_check_1 tab fn_log_check_1 0 K m) [.code (bodyOf fn_log_check_1)] st := rfl

set_option maxHeartbeats 4000000 in
theorem run_log_check_1 (w : Int) (K : KK) (hK : K (.one (dB (!okWord w))) []) : ∃ m, goD Γ_log_check_1 tab fn_log_check_1 0 K m [.code (bodyOf fn_log_check_1)] (initSt [.one (dI w)] []) := by
  refine ⟨1, ?_⟩
  rw [log_check_1_w, log_check_1_vc _ _ _]
  refine lt_s (fun h => ?_) (fun h => ?_)
  · rw [show (!okWord w) = true from by simp [okWord]; omega] at hK; exact hK
  · rw [show (!okWord w) = lti 65535 w from by simp [okWord, lti, h]; by_cases h2 : w ≤ 65535 <;> simp [h2] <;> omega] at hK; exact hK
theorem sound_log_check_1 : SoundC Tryd.prog tab n_log_check_1 c_log_check_1 := soundC_of ok_log_check_1 hf_log_check_1 hB_log_check_1 (by
  intro vs bs p v bs' h hp
  unfold c_log_check_1 at h
  split at h
  · cases h
    exact ⟨by kernel_rfl, rfl, .inl (run_log_check_1 _ _ ⟨rfl, rfl⟩)⟩
  · cases h)

def c_slices_IndexFunc_Record : Contract := fun vs bs => match vs, bs with
  | [.one (.dat (.list .int) l), .one (.fn f [])], [] => (match Nat.beq f n_log_check_1 with | true => some (some (Sm l), .one (.dat .int (firstBad l)), []) | false => none)
  | _, _ => none
def Γ_slices_IndexFunc_Record : Ctx := [(n_log_check_1, c_log_check_1)]
theorem ok_slices_IndexFunc_Record : Ok Tryd.prog tab Γ_slices_IndexFunc_Record := (ok_nil.consC hf_log_check_1 hB_log_check_1 sound_log_check_1)
noncomputable def slices_IndexFunc_Record_0_L0 : List It := [.inLoop [8, 7, 4, 0, 1] (Code.sub (bodyOf fn_slices_IndexFunc_Record) [1, 0, 1, 0, 0]), .inBlock 0, .code (Code.sub (bodyOf fn_slices_IndexFunc_Record) [1, 1])]
def slices_IndexFunc_Record_0_S0 (x0 : Int) (x1 : Int) (x2 : Int) (x3 : (List Int)) : St := ⟨[(8, .one (dI x0)), (7, .one (dI x1)), (4, .one (dI x2)), (0, .one (dL x3)), (1, .one (.fn n_log_check_1 []))], [], 0⟩
theorem slices_IndexFunc_Record_0_vc (l : List Int) (rec : RK) (K : KK) : segD Γ_slices_IndexFunc_Record tab fn_slices_IndexFunc_Record 0 K rec [.code (bodyOf fn_slices_IndexFunc_Record)] (initSt [.one (dL l), .one (.fn n_log_check_1 [])] []) = (
 rec slices_IndexFunc_Record_0_L0 (slices_IndexFunc_Record_0_S0 (0 : Int) (((len l) : Nat) : Int) (0 : Int) l)) := by kernel_rfl
theorem slices_IndexFunc_Record_0_w (m : Nat) (K : KK) (st : St) : goD Γ_slices_IndexFunc_Record tab fn_slices_IndexFunc_Record 0 K (m + 1) [.code (bodyOf fn_slices_IndexFunc_Record)] st = segD Γ_slices_IndexFunc_Record tab fn_slices_IndexFunc_Record 0 K (goD Γ_slices_IndexFunc_Record tab fn_slices_IndexFunc_Record 0 K m) [.code (bodyOf fn_slices_IndexFunc_Record)] st := rfl
theorem slices_IndexFunc_Record_0_vc0 (x0 : Int) (x1 : Int) (x2 : Int) (x3 : (List Int)) (rec : RK) (K : KK) v0 (hv0 : v0 = (okWord (nth x3 (Int.toNat x0) (Ty.dflt Ty.int)))) : segD Γ_slices_IndexFunc_Record tab fn_slices_IndexFunc_Record 0 K rec (.code (Code.sub (bodyOf fn_slices_IndexFunc_Record) [1, 0, 1, 0, 0]) :: slices_IndexFunc_Record_0_L0) (slices_IndexFunc_Record_0_S0 x0 x1 x2 x3) = (
 br (lti x0 x1)
 ((((0 : Int) ≤ x0) ∧ (x0 < (((len x3) : Nat) : Int))) ∧
 (br (!v0)
 (K (.one (dI x0)) [])
 (rec slices_IndexFunc_Record_0_L0 (slices_IndexFunc_Record_0_S0 (w64 (x0 + (1 : Int))) x1 x2 x3))))
 (K (.one (dI (-(1 : Int)))) [])) := by subst_vars; kernel_rfl
theorem slices_IndexFunc_Record_0_w0 (m : Nat) (K : KK) (st : St) : goD Γ_slices_IndexFunc_Record tab fn_slices_IndexFunc_Record 0 K (m + 1) slices_IndexFunc_Record_0_L0 st = segD Γ_slices_IndexFunc_Record tab fn_slices_IndexFunc_Record 0 K (goD Γ_slices_IndexFunc_Record tab fn_slices_IndexFunc_Record 0 K m) (.code (Code.sub (bodyOf fn_slices_IndexFunc_Record) [1, 0, 1, 0, 0]) :: slices_IndexFunc_Record_0_L0) st := rfl

theorem loop_slices_IndexFunc_Record_0 (l : List Int) (hs : Sm l) (K : KK) : ∀ (d k : Nat), k + d = l.length → K (.one (dI (firstBadFrom k (l.drop k)))) [] →
    goD Γ_slices_IndexFunc_Record tab fn_slices_IndexFunc_Record 0 K (d + 1) slices_IndexFunc_Record_0_L0 (slices_IndexFunc_Record_0_S0 (k : Int) (((len l) : Nat) : Int) 0 l)
  | 0, k, hk, hK => by
    rw [slices_IndexFunc_Record_0_w0, slices_IndexFunc_Record_0_vc0 _ _ _ _ _ _ _ rfl]
    refine lt_f (by simp only [len]; omega) ?_
    rw [List.drop_of_length_le (by omega)] at hK
    exact hK
  | d + 1, k, hk, hK => by
    have hs' := hs
    unfold Sm at hs'
    rw [slices_IndexFunc_Record_0_w0, slices_IndexFunc_Record_0_vc0 _ _ _ _ _ _ _ rfl]
    rw [drop_step (by omega) (Ty.dflt Ty.int)] at hK
    simp only [firstBadFrom] at hK
    refine lt_t (by simp only [len]; omega) ⟨⟨by omega, by simp only [len]; omega⟩, nt_s (fun h => ?_) (fun h => ?_)⟩
    · rw [toNat_nat] at h
      rw [if_neg (by rw [h]; simp)] at hK
      exact hK
    · rw [toNat_nat] at h
      rw [if_pos h] at hK
      rw [w64_succ (by omega)]
      exact loop_slices_IndexFunc_Record_0 l hs K d (k + 1) (by omega) hK
set_option maxHeartbeats 4000000 in
theorem run_slices_IndexFunc_Record_0 (l : List Int) (hp : Sm l) (K : KK) (hK : K (.one (dI (firstBad l))) []) : ∃ m, goD Γ_slices_IndexFunc_Record tab fn_slices_IndexFunc_Record 0 K m [.code (bodyOf fn_slices_IndexFunc_Record)] (initSt [.one (dL l), .one (.fn n_log_check_1 [])] []) := by
  refine ⟨l.length + 2, ?_⟩
  rw [slices_IndexFunc_Record_0_w, slices_IndexFunc_Record_0_vc _ _ _]
  exact loop_slices_IndexFunc_Record_0 l hp K l.length 0 (by omega) hK
theorem sound_slices_IndexFunc_Record : SoundC Tryd.prog tab n_slices_IndexFunc_Record c_slices_IndexFunc_Record := soundC_of ok_slices_IndexFunc_Record hf_slices_IndexFunc_Record hB_slices_IndexFunc_Record (by
  intro vs bs p v bs' h hp
  unfold c_slices_IndexFunc_Record at h
  split at h
  · split at h
    · rename_i hfn
      have hfn := Nat.eq_of_beq_eq_true hfn
      subst hfn
      cases h
      exact ⟨by kernel_rfl, rfl, .inl (run_slices_IndexFunc_Record_0 _ hp.1 _ ⟨rfl, rfl⟩)⟩
    · cases h
  · cases h)

def c_slices_ContainsFunc_Record : Contract := fun vs bs => match vs, bs with
  | [.one (.dat (.list .int) l), .one (.fn f [])], [] => (match Nat.beq f n_log_check_1 with | true => some (some (Sm l), .one (.dat .bool (!okWords l)), []) | false => none)
  | _, _ => none
def Γ_slices_ContainsFunc_Record : Ctx := [(n_slices_IndexFunc_Record, c_slices_IndexFunc_Record), (n_log_check_1, c_log_check_1)]
theorem ok_slices_ContainsFunc_Record : Ok Tryd.prog tab Γ_slices_ContainsFunc_Record := ((ok_nil.consC hf_log_check_1 hB_log_check_1 sound_log_check_1).consC hf_slices_IndexFunc_Record hB_slices_IndexFunc_Record sound_slices_IndexFunc_Record)
theorem slices_ContainsFunc_Record_0_vc (l : List Int) (rec : RK) (K : KK) v0 (hv0 : v0 = (firstBad l)) : segD Γ_slices_ContainsFunc_Record tab fn_slices_ContainsFunc_Record 0 K rec [.code (bodyOf fn_slices_ContainsFunc_Record)] (initSt [.one (dL l), .one (.fn n_log_check_1 [])] []) = (
 ((List.length l) ≤ 140737488355328) ∧
 (K (.one (dB (lei (0 : Int) v0))) [])) := by subst_vars; kernel_rfl
theorem slices_ContainsFunc_Record_0_w (m : Nat) (K : KK) (st : St) : goD Γ_slices_ContainsFunc_Record tab fn_slices_ContainsFunc_Record 0 K (m + 1) [.code (bodyOf fn_slices_ContainsFunc_Record)] st = segD Γ_slices_ContainsFunc_Record tab fn_slices_ContainsFunc_Record 0 K (goD Γ_slices_ContainsFunc_Record tab fn_slices_ContainsFunc_Record 0 K m) [.code (bodyOf fn_slices_ContainsFunc_Record)] st := rfl

theorem firstBad_slices_ContainsFunc_Record : ∀ (l : List Int) (k : Int), 0 ≤ k → lei 0 (firstBadFrom k l) = !okWords l
  | [], k, hk => by simp [firstBadFrom, okWords, lei]
  | w :: l, k, hk => by
    simp only [firstBadFrom, okWords, List.all_cons]
    cases h : okWord w with
    | true => simpa [okWords] using firstBad_slices_ContainsFunc_Record l (k + 1) (by omega)
    | false => simp [lei, hk]
set_option maxHeartbeats 4000000 in
theorem run_slices_ContainsFunc_Record_0 (l : List Int) (hp : Sm l) (K : KK) (hK : K (.one (dB (!okWords l))) []) : ∃ m, goD Γ_slices_ContainsFunc_Record tab fn_slices_ContainsFunc_Record 0 K m [.code (bodyOf fn_slices_ContainsFunc_Record)] (initSt [.one (dL l), .one (.fn n_log_check_1 [])] []) := by
  refine ⟨1, ?_⟩
  rw [slices_ContainsFunc_Record_0_w, slices_ContainsFunc_Record_0_vc _ _ _ _ rfl]
  refine ⟨hp, ?_⟩
  rw [show lei 0 (firstBad l) = !okWords l from firstBad_slices_ContainsFunc_Record l 0 (by omega)]
  exact hK
theorem sound_slices_ContainsFunc_Record : SoundC Tryd.prog tab n_slices_ContainsFunc_Record c_slices_ContainsFunc_Record := soundC_of ok_slices_ContainsFunc_Record hf_slices_ContainsFunc_Record hB_slices_ContainsFunc_Record (by
  intro vs bs p v bs' h hp
  unfold c_slices_ContainsFunc_Record at h
  split at h
  · split at h
    · rename_i hfn
      have hfn := Nat.eq_of_beq_eq_true hfn
      subst hfn
      cases h
      exact ⟨by kernel_rfl, rfl, .inl (run_slices_ContainsFunc_Record_0 _ hp.1 _ ⟨rfl, rfl⟩)⟩
    · cases h
  · cases h)

def c_log_check : Contract := fun vs bs => match vs, bs with
  | [.one (.dat (.list .int) l)], [] => some (some (Sm l), .one (.dat .int (checkRec l)), [])
  | _, _ => none
def Γ_log_check : Ctx := [(n_slices_ContainsFunc_Record, c_slices_ContainsFunc_Record), (n_log_check_1, c_log_check_1)]
theorem ok_log_check : Ok Tryd.prog tab Γ_log_check := ((ok_nil.consC hf_log_check_1 hB_log_check_1 sound_log_check_1).consC hf_slices_ContainsFunc_Record hB_slices_ContainsFunc_Record sound_slices_ContainsFunc_Record)
theorem log_check_vc (l : List Int) (rec : RK) (K : KK) v0 (hv0 : v0 = (okWords l)) : segD Γ_log_check tab fn_log_check 0 K rec [.code (bodyOf fn_log_check)] (initSt [.one (dL l)] []) = (
 br (eqi (((len l) : Nat) : Int) (0 : Int))
 (K (.one (dI (2 : Int))) [])
 (br (lti (4 : Int) (((len l) : Nat) : Int))
 (K (.one (dI (2 : Int))) [])
 (((List.length l) ≤ 140737488355328) ∧
 (br (!v0)
 (K (.one (dI (3 : Int))) [])
 (K (.one (dI (0 : Int))) []))))) := by subst_vars; kernel_rfl
theorem log_check_w (m : Nat) (K : KK) (st : St) : goD Γ_log_check tab fn_log_check 0 K (m + 1) [.code (bodyOf fn_log_check)] st = segD Γ_log_check tab fn_log_check 0 K (goD Γ_log_check tab fn_log_check 0 K m) [.code (bodyOf fn_log_check)] st := rfl

set_option maxHeartbeats 4000000 in
theorem run_log_check (l : List Int) (hp : Sm l) (K : KK) (hK : K (.one (dI (checkRec l))) []) : ∃ m, goD Γ_log_check tab fn_log_check 0 K m [.code (bodyOf fn_log_check)] (initSt [.one (dL l)] []) := by
  refine ⟨1, ?_⟩
  rw [log_check_w, log_check_vc _ _ _ _ rfl]
  unfold checkRec at hK
  refine eq_s (fun h => ?_) (fun h => lt_s (fun h2 => ?_) (fun h2 => ⟨hp, nt_s (fun h3 => ?_) (fun h3 => ?_)⟩))
  · rw [if_neg (by simp only [len] at h; omega)] at hK; exact hK
  · rw [if_neg (by simp only [len] at h2; omega)] at hK; exact hK
  · rw [if_pos (by simp only [len] at h h2; omega), if_neg (by rw [h3]; simp)] at hK; exact hK
  · rw [if_pos (by simp only [len] at h h2; omega), if_pos h3] at hK; exact hK
theorem sound_log_check : SoundC Tryd.prog tab n_log_check c_log_check := soundC_of ok_log_check hf_log_check hB_log_check (by
  intro vs bs p v bs' h hp
  unfold c_log_check at h
  split at h
  · cases h
    exact ⟨by kernel_rfl, rfl, .inl (run_log_check _ hp.1 _ ⟨rfl, rfl⟩)⟩
  · cases h)

def c_slices_Clone_LRecord : Contract := fun vs bs => match vs, bs with
  | [.one (.dat (.list (.list .int)) l)], [] => some (some (len l * 24 ≤ 140737488355328), .one (.own 0), [.arr (.list .int) l])
  | _, _ => none
def Γ_slices_Clone_LRecord : Ctx := []
theorem ok_slices_Clone_LRecord : Ok Tryd.prog tab Γ_slices_Clone_LRecord := ok_nil
theorem slices_Clone_LRecord_vc (l : List (List Int)) (rec : RK) (K : KK) : segO Γ_slices_Clone_LRecord tab fn_slices_Clone_LRecord 0 K rec [.code (bodyOf fn_slices_Clone_LRecord)] (initSt [.one (dR l)] []) = (
 (∀ bn : Bool, (((bn = true) → ((len l) = 0)) → br bn
 (K (.one (.own 0)) [.arr (Ty.list Ty.int) []])
 ((((0 + (len l)) * 24) ≤ 140737488355328) ∧
 (K (.one (.own 0)) [.arr (Ty.list Ty.int) (cat [] l)]))))) := by kernel_rfl
theorem slices_Clone_LRecord_w (m : Nat) (K : KK) (st : St) : goO Γ_slices_Clone_LRecord tab fn_slices_Clone_LRecord 0 K (m + 1) [.code (bodyOf fn_slices_Clone_LRecord)] st = segO Γ_slices_Clone_LRecord tab fn_slices_Clone_LRecord 0 K (goO Γ_slices_Clone_LRecord tab fn_slices_Clone_LRecord 0 K m) [.code (bodyOf fn_slices_Clone_LRecord)] st := rfl

set_option maxHeartbeats 4000000 in
theorem run_slices_Clone_LRecord (l : List (List Int)) (hp : len l * 24 ≤ 140737488355328) (K : KK) (hK : K (.one (.own 0)) [.arr (.list .int) l]) : ∃ m, goO Γ_slices_Clone_LRecord tab fn_slices_Clone_LRecord 0 K m [.code (bodyOf fn_slices_Clone_LRecord)] (initSt [.one (dR l)] []) := by
  refine ⟨1, ?_⟩
  rw [slices_Clone_LRecord_w, slices_Clone_LRecord_vc _ _ _]
  intro bn hb
  refine br_split (fun h => ?_) (fun h => ⟨by simp only [len] at hp ⊢; omega, hK⟩)
  have : l = [] := List.length_eq_zero_iff.1 (hb h)
  subst this
  exact hK
theorem sound_slices_Clone_LRecord : SoundC Tryd.prog tab n_slices_Clone_LRecord c_slices_Clone_LRecord := soundC_of ok_slices_Clone_LRecord hf_slices_Clone_LRecord hB_slices_Clone_LRecord (by
  intro vs bs p v bs' h hp
  unfold c_slices_Clone_LRecord at h
  split at h
  · cases h
    exact ⟨by kernel_rfl, rfl, .inr (.inl (run_slices_Clone_LRecord _ hp.1 _ ⟨rfl, rfl⟩))⟩
  · cases h)

def c_log_head : Contract := fun vs bs => match vs, bs with
  | [.one (.dat .int n)], [] => some (some (0 ≤ n ∧ n ≤ 255), .one (.dat .int (42240 + n)), [])
  | _, _ => none
def Γ_log_head : Ctx := []
theorem ok_log_head : Ok Tryd.prog tab Γ_log_head := ok_nil
theorem log_head_vc (n : Int) (rec : RK) (K : KK) : segD Γ_log_head tab fn_log_head 0 K rec [.code (bodyOf fn_log_head)] (initSt [.one (dI n)] []) = (
 K (.one (dI (ori (42240 : Int) n))) []) := by kernel_rfl
theorem log_head_w (m : Nat) (K : KK) (st : St) : goD Γ_log_head tab fn_log_head 0 K (m + 1) [.code (bodyOf fn_log_head)] st = segD Γ_log_head tab fn_log_head 0 K (goD Γ_log_head tab fn_log_head 0 K m) [.code (bodyOf fn_log_head)] st := rfl

set_option maxHeartbeats 4000000 in
theorem run_log_head (n : Int) (hp : 0 ≤ n ∧ n ≤ 255) (K : KK) (hK : K (.one (dI (42240 + n))) []) : ∃ m, goD Γ_log_head tab fn_log_head 0 K m [.code (bodyOf fn_log_head)] (initSt [.one (dI n)] []) := by
  refine ⟨1, ?_⟩
  rw [log_head_w, log_head_vc _ _ _, ori_head hp.1 hp.2]
  exact hK
theorem sound_log_head : SoundC Tryd.prog tab n_log_head c_log_head := soundC_of ok_log_head hf_log_head hB_log_head (by
  intro vs bs p v bs' h hp
  unfold c_log_head at h
  split at h
  · cases h
    exact ⟨by kernel_rfl, rfl, .inl (run_log_head _ hp.1 _ ⟨rfl, rfl⟩)⟩
  · cases h)

def c_log_words : Contract := fun vs bs => match vs, bs with
  | [.one (.dat (.list .int) l)], [] => some (some (len l ≤ 255), .one (.dat (.list .int) (recW l)), [])
  | _, _ => none
def Γ_log_words : Ctx := [(n_log_head, c_log_head)]
theorem ok_log_words : Ok Tryd.prog tab Γ_log_words := (ok_nil.consC hf_log_head hB_log_head sound_log_head)
theorem log_words_vc (l : List Int) (rec : RK) (K : KK) : segD Γ_log_words tab fn_log_words 0 K rec [.code (bodyOf fn_log_words)] (initSt [.one (dL l)] []) = (
 (((0 : Int) ≤ (((len l) : Nat) : Int)) ∧ ((((len l) : Nat) : Int) ≤ (255 : Int))) ∧
 (((((len (((42240 : Int) + (((len l) : Nat) : Int)) :: [])) + (len l)) * 8) ≤ 140737488355328) ∧
 (K (.one (dL (cat (((42240 : Int) + (((len l) : Nat) : Int)) :: []) l))) []))) := by kernel_rfl
theorem log_words_w (m : Nat) (K : KK) (st : St) : goD Γ_log_words tab fn_log_words 0 K (m + 1) [.code (bodyOf fn_log_words)] st = segD Γ_log_words tab fn_log_words 0 K (goD Γ_log_words tab fn_log_words 0 K m) [.code (bodyOf fn_log_words)] st := rfl

set_option maxHeartbeats 4000000 in
theorem run_log_words (l : List Int) (hp : len l ≤ 255) (K : KK) (hK : K (.one (dL (recW l))) []) : ∃ m, goD Γ_log_words tab fn_log_words 0 K m [.code (bodyOf fn_log_words)] (initSt [.one (dL l)] []) := by
  refine ⟨1, ?_⟩
  rw [log_words_w, log_words_vc _ _ _]
  exact ⟨⟨by omega, by omega⟩, by simp only [len, List.length_cons, List.length_nil] at hp ⊢; omega, hK⟩
theorem sound_log_words : SoundC Tryd.prog tab n_log_words c_log_words := soundC_of ok_log_words hf_log_words hB_log_words (by
  intro vs bs p v bs' h hp
  unfold c_log_words at h
  split at h
  · cases h
    exact ⟨by kernel_rfl, rfl, .inl (run_log_words _ hp.1 _ ⟨rfl, rfl⟩)⟩
  · cases h)

def c_log_Append : Contract := fun vs bs => match vs, bs with
  | [.agg [.dat (.list .int) ws, .dat .int fu], .one (.dat (.list .int) r), .one (.dat (.list (.list .int)) keep)], [] => some (some (Sm r ∧ len keep * 24 ≤ 140737488351232 ∧ smR keep = true), .tup [.agg [.dat (.list .int) (appendF ⟨ws, fu⟩ r keep).1.words, .dat .int (appendF ⟨ws, fu⟩ r keep).1.fuel], .one (.dat .int (appendF ⟨ws, fu⟩ r keep).2)], [])
  | _, _ => none
def Γ_log_Append : Ctx := [(n_log_Check, c_log_Check), (n_log_check, c_log_check), (n_slices_Clone_LRecord, c_slices_Clone_LRecord), (n_log_words, c_log_words), (n_log_live, c_log_live), (n_flash_Copy, c_flash_Copy), (n_log_scan, (weakC c_log_scan)), (n_flash_Burn, (orC c_flash_Burn c_flash_Burn_b)), (n_flash_Wipe, c_flash_Wipe)]
theorem ok_log_Append : Ok Tryd.prog tab Γ_log_Append := (((((((((ok_nil.consC hf_flash_Wipe hB_flash_Wipe sound_flash_Wipe).consC hf_flash_Burn hB_flash_Burn (soundC_or sound_flash_Burn sound_flash_Burn_b)).consC hf_log_scan hB_log_scan (soundC_weak sound_log_scan)).consC hf_flash_Copy hB_flash_Copy sound_flash_Copy).consC hf_log_live hB_log_live sound_log_live).consC hf_log_words hB_log_words sound_log_words).consC hf_slices_Clone_LRecord hB_slices_Clone_LRecord sound_slices_Clone_LRecord).consC hf_log_check hB_log_check sound_log_check).consC hf_log_Check hB_log_Check sound_log_Check)
noncomputable def log_Append_L0 : List It := [.inLoop [40, 39, 38, 10, 7, 6, 3, 1] (Code.sub (bodyOf fn_log_Append) [1, 1, 1, 1, 0, 1, 0, 0]), .inBlock 0, .code (Code.sub (bodyOf fn_log_Append) [1, 1, 1, 1, 1])]
def log_Append_S0 (x0 : Int) (x1 : Int) (x2 : Int) (x3 : (List Int)) (x4 : (List (List Int))) (x5 : (List Int)) (x6 : Int) (x7 : (List Int)) (x8 : Int) (x9 : (List Int)) : St := ⟨[(40, .one (dI x0)), (39, .one (dI x1)), (38, .one (.own 0)), (10, .one (.own 1)), (7, .one (dI x2)), (6, .one (.ptr 2 0)), (3, .one (.ptr 3 0)), (1, .one (dL x3))], [(0, .arr (Ty.list Ty.int) x4), (1, .arr Ty.int x5), (2, .box [.own 4, dI x6]), (3, .box [dL x7, dI x8]), (4, .arr Ty.int x9)], 5⟩
theorem log_Append_vc (ws : List Int) (fu : Int) (r : List Int) (keep : List (List Int)) (rec : RK) (K : KK) v0 (hv0 : v0 = (checkLog (⟨ws, fu⟩ : Flash))) v1 (hv1 : v1 = (checkRec r)) : segD Γ_log_Append tab fn_log_Append 0 K rec [.code (bodyOf fn_log_Append)] (initSt [.agg [dL ws, dI fu], .one (dL r), .one (dR keep)] []) = (
 br (!(eqi v0 (0 : Int)))
 (K (.tup [.agg [dL [], dI (0 : Int)], .one (dI v0)]) [])
 (((List.length r) ≤ 140737488355328) ∧
 (br (!(eqi v1 (0 : Int)))
 (K (.tup [.agg [dL [], dI (0 : Int)], .one (dI v1)]) [])
 ((((len keep) * 24) ≤ 140737488355328) ∧
 (((((len keep) + (len (r :: []))) * 24) ≤ 140737488355328) ∧
 (rec log_Append_L0 (log_Append_S0 (0 : Int) (((len (cat keep (r :: []))) : Nat) : Int) (0 : Int) r (cat keep (r :: [])) [] (0 : Int) ws fu []))))))) := by subst_vars; kernel_rfl
theorem log_Append_w (m : Nat) (K : KK) (st : St) : goD Γ_log_Append tab fn_log_Append 0 K (m + 1) [.code (bodyOf fn_log_Append)] st = segD Γ_log_Append tab fn_log_Append 0 K (goD Γ_log_Append tab fn_log_Append 0 K m) [.code (bodyOf fn_log_Append)] st := rfl
theorem log_Append_vc0 (x0 : Int) (x1 : Int) (x2 : Int) (x3 : (List Int)) (x4 : (List (List Int))) (x5 : (List Int)) (x6 : Int) (x7 : (List Int)) (x8 : Int) (x9 : (List Int)) (rec : RK) (K : KK) v0 (hv0 : v0 = (checkRec (nth x4 (Int.toNat x0) (Ty.dflt (Ty.list Ty.int))))) v1 (hv1 : v1 = (recW (nth x4 (Int.toNat x0) (Ty.dflt (Ty.list Ty.int))))) v2 (hv2 : v2 = (okWords x7)) v3 (hv3 : v3 = (liveS x7)) v4 (hv4 : v4 = (scanS x7 (Int.toNat ((v3 : Nat) : Int)))) v5 (hv5 : v5 = (nextI (Int.toNat ((v3 : Nat) : Int)) v4.snd)) v6 (hv6 : v6 = (recW x3)) v7 (hv7 : v7 = (burnCh (w64 (v5 + (1 : Int))) x3)) v8 (hv8 : v8 = (doCh (⟨x7, x8⟩ : Flash) v7)) v9 (hv9 : v9 = (burnCh v5 ((nth v6 (Int.toNat (0 : Int)) (Ty.dflt Ty.int)) :: []))) v10 (hv10 : v10 = (doCh (⟨v8.fst.words, v8.fst.fuel⟩ : Flash) v9)) v11 (hv11 : v11 = (liveG x7)) v12 (hv12 : v12 = (wipeCh (w64 ((1 : Int) - ((v3 : Nat) : Int))))) v13 (hv13 : v13 = (doCh (⟨x7, x8⟩ : Flash) v12)) v14 (hv14 : v14 = (burnCh (w64 ((w64 ((w64 ((1 : Int) - ((v3 : Nat) : Int))) * (32 : Int))) + (1 : Int))) x5)) v15 (hv15 : v15 = (doCh (⟨v13.fst.words, v13.fst.fuel⟩ : Flash) v14)) v16 (hv16 : v16 = (burnCh (w64 ((w64 ((1 : Int) - ((v3 : Nat) : Int))) * (32 : Int))) ((w64 (v11 + (1 : Int))) :: []))) v17 (hv17 : v17 = (doCh (⟨v15.fst.words, v15.fst.fuel⟩ : Flash) v16)) v19 (hv19 : v19 = (K (.tup [.agg [dL [], dI (0 : Int)], .one (dI (8 : Int))]) [])) v18 (hv18 : v18 = (br (eqi v11 (60000 : Int))
 v19
 ((((-(1 : Int)) ≤ x8) ∧ ((x8 ≤ (100000 : Int)) ∧ (((0 : Int) ≤ (w64 ((1 : Int) - ((v3 : Nat) : Int)))) ∧ (((((w64 ((1 : Int) - ((v3 : Nat) : Int))) + (1 : Int)) * (32 : Int)) ≤ (((len x7) : Nat) : Int)) ∧ ((len x7) ≤ 192))))) ∧
 (br (!v13.snd)
 (K (.tup [.agg [dL v13.fst.words, dI v13.fst.fuel], .one (dI (7 : Int))]) [])
 ((((-(1 : Int)) ≤ v13.fst.fuel) ∧ ((v13.fst.fuel ≤ (100000 : Int)) ∧ (((0 : Int) ≤ (w64 ((w64 ((w64 ((1 : Int) - ((v3 : Nat) : Int))) * (32 : Int))) + (1 : Int)))) ∧ ((((w64 ((w64 ((w64 ((1 : Int) - ((v3 : Nat) : Int))) * (32 : Int))) + (1 : Int))) + (((len x5) : Nat) : Int)) ≤ (((len v13.fst.words) : Nat) : Int)) ∧ ((len v13.fst.words) ≤ 192))))) ∧
 (br (!v15.snd)
 (K (.tup [.agg [dL v15.fst.words, dI v15.fst.fuel], .one (dI (7 : Int))]) [])
 ((((-(1 : Int)) ≤ v15.fst.fuel) ∧ ((v15.fst.fuel ≤ (100000 : Int)) ∧ (((0 : Int) ≤ (w64 ((w64 ((1 : Int) - ((v3 : Nat) : Int))) * (32 : Int)))) ∧ ((((w64 ((w64 ((1 : Int) - ((v3 : Nat) : Int))) * (32 : Int))) + (((len ((w64 (v11 + (1 : Int))) :: [])) : Nat) : Int)) ≤ (((len v15.fst.words) : Nat) : Int)) ∧ ((len v15.fst.words) ≤ 192))))) ∧
 (br (!v17.snd)
 (K (.tup [.agg [dL v17.fst.words, dI v17.fst.fuel], .one (dI (7 : Int))]) [])
 (K (.tup [.agg [dL v17.fst.words, dI v17.fst.fuel], .one (dI (0 : Int))]) []))))))))) : segD Γ_log_Append tab fn_log_Append 0 K rec (.code (Code.sub (bodyOf fn_log_Append) [1, 1, 1, 1, 0, 1, 0, 0]) :: log_Append_L0) (log_Append_S0 x0 x1 x2 x3 x4 x5 x6 x7 x8 x9) = (
 br (lti x0 x1)
 ((((0 : Int) ≤ x0) ∧ (x0 < (((len x4) : Nat) : Int))) ∧
 (((Int.toNat x0) < (len x4)) ∧
 (((List.length (nth x4 (Int.toNat x0) (Ty.dflt (Ty.list Ty.int)))) ≤ 140737488355328) ∧
 (br (!(eqi v0 (0 : Int)))
 (K (.tup [.agg [dL [], dI (0 : Int)], .one (dI v0)]) [])
 (((len (nth x4 (Int.toNat x0) (Ty.dflt (Ty.list Ty.int)))) ≤ 255) ∧
 (((((len x5) + (len v1)) * 8) ≤ 140737488355328) ∧
 (br (lti (31 : Int) (((len (cat x5 v1)) : Nat) : Int))
 v19
 (rec log_Append_L0 (log_Append_S0 (w64 (x0 + (1 : Int))) x1 x2 x3 x4 (cat x5 v1) x6 x7 x8 x9)))))))))
 (((64 ≤ (len x7)) ∧ (v2 = true)) ∧
 ((((len x7) * 8) ≤ 140737488355328) ∧
 (((len x3) ≤ 255) ∧
 ((((0 : Int) ≤ ((v3 : Nat) : Int)) ∧ ((((v3 : Nat) : Int) ≤ (1 : Int)) ∧ ((64 ≤ (len x7)) ∧ (((len x7) ≤ 192) ∧ (v2 = true))))) ∧
 (br (lei (0 : Int) v5)
 (br (lei (w64 (v5 + (((len v6) : Nat) : Int))) (w64 ((w64 (((v3 : Nat) : Int) + (1 : Int))) * (32 : Int))))
 ((((-(1 : Int)) ≤ x8) ∧ ((x8 ≤ (100000 : Int)) ∧ (((0 : Int) ≤ (w64 (v5 + (1 : Int)))) ∧ ((((w64 (v5 + (1 : Int))) + (((len x3) : Nat) : Int)) ≤ (((len x7) : Nat) : Int)) ∧ ((len x7) ≤ 192))))) ∧
 (br (!v8.snd)
 (K (.tup [.agg [dL v8.fst.words, dI v8.fst.fuel], .one (dI (7 : Int))]) [])
 ((((0 : Int) ≤ (0 : Int)) ∧ ((0 : Int) < (((len v6) : Nat) : Int))) ∧
 ((((-(1 : Int)) ≤ v8.fst.fuel) ∧ ((v8.fst.fuel ≤ (100000 : Int)) ∧ (((0 : Int) ≤ v5) ∧ (((v5 + (((len ((nth v6 (Int.toNat (0 : Int)) (Ty.dflt Ty.int)) :: [])) : Nat) : Int)) ≤ (((len v8.fst.words) : Nat) : Int)) ∧ ((len v8.fst.words) ≤ 192))))) ∧
 (br (!v10.snd)
 (K (.tup [.agg [dL v10.fst.words, dI v10.fst.fuel], .one (dI (7 : Int))]) [])
 (K (.tup [.agg [dL v10.fst.words, dI v10.fst.fuel], .one (dI (0 : Int))]) []))))))
 v18)
 v18)))))) := by subst_vars; kernel_rfl
theorem log_Append_w0 (m : Nat) (K : KK) (st : St) : goD Γ_log_Append tab fn_log_Append 0 K (m + 1) log_Append_L0 st = segD Γ_log_Append tab fn_log_Append 0 K (goD Γ_log_Append tab fn_log_Append 0 K m) (.code (Code.sub (bodyOf fn_log_Append) [1, 1, 1, 1, 0, 1, 0, 0]) :: log_Append_L0) st := rfl

theorem loop_log_Append (ws r : List Int) (fu : Int) (rs : List (List Int)) (hl : rs.length ≤ 5864062014806) (hs : smR rs = true) (K : KK)
    (hbad : ∀ e, e ≠ 0 → gather 0 rs = e → K (.tup [.agg [dL [], dI 0], .one (dI e)]) [])
    (hend : ∀ M, gather 0 rs = 0 → (allW rs).length ≤ 31 → goD Γ_log_Append tab fn_log_Append 0 K (M + 1) log_Append_L0 (log_Append_S0 (rs.length : Int) (((len rs) : Nat) : Int) 0 r rs (allW rs) 0 ws fu [])) :
    ∀ (d k : Nat), rs.length ≤ k + d → k ≤ rs.length → (allW (rs.take k)).length ≤ 31 → gather 0 rs = gather (allW (rs.take k)).length (rs.drop k) →
    goD Γ_log_Append tab fn_log_Append 0 K (d + 1) log_Append_L0 (log_Append_S0 (k : Int) (((len rs) : Nat) : Int) 0 r rs (allW (rs.take k)) 0 ws fu [])
  | 0, k, hk, hk2, ha, hg => by
    have : k = rs.length := by omega
    subst this
    rw [List.take_length] at ha hg ⊢
    rw [List.drop_length] at hg
    exact hend 0 hg ha
  | d + 1, k, hk, hk2, ha, hg => by
    by_cases c : k = rs.length
    · subst c
      rw [List.take_length] at ha hg ⊢
      rw [List.drop_length] at hg
      exact hend (d + 1) hg ha
    have ht := take_step (l := rs) (k := k) (by omega) (Ty.dflt (.list .int))
    rw [drop_step (by omega) (Ty.dflt (.list .int))] at hg
    have hm : nth rs k (Ty.dflt (.list .int)) ∈ rs := by
      have : k < rs.length := by omega
      simp [nth, List.getD_eq_getElem?_getD, this]
    have hsm := List.all_eq_true.1 hs _ hm
    simp only [decide_eq_true_eq] at hsm
    rw [log_Append_w0, log_Append_vc0 _ _ _ _ _ _ _ _ _ _ _ _ _ rfl _ rfl _ rfl _ rfl _ rfl _ rfl _ rfl _ rfl _ rfl _ rfl _ rfl _ rfl _ rfl _ rfl _ rfl _ rfl _ rfl _ rfl _ rfl _ rfl, toNat_nat]
    obtain ⟨x, hx⟩ : ∃ x, nth rs k (Ty.dflt (.list .int)) = x := ⟨_, rfl⟩
    rw [hx] at ht hg hsm ⊢
    simp only [gather] at hg
    refine lt_t (by simp only [len]; omega) ⟨⟨by omega, by simp only [len]; omega⟩, by simp only [len]; omega, hsm, ne_s (fun h1 => ?_) (fun h1 => ?_)⟩
    · rw [if_neg h1] at hg
      exact hbad _ h1 hg
    · rw [if_pos h1] at hg
      obtain ⟨r1, r2, r3⟩ := checkRec_ok h1
      refine ⟨by simp only [len]; omega, by simp only [len, recW_len]; omega, lt_s (fun h2 => ?_) (fun h2 => ?_)⟩
      · simp only [len, cat, List.length_append, recW_len] at h2
        rw [if_neg (by omega)] at hg
        exact hbad 8 (by decide) hg
      · simp only [len, cat, List.length_append, recW_len] at h2
        rw [if_pos (by omega)] at hg
        rw [w64_succ (by omega)]
        have e : cat (allW (rs.take k)) (recW x) = allW (rs.take (k + 1)) := by rw [ht, allW_snoc]; rfl
        have el : (allW (rs.take (k + 1))).length = (allW (rs.take k)).length + 1 + x.length := by rw [ht, allW_snoc, List.length_append, recW_len]; omega
        rw [e]
        exact loop_log_Append ws r fu rs hl hs K hbad hend d (k + 1) (by omega) (by omega) (by rw [el]; omega) (by rw [hg, el])
theorem there_log_Append (ws al : List Int) (fu g : Int) (s : Nat) (hs : s ≤ 1) (h64 : 64 ≤ ws.length) (h192 : ws.length ≤ 192) (f1 : -1 ≤ fu) (f2 : fu ≤ 100000) (hg0 : 0 ≤ g) (hg1 : g ≤ 65535) (hal : al.length ≤ 31) (P : Flash × Int → Prop)
    (hP : P (power (doCh ⟨ws, fu⟩ (wipeCh ((1 - s : Nat) : Int) ++ burnCh (32 * ((1 - s : Nat) : Int) + 1) al ++ burnCh (32 * ((1 - s : Nat) : Int)) [g + 1])))) :
    let o := w64 (1 - (s : Int))
    let a := doCh ⟨ws, fu⟩ (wipeCh o)
    let b := doCh ⟨a.1.words, a.1.fuel⟩ (burnCh (w64 (w64 (o * 32) + 1)) al)
    let c := doCh ⟨b.1.words, b.1.fuel⟩ (burnCh (w64 (o * 32)) [w64 (g + 1)])
    (0 ≤ o ∧ (o + 1) * 32 ≤ (ws.length : Int)) ∧
    (a.2 = false → P (a.1, 7)) ∧ ((-1 ≤ a.1.fuel ∧ a.1.fuel ≤ 100000 ∧ 0 ≤ w64 (w64 (o * 32) + 1) ∧ w64 (w64 (o * 32) + 1) + (al.length : Int) ≤ (a.1.words.length : Int) ∧ a.1.words.length ≤ 192) ∧
    (a.2 = true → b.2 = false → P (b.1, 7)) ∧ ((-1 ≤ b.1.fuel ∧ b.1.fuel ≤ 100000 ∧ 0 ≤ w64 (o * 32) ∧ w64 (o * 32) + 1 ≤ (b.1.words.length : Int) ∧ b.1.words.length ≤ 192) ∧
    (a.2 = true → b.2 = true → P (c.1, powerE c.2)))) := by
  intro o a b c
  have eo : o = ((1 - s : Nat) : Int) := by show w64 (1 - (s : Int)) = _; rw [w64_id (by omega) (by omega)]; omega
  have e1 : w64 (o * 32) = 32 * ((1 - s : Nat) : Int) := by rw [eo, w64_id (by omega) (by omega)]; omega
  have e2 : w64 (w64 (o * 32) + 1) = 32 * ((1 - s : Nat) : Int) + 1 := by rw [e1, w64_id (by omega) (by omega)]
  have e3 : w64 (g + 1) = g + 1 := w64_id (by omega) (by omega)
  have fa := doCh_fuel ⟨ws, fu⟩ (wipeCh o) f1 f2
  have la : a.1.words.length = ws.length := doCh_len ⟨ws, fu⟩ (wipeCh o)
  have fb := doCh_fuel a.1 (burnCh (w64 (w64 (o * 32) + 1)) al) fa.1 fa.2
  have lb : b.1.words.length = a.1.words.length := doCh_len a.1 (burnCh (w64 (w64 (o * 32) + 1)) al)
  rw [doCh_append, doCh_append] at hP
  have ea : doCh ⟨ws, fu⟩ (wipeCh ((1 - s : Nat) : Int)) = a := by rw [← eo]
  have eb : doCh a.1 (burnCh (32 * ((1 - s : Nat) : Int) + 1) al) = b := by rw [← e2]
  have ec : doCh b.1 (burnCh (32 * ((1 - s : Nat) : Int)) [g + 1]) = c := by rw [← e1, ← e3]
  rw [ea, eb] at hP
  refine ⟨by omega, fun h => ?_, ⟨fa.1, fa.2, by omega, by omega, by omega⟩, fun h h' => ?_, ⟨fb.1, fb.2, by omega, by omega, by omega⟩, fun h h' => ?_⟩
  · rw [if_neg (by simp [h]), if_neg (by simp [h])] at hP
    simpa [power, h, powerE] using hP
  · rw [if_pos h, if_neg (by simp [h'])] at hP
    simpa [power, h', powerE] using hP
  · rw [if_pos h, if_pos h', ec] at hP
    exact hP
set_option maxHeartbeats 4000000 in
theorem run_log_Append (ws : List Int) (fu : Int) (r : List Int) (keep : List (List Int)) (hp : Sm r ∧ len keep * 24 ≤ 140737488351232 ∧ smR keep = true) (K : KK) (hK : K (.tup [.agg [dL (appendF ⟨ws, fu⟩ r keep).1.words, dI (appendF ⟨ws, fu⟩ r keep).1.fuel], .one (dI (appendF ⟨ws, fu⟩ r keep).2)]) []) : ∃ m, goD Γ_log_Append tab fn_log_Append 0 K m [.code (bodyOf fn_log_Append)] (initSt [.agg [dL ws, dI fu], .one (dL r), .one (dR keep)] []) := by
  obtain ⟨hr, hk, hsm⟩ := hp
  refine ⟨(keep ++ [r]).length + 1 + 1, ?_⟩
  rw [log_Append_w, log_Append_vc _ _ _ _ _ _ _ rfl _ rfl]
  unfold appendF appendE at hK
  simp only [len] at hk
  refine ne_s (fun h => ?_) (fun h => ?_)
  · rw [if_neg h, if_neg h] at hK; exact hK
  rw [if_pos h] at hK
  refine ⟨hr, ne_s (fun h2 => ?_) (fun h2 => ?_)⟩
  · rw [if_neg h2, if_neg h2] at hK; exact hK
  rw [if_pos h2] at hK
  obtain ⟨k1, k2, k3, k4⟩ := checkLog_ok h
  obtain ⟨c1, c2, c3, c4⟩ := checkFlash_ok k1
  obtain ⟨c5, c6⟩ := okLen_le c1
  simp only at k2 k3 k4 c2 c3 c4 c5 c6
  obtain ⟨r1, r2, r3⟩ := checkRec_ok h2
  have hlen : (keep ++ [r]).length = keep.length + 1 := by simp
  obtain ⟨rs, hrs⟩ : ∃ rs, keep ++ [r] = rs := ⟨_, rfl⟩
  have hsr : smR rs = true := by
    rw [← hrs]; unfold smR at hsm ⊢; rw [List.all_append, hsm]
    simp only [List.all_cons, List.all_nil, Bool.and_true, Bool.true_and, decide_eq_true_eq]; omega
  rw [hrs] at hlen ⊢
  refine ⟨by simp only [len]; omega, by simp only [len, List.length_cons, List.length_nil]; omega, ?_⟩
  rw [show cat keep [r] = rs from hrs]
  rw [hrs] at hK
  have e0 : allW (rs.take 0) = [] := by simp [allW]
  have l0 : (allW (rs.take 0)).length = 0 := by rw [e0]; rfl
  refine loop_log_Append ws r fu rs (by omega) hsr K (fun e he hg => ?_) (fun M hg hal => ?_) rs.length 0 (by omega) (by omega) (by omega) (by rw [l0, List.drop_zero])
  · rw [hg, if_neg he] at hK; exact hK
  rw [hg, if_pos rfl] at hK
  rw [log_Append_w0, log_Append_vc0 _ _ _ _ _ _ _ _ _ _ _ _ _ rfl _ rfl _ rfl _ rfl _ rfl _ rfl _ rfl _ rfl _ rfl _ rfl _ rfl _ rfl _ rfl _ rfl _ rfl _ rfl _ rfl _ rfl _ rfl _ rfl, toNat_nat]
  unfold appendCh at hK
  have hls := liveS_le ws
  have hgr := genOf_range c4 (liveS ws)
  have hg1 : liveG ws = genOf ws (liveS ws) := rfl
  have es : ∀ s : Nat, Int.toNat (s : Int) = s := fun _ => rfl
  simp only [hrs] at hK
  obtain ⟨s, hs⟩ : ∃ s, liveS ws = s := ⟨_, rfl⟩
  rw [hs] at hK hls ⊢
  obtain ⟨g, hgg⟩ : ∃ g, liveG ws = g := ⟨_, rfl⟩
  rw [hgg] at hK hg1 k3 k4 ⊢
  rw [w64_id (n := (s : Int) + 1) (by omega) (by omega), w64_id (n := ((s : Int) + 1) * 32) (by omega) (by omega)]
  have e6 : (((len (recW r)) : Nat) : Int) = (r.length : Int) + 1 := by simp only [len, recW_len]; omega
  have e7 : nth (recW r) (Int.toNat (0 : Int)) (Ty.dflt Ty.int) = 42240 + (r.length : Int) := rfl
  rw [e6, e7, es s]
  simp only [len]
  have hthere := fun (hP : K (.tup [.agg [dL (power (doCh ⟨ws, fu⟩ (thereCh (1 - s) rs (g + 1)))).1.words, dI (power (doCh ⟨ws, fu⟩ (thereCh (1 - s) rs (g + 1)))).1.fuel], .one (dI (power (doCh ⟨ws, fu⟩ (thereCh (1 - s) rs (g + 1)))).2)]) []) =>
    there_log_Append ws (allW rs) fu g s hls k2 c6 c2 c3 (by omega) (by omega) hal (fun x => K (.tup [.agg [dL x.1.words, dI x.1.fuel], .one (dI x.2)]) []) hP
  refine lt_f (by omega) ⟨⟨k2, c4⟩, by omega, by omega, ⟨by omega, by omega, k2, c6, c4⟩, ?_⟩
  cases hsc : (scanS ws s).2 with
  | none =>
    rw [hsc] at hK
    simp only [room, Bool.false_eq_true, if_false] at hK
    simp only [nextI]
    refine br_f (lei_false.2 (by omega)) (eq_s (fun h5 => ?_) (fun h5 => ?_))
    · rw [if_pos h5] at hK; exact hK
    · rw [if_neg h5] at hK
      obtain ⟨t1, t2, t3, t4, t5, t6⟩ := hthere hK
      refine ⟨⟨c2, c3, t1.1, t1.2, c6⟩, nt_s t2 (fun q1 => ⟨t3, nt_s (t4 q1) (fun q2 => ⟨t5, nt_s (fun q3 => ?_) (fun q3 => ?_)⟩)⟩)⟩
      · have := t6 q1 q2; rw [q3] at this; exact this
      · have := t6 q1 q2; rw [q3] at this; exact this
  | some a =>
    have ha := scanS_le (by omega) hsc
    rw [hsc] at hK
    simp only [nextI]
    rw [w64_id (n := 32 * (s : Int) + 1 + a + ((r.length : Int) + 1)) (by omega) (by omega), w64_id (n := 32 * (s : Int) + 1 + a + 1) (by omega) (by omega)]
    refine br_t (lei_true.2 (by omega)) (br_split (fun h5 => ?_) (fun h5 => ?_))
    · rw [lei_true] at h5
      rw [if_pos (show room r.length (some a) = true from by simp only [room, decide_eq_true_eq]; omega)] at hK
      simp only [Option.getD_some, hereCh] at hK
      rw [show ((32 * s + 1 + a : Nat) : Int) = 32 * (s : Int) + 1 + a by omega, doCh_append] at hK
      obtain ⟨f1, f2⟩ := doCh_fuel ⟨ws, fu⟩ (burnCh (32 * (s : Int) + 1 + a + 1) r) c2 c3
      have l1 := doCh_len ⟨ws, fu⟩ (burnCh (32 * (s : Int) + 1 + a + 1) r)
      simp only at l1
      refine ⟨⟨c2, c3, by omega, by omega, c6⟩, nt_s (fun q1 => ?_) (fun q1 => ⟨⟨by omega, by omega⟩, ⟨f1, f2, by omega, by simp only [List.length_cons, List.length_nil]; omega, by omega⟩, nt_s (fun q2 => ?_) (fun q2 => ?_)⟩)⟩
      · rw [if_neg (by simp [q1])] at hK
        simpa only [power, q1, powerE] using hK
      · rw [if_pos q1] at hK
        simp only [power] at hK
        rw [show (doCh (doCh ⟨ws, fu⟩ (burnCh (32 * (s : Int) + 1 + a + 1) r)).1 (burnCh (32 * (s : Int) + 1 + a) [42240 + (r.length : Int)])).2 = false from q2] at hK
        exact hK
      · rw [if_pos q1] at hK
        simp only [power] at hK
        rw [show (doCh (doCh ⟨ws, fu⟩ (burnCh (32 * (s : Int) + 1 + a + 1) r)).1 (burnCh (32 * (s : Int) + 1 + a) [42240 + (r.length : Int)])).2 = true from q2] at hK
        exact hK
    · rw [lei_false] at h5
      rw [if_neg (show ¬ room r.length (some a) = true from by simp only [room, decide_eq_true_eq]; omega)] at hK
      refine eq_s (fun h5 => ?_) (fun h5 => ?_)
      · rw [if_pos h5] at hK; exact hK
      · rw [if_neg h5] at hK
        obtain ⟨t1, t2, t3, t4, t5, t6⟩ := hthere hK
        refine ⟨⟨c2, c3, t1.1, t1.2, c6⟩, nt_s t2 (fun q1 => ⟨t3, nt_s (t4 q1) (fun q2 => ⟨t5, nt_s (fun q3 => ?_) (fun q3 => ?_)⟩)⟩)⟩
        · have := t6 q1 q2; rw [q3] at this; exact this
        · have := t6 q1 q2; rw [q3] at this; exact this
theorem sound_log_Append : SoundC Tryd.prog tab n_log_Append c_log_Append := soundC_of ok_log_Append hf_log_Append hB_log_Append (by
  intro vs bs p v bs' h hp
  unfold c_log_Append at h
  split at h
  · cases h
    exact ⟨by kernel_rfl, rfl, .inl (run_log_Append _ _ _ _ hp.1 _ ⟨rfl, rfl⟩)⟩
  · cases h)

def c_gate_forget : Contract := fun vs bs => match vs, bs with
  | [.one (.ptr 0 0)], [.box [.dat (.list .int) ws, .dat .int fu, .dat .bool up, .dat .int tv, .dat (.list .int) tk, .dat .int tt, .dat .int tn, .own 1, .own 2], .arr .bool vo, .arr .bool di] => some (none, .tup [], [.box [.dat (.list .int) (forgetG ⟨⟨ws, fu⟩, up, ⟨⟨tv, tk, tt⟩, tn⟩, vo, di⟩).f.words, .dat .int (forgetG ⟨⟨ws, fu⟩, up, ⟨⟨tv, tk, tt⟩, tn⟩, vo, di⟩).f.fuel, .dat .bool (forgetG ⟨⟨ws, fu⟩, up, ⟨⟨tv, tk, tt⟩, tn⟩, vo, di⟩).up, .dat .int (forgetG ⟨⟨ws, fu⟩, up, ⟨⟨tv, tk, tt⟩, tn⟩, vo, di⟩).t.r.version, .dat (.list .int) (forgetG ⟨⟨ws, fu⟩, up, ⟨⟨tv, tk, tt⟩, tn⟩, vo, di⟩).t.r.keys, .dat .int (forgetG ⟨⟨ws, fu⟩, up, ⟨⟨tv, tk, tt⟩, tn⟩, vo, di⟩).t.r.thr, .dat .int (forgetG ⟨⟨ws, fu⟩, up, ⟨⟨tv, tk, tt⟩, tn⟩, vo, di⟩).t.version, .own 1, .own 2], .arr .bool (forgetG ⟨⟨ws, fu⟩, up, ⟨⟨tv, tk, tt⟩, tn⟩, vo, di⟩).voted, .arr .bool (forgetG ⟨⟨ws, fu⟩, up, ⟨⟨tv, tk, tt⟩, tn⟩, vo, di⟩).did])
  | _, _ => none
def Γ_gate_forget : Ctx := []
theorem ok_gate_forget : Ok Tryd.prog tab Γ_gate_forget := ok_nil
theorem gate_forget_vc (ws : List Int) (fu : Int) (up : Bool) (tv : Int) (tk : List Int) (tt : Int) (tn : Int) (vo : List Bool) (di : List Bool) (rec : RK) (K : KK) : segD Γ_gate_forget tab fn_gate_forget 3 K rec [.code (bodyOf fn_gate_forget)] (initSt [.one (.ptr 0 0)] [.box [dL ws, dI fu, dB up, dI tv, dL tk, dI tt, dI tn, .own 1, .own 2], .arr Ty.bool vo, .arr Ty.bool di]) = (
 K (.tup []) [.box [dL ws, dI fu, dB up, dI tv, dL tk, dI tt, dI tn, .own 1, .own 2], .arr Ty.bool (zeros (len vo) (Ty.dflt Ty.bool)), .arr Ty.bool (zeros (len di) (Ty.dflt Ty.bool))]) := by kernel_rfl
theorem gate_forget_w (m : Nat) (K : KK) (st : St) : goD Γ_gate_forget tab fn_gate_forget 3 K (m + 1) [.code (bodyOf fn_gate_forget)] st = segD Γ_gate_forget tab fn_gate_forget 3 K (goD Γ_gate_forget tab fn_gate_forget 3 K m) [.code (bodyOf fn_gate_forget)] st := rfl

set_option maxHeartbeats 4000000 in
theorem run_gate_forget (ws : List Int) (fu : Int) (up : Bool) (tv : Int) (tk : List Int) (tt tn : Int) (vo di : List Bool) (K : KK) (hK : K (.tup []) [.box [dL (forgetG ⟨⟨ws, fu⟩, up, ⟨⟨tv, tk, tt⟩, tn⟩, vo, di⟩).f.words, dI (forgetG ⟨⟨ws, fu⟩, up, ⟨⟨tv, tk, tt⟩, tn⟩, vo, di⟩).f.fuel, dB (forgetG ⟨⟨ws, fu⟩, up, ⟨⟨tv, tk, tt⟩, tn⟩, vo, di⟩).up, dI (forgetG ⟨⟨ws, fu⟩, up, ⟨⟨tv, tk, tt⟩, tn⟩, vo, di⟩).t.r.version, dL (forgetG ⟨⟨ws, fu⟩, up, ⟨⟨tv, tk, tt⟩, tn⟩, vo, di⟩).t.r.keys, dI (forgetG ⟨⟨ws, fu⟩, up, ⟨⟨tv, tk, tt⟩, tn⟩, vo, di⟩).t.r.thr, dI (forgetG ⟨⟨ws, fu⟩, up, ⟨⟨tv, tk, tt⟩, tn⟩, vo, di⟩).t.version, .own 1, .own 2], .arr .bool (forgetG ⟨⟨ws, fu⟩, up, ⟨⟨tv, tk, tt⟩, tn⟩, vo, di⟩).voted, .arr .bool (forgetG ⟨⟨ws, fu⟩, up, ⟨⟨tv, tk, tt⟩, tn⟩, vo, di⟩).did]) : ∃ m, goD Γ_gate_forget tab fn_gate_forget 3 K m [.code (bodyOf fn_gate_forget)] (initSt [.one (.ptr 0 0)] [.box [dL ws, dI fu, dB up, dI tv, dL tk, dI tt, dI tn, .own 1, .own 2], .arr .bool vo, .arr .bool di]) := by
  refine ⟨1, ?_⟩
  rw [gate_forget_w, gate_forget_vc _ _ _ _ _ _ _ _ _ _ _]
  exact hK
theorem sound_gate_forget : SoundC Tryd.prog tab n_gate_forget c_gate_forget := soundC_of ok_gate_forget hf_gate_forget hB_gate_forget (by
  intro vs bs p v bs' h hp
  unfold c_gate_forget at h
  split at h
  · cases h
    exact ⟨by kernel_rfl, rfl, .inl (run_gate_forget _ _ _ _ _ _ _ _ _ _ ⟨rfl, rfl⟩)⟩
  · cases h)

def c_gate_note : Contract := fun vs bs => match vs, bs with
  | [.one (.ptr 0 0), .one (.dat (.list .int) r)], [.box [.dat (.list .int) ws, .dat .int fu, .dat .bool up, .dat .int tv, .dat (.list .int) tk, .dat .int tt, .dat .int tn, .own 1, .own 2], .arr .bool vo, .arr .bool di] => some (some (Sm r), .one (.dat .bool (noteG ⟨⟨ws, fu⟩, up, ⟨⟨tv, tk, tt⟩, tn⟩, vo, di⟩ r).2), [.box [.dat (.list .int) (noteG ⟨⟨ws, fu⟩, up, ⟨⟨tv, tk, tt⟩, tn⟩, vo, di⟩ r).1.f.words, .dat .int (noteG ⟨⟨ws, fu⟩, up, ⟨⟨tv, tk, tt⟩, tn⟩, vo, di⟩ r).1.f.fuel, .dat .bool (noteG ⟨⟨ws, fu⟩, up, ⟨⟨tv, tk, tt⟩, tn⟩, vo, di⟩ r).1.up, .dat .int (noteG ⟨⟨ws, fu⟩, up, ⟨⟨tv, tk, tt⟩, tn⟩, vo, di⟩ r).1.t.r.version, .dat (.list .int) (noteG ⟨⟨ws, fu⟩, up, ⟨⟨tv, tk, tt⟩, tn⟩, vo, di⟩ r).1.t.r.keys, .dat .int (noteG ⟨⟨ws, fu⟩, up, ⟨⟨tv, tk, tt⟩, tn⟩, vo, di⟩ r).1.t.r.thr, .dat .int (noteG ⟨⟨ws, fu⟩, up, ⟨⟨tv, tk, tt⟩, tn⟩, vo, di⟩ r).1.t.version, .own 1, .own 2], .arr .bool (noteG ⟨⟨ws, fu⟩, up, ⟨⟨tv, tk, tt⟩, tn⟩, vo, di⟩ r).1.voted, .arr .bool (noteG ⟨⟨ws, fu⟩, up, ⟨⟨tv, tk, tt⟩, tn⟩, vo, di⟩ r).1.did])
  | _, _ => none
def Γ_gate_note : Ctx := [(n_gate_of_o, c_gate_of_o), (n_gate_keep, c_gate_keep), (n_log_Append, c_log_Append), (n_gate_forget, c_gate_forget)]
theorem ok_gate_note : Ok Tryd.prog tab Γ_gate_note := ((((ok_nil.consC hf_gate_forget hB_gate_forget sound_gate_forget).consC hf_log_Append hB_log_Append sound_log_Append).consC hf_gate_keep hB_gate_keep sound_gate_keep).consC hf_gate_of_o hB_gate_of_o sound_gate_of_o)
theorem gate_note_vc (ws : List Int) (fu : Int) (up : Bool) (tv : Int) (tk : List Int) (tt : Int) (tn : Int) (vo : List Bool) (di : List Bool) (r : List Int) (rec : RK) (K : KK) v0 (hv0 : v0 = (ofG ⟨ws, fu⟩)) v1 (hv1 : v1 = (keepG ⟨v0.n, v0.version, v0.commit, v0.abort, v0.ended⟩)) v2 (hv2 : v2 = (smR v1)) v3 (hv3 : v3 = (appendF ⟨ws, fu⟩ r v1)) v4 (hv4 : v4 = (br (eqi v3.snd (7 : Int))
 (K (.one (dB (eqi v3.snd (0 : Int)))) [.box [dL v3.fst.words, dI v3.fst.fuel, dB false, dI tv, dL tk, dI tt, dI tn, .own 1, .own 2], .arr Ty.bool (zeros (List.length vo) false), .arr Ty.bool (zeros (List.length di) false)])
 (K (.one (dB (eqi v3.snd (0 : Int)))) [.box [dL v3.fst.words, dI v3.fst.fuel, dB up, dI tv, dL tk, dI tt, dI tn, .own 1, .own 2], .arr Ty.bool vo, .arr Ty.bool di]))) : segD Γ_gate_note tab fn_gate_note 3 K rec [.code (bodyOf fn_gate_note)] (initSt [.one (.ptr 0 0), .one (dL r)] [.box [dL ws, dI fu, dB up, dI tv, dL tk, dI tt, dI tn, .own 1, .own 2], .arr Ty.bool vo, .arr Ty.bool di]) = (
 (((List.length r) ≤ 140737488355328) ∧ ((((len v1) * 24) ≤ 140737488351232) ∧ (v2 = true))) ∧
 (br (!(eqi v3.snd (0 : Int)))
 (br (!(eqi v3.snd (7 : Int)))
 (K (.one (dB false)) [.box [dL ws, dI fu, dB up, dI tv, dL tk, dI tt, dI tn, .own 1, .own 2], .arr Ty.bool vo, .arr Ty.bool di])
 v4)
 v4)) := by subst_vars; kernel_rfl
theorem gate_note_w (m : Nat) (K : KK) (st : St) : goD Γ_gate_note tab fn_gate_note 3 K (m + 1) [.code (bodyOf fn_gate_note)] st = segD Γ_gate_note tab fn_gate_note 3 K (goD Γ_gate_note tab fn_gate_note 3 K m) [.code (bodyOf fn_gate_note)] st := rfl

set_option maxHeartbeats 4000000 in
theorem run_gate_note (ws : List Int) (fu : Int) (up : Bool) (tv : Int) (tk : List Int) (tt tn : Int) (vo di : List Bool) (r : List Int) (hp : Sm r) (K : KK) (hK : K (.one (dB (noteG ⟨⟨ws, fu⟩, up, ⟨⟨tv, tk, tt⟩, tn⟩, vo, di⟩ r).2)) [.box [dL (noteG ⟨⟨ws, fu⟩, up, ⟨⟨tv, tk, tt⟩, tn⟩, vo, di⟩ r).1.f.words, dI (noteG ⟨⟨ws, fu⟩, up, ⟨⟨tv, tk, tt⟩, tn⟩, vo, di⟩ r).1.f.fuel, dB (noteG ⟨⟨ws, fu⟩, up, ⟨⟨tv, tk, tt⟩, tn⟩, vo, di⟩ r).1.up, dI (noteG ⟨⟨ws, fu⟩, up, ⟨⟨tv, tk, tt⟩, tn⟩, vo, di⟩ r).1.t.r.version, dL (noteG ⟨⟨ws, fu⟩, up, ⟨⟨tv, tk, tt⟩, tn⟩, vo, di⟩ r).1.t.r.keys, dI (noteG ⟨⟨ws, fu⟩, up, ⟨⟨tv, tk, tt⟩, tn⟩, vo, di⟩ r).1.t.r.thr, dI (noteG ⟨⟨ws, fu⟩, up, ⟨⟨tv, tk, tt⟩, tn⟩, vo, di⟩ r).1.t.version, .own 1, .own 2], .arr .bool (noteG ⟨⟨ws, fu⟩, up, ⟨⟨tv, tk, tt⟩, tn⟩, vo, di⟩ r).1.voted, .arr .bool (noteG ⟨⟨ws, fu⟩, up, ⟨⟨tv, tk, tt⟩, tn⟩, vo, di⟩ r).1.did]) : ∃ m, goD Γ_gate_note tab fn_gate_note 3 K m [.code (bodyOf fn_gate_note)] (initSt [.one (.ptr 0 0), .one (dL r)] [.box [dL ws, dI fu, dB up, dI tv, dL tk, dI tt, dI tn, .own 1, .own 2], .arr .bool vo, .arr .bool di]) := by
  refine ⟨1, ?_⟩
  rw [gate_note_w, gate_note_vc _ _ _ _ _ _ _ _ _ _ _ _ _ rfl _ rfl _ rfl _ rfl _ rfl]
  unfold noteG changeG at hK
  simp only at hK
  have e0 : (⟨(ofG ⟨ws, fu⟩).n, (ofG ⟨ws, fu⟩).version, (ofG ⟨ws, fu⟩).commit, (ofG ⟨ws, fu⟩).abort, (ofG ⟨ws, fu⟩).ended⟩ : Vm.GState) = ofG ⟨ws, fu⟩ := rfl
  rw [e0]
  obtain ⟨k1, k2⟩ := keepG_sm (ofG ⟨ws, fu⟩)
  refine ⟨⟨hp, by simp only [len]; omega, k1⟩, ?_⟩
  obtain ⟨r', hr⟩ : ∃ r', appendF ⟨ws, fu⟩ r (keepG (ofG ⟨ws, fu⟩)) = r' := ⟨_, rfl⟩
  rw [hr] at hK ⊢
  refine ne_s (fun h => ?_) (fun h => ?_)
  · rw [if_neg h] at hK
    refine ne_s (fun h2 => ?_) (fun h2 => ?_)
    · rw [if_neg h2] at hK; exact hK
    · rw [if_pos h2] at hK
      refine eq_t h2 ?_
      rw [show eqi r'.2 0 = false from eqi_false.2 h]
      exact hK
  · rw [if_pos h] at hK
    refine eq_f (by omega) ?_
    rw [show eqi r'.2 0 = true from eqi_true.2 h]
    exact hK
theorem sound_gate_note : SoundC Tryd.prog tab n_gate_note c_gate_note := soundC_of ok_gate_note hf_gate_note hB_gate_note (by
  intro vs bs p v bs' h hp
  unfold c_gate_note at h
  split at h
  · cases h
    exact ⟨by kernel_rfl, rfl, .inl (run_gate_note _ _ _ _ _ _ _ _ _ _ hp.1 _ ⟨rfl, rfl⟩)⟩
  · cases h)

def c_gate_Begin : Contract := fun vs bs => match vs, bs with
  | [.agg [.dat (.list .str) b], .one (.dat (.list .signed) l), .agg [.dat (.list .int) ws, .dat .int fu, .dat .bool up, .dat .int tv, .dat (.list .int) tk, .dat .int tt, .dat .int tn, .dat (.list .bool) vo, .dat (.list .bool) di], .agg [.dat (.list .root) rs, .dat (.list (.list .int)) rg, .dat .int ov, .dat .int ou, .dat (.list .target) ts, .dat (.list .int) sg, .dat (.list (.list .int)) im], .one (.dat .int now)], [] => some (some (b.length ≤ 140737488355328), .tup [.agg [.dat (.list .int) (beginG b l ⟨⟨ws, fu⟩, up, ⟨⟨tv, tk, tt⟩, tn⟩, vo, di⟩ ⟨rs, rg, ⟨ov, ou, ts⟩, sg, im⟩ now).1.f.words, .dat .int (beginG b l ⟨⟨ws, fu⟩, up, ⟨⟨tv, tk, tt⟩, tn⟩, vo, di⟩ ⟨rs, rg, ⟨ov, ou, ts⟩, sg, im⟩ now).1.f.fuel, .dat .bool (beginG b l ⟨⟨ws, fu⟩, up, ⟨⟨tv, tk, tt⟩, tn⟩, vo, di⟩ ⟨rs, rg, ⟨ov, ou, ts⟩, sg, im⟩ now).1.up, .dat .int (beginG b l ⟨⟨ws, fu⟩, up, ⟨⟨tv, tk, tt⟩, tn⟩, vo, di⟩ ⟨rs, rg, ⟨ov, ou, ts⟩, sg, im⟩ now).1.t.r.version, .dat (.list .int) (beginG b l ⟨⟨ws, fu⟩, up, ⟨⟨tv, tk, tt⟩, tn⟩, vo, di⟩ ⟨rs, rg, ⟨ov, ou, ts⟩, sg, im⟩ now).1.t.r.keys, .dat .int (beginG b l ⟨⟨ws, fu⟩, up, ⟨⟨tv, tk, tt⟩, tn⟩, vo, di⟩ ⟨rs, rg, ⟨ov, ou, ts⟩, sg, im⟩ now).1.t.r.thr, .dat .int (beginG b l ⟨⟨ws, fu⟩, up, ⟨⟨tv, tk, tt⟩, tn⟩, vo, di⟩ ⟨rs, rg, ⟨ov, ou, ts⟩, sg, im⟩ now).1.t.version, .dat (.list .bool) (beginG b l ⟨⟨ws, fu⟩, up, ⟨⟨tv, tk, tt⟩, tn⟩, vo, di⟩ ⟨rs, rg, ⟨ov, ou, ts⟩, sg, im⟩ now).1.voted, .dat (.list .bool) (beginG b l ⟨⟨ws, fu⟩, up, ⟨⟨tv, tk, tt⟩, tn⟩, vo, di⟩ ⟨rs, rg, ⟨ov, ou, ts⟩, sg, im⟩ now).1.did], .one (.dat .int (beginG b l ⟨⟨ws, fu⟩, up, ⟨⟨tv, tk, tt⟩, tn⟩, vo, di⟩ ⟨rs, rg, ⟨ov, ou, ts⟩, sg, im⟩ now).2.1), .one (.dat .int (beginG b l ⟨⟨ws, fu⟩, up, ⟨⟨tv, tk, tt⟩, tn⟩, vo, di⟩ ⟨rs, rg, ⟨ov, ou, ts⟩, sg, im⟩ now).2.2)], [])
  | _, _ => none
def Γ_gate_Begin : Ctx := [(n_gate_up, c_gate_up), (n_gate_of, c_gate_of), (n_trust_Take, c_trust_Take), (n_gate_Copy, c_gate_Copy), (n_gate_note, c_gate_note), (n_gate_forget, c_gate_forget)]
theorem ok_gate_Begin : Ok Tryd.prog tab Γ_gate_Begin := ((((((ok_nil.consC hf_gate_forget hB_gate_forget sound_gate_forget).consC hf_gate_note hB_gate_note sound_gate_note).consC hf_gate_Copy hB_gate_Copy sound_gate_Copy).consC hf_trust_Take hB_trust_Take sound_trust_Take).consC hf_gate_of hB_gate_of sound_gate_of).consC hf_gate_up hB_gate_up sound_gate_up)
theorem gate_Begin_vc (b : List (List UInt8)) (l : List Signed) (ws : List Int) (fu : Int) (up : Bool) (tv : Int) (tk : List Int) (tt : Int) (tn : Int) (vo : List Bool) (di : List Bool) (rs : List Root) (rg : List (List Int)) (ov : Int) (ou : Int) (ts : List Vm.Target) (sg : List Int) (im : List (List Int)) (now : Int) (rec : RK) (K : KK) v0 (hv0 : v0 = (upG ⟨⟨ws, fu⟩, up, ⟨⟨tv, tk, tt⟩, tn⟩, vo, di⟩)) v1 (hv1 : v1 = (ofG ⟨ws, fu⟩)) v2 (hv2 : v2 = (takeT b l ⟨⟨tv, tk, tt⟩, tn⟩ ⟨rs, rg, ⟨ov, ou, ts⟩, sg, im⟩ now (((len vo) : Nat) : Int))) v3 (hv3 : v3 = (noteG ⟨⟨ws, fu⟩, up, ⟨⟨tv, tk, tt⟩, tn⟩, vo, di⟩ ((1 : Int) :: ((w64 (v1.n + (1 : Int))) :: (ov :: []))))) v4 (hv4 : v4 = (br (eqi v1.n (8 : Int))
 (K (.tup [.agg [dL [], dI (0 : Int), dB false, dI (0 : Int), dL [], dI (0 : Int), dI (0 : Int), dLb [], dLb []], .one (dI (0 : Int)), .one (dI (8 : Int))]) [])
 (((List.length b) ≤ 140737488355328) ∧
 (br (!(eqi v2.snd (0 : Int)))
 (K (.tup [.agg [dL [], dI (0 : Int), dB false, dI (0 : Int), dL [], dI (0 : Int), dI (0 : Int), dLb [], dLb []], .one (dI (0 : Int)), .one (dI v2.snd)]) [])
 (((((len ws) * 8) ≤ 140737488355328) ∧ ((((len tk) * 8) ≤ 140737488355328) ∧ (((len vo) ≤ 1000) ∧ ((len di) ≤ 1000)))) ∧
 (((List.length ((1 : Int) :: ((w64 (v1.n + (1 : Int))) :: (ov :: [])))) ≤ 140737488355328) ∧
 (br (!v3.snd)
 (K (.tup [.agg [dL v3.fst.f.words, dI v3.fst.f.fuel, dB v3.fst.up, dI v3.fst.t.r.version, dL v3.fst.t.r.keys, dI v3.fst.t.r.thr, dI v3.fst.t.version, dLb v3.fst.voted, dLb v3.fst.did], .one (dI (0 : Int)), .one (dI (0 : Int))]) [])
 (K (.tup [.agg [dL v3.fst.f.words, dI v3.fst.f.fuel, dB v3.fst.up, dI v2.fst.r.version, dL v2.fst.r.keys, dI v2.fst.r.thr, dI v2.fst.version, dLb (zeros (List.length v3.fst.voted) false), dLb (zeros (List.length v3.fst.did) false)], .one (dI (w64 (v1.n + (1 : Int)))), .one (dI (0 : Int))]) [])))))))) : segD Γ_gate_Begin tab fn_gate_Begin 0 K rec [.code (bodyOf fn_gate_Begin)] (initSt [.agg [.dat (Ty.list Ty.str) b], .one (.dat (Ty.list Ty.signed) l), .agg [dL ws, dI fu, dB up, dI tv, dL tk, dI tt, dI tn, dLb vo, dLb di], .agg [.dat (Ty.list Ty.root) rs, dR rg, dI ov, dI ou, .dat (Ty.list Ty.target) ts, dL sg, dR im], .one (dI now)] []) = (
 br (!(eqi v0 (0 : Int)))
 (K (.tup [.agg [dL [], dI (0 : Int), dB false, dI (0 : Int), dL [], dI (0 : Int), dI (0 : Int), dLb [], dLb []], .one (dI (0 : Int)), .one (dI v0)]) [])
 (br (lti (0 : Int) v1.n)
 (br (!v1.ended)
 (K (.tup [.agg [dL [], dI (0 : Int), dB false, dI (0 : Int), dL [], dI (0 : Int), dI (0 : Int), dLb [], dLb []], .one (dI (0 : Int)), .one (dI (12 : Int))]) [])
 v4)
 v4)) := by subst_vars; kernel_rfl
theorem gate_Begin_w (m : Nat) (K : KK) (st : St) : goD Γ_gate_Begin tab fn_gate_Begin 0 K (m + 1) [.code (bodyOf fn_gate_Begin)] st = segD Γ_gate_Begin tab fn_gate_Begin 0 K (goD Γ_gate_Begin tab fn_gate_Begin 0 K m) [.code (bodyOf fn_gate_Begin)] st := rfl

set_option maxHeartbeats 4000000 in
theorem run_gate_Begin (b : List (List UInt8)) (l : List Vm.Signed) (ws : List Int) (fu : Int) (up : Bool) (tv : Int) (tk : List Int) (tt tn : Int) (vo di : List Bool) (rs : List Vm.Root) (rg : List (List Int)) (ov ou : Int) (ts : List Vm.Target) (sg : List Int) (im : List (List Int)) (now : Int) (hp : b.length ≤ 140737488355328) (K : KK) (hK : K (.tup [.agg [dL (beginG b l ⟨⟨ws, fu⟩, up, ⟨⟨tv, tk, tt⟩, tn⟩, vo, di⟩ ⟨rs, rg, ⟨ov, ou, ts⟩, sg, im⟩ now).1.f.words, dI (beginG b l ⟨⟨ws, fu⟩, up, ⟨⟨tv, tk, tt⟩, tn⟩, vo, di⟩ ⟨rs, rg, ⟨ov, ou, ts⟩, sg, im⟩ now).1.f.fuel, dB (beginG b l ⟨⟨ws, fu⟩, up, ⟨⟨tv, tk, tt⟩, tn⟩, vo, di⟩ ⟨rs, rg, ⟨ov, ou, ts⟩, sg, im⟩ now).1.up, dI (beginG b l ⟨⟨ws, fu⟩, up, ⟨⟨tv, tk, tt⟩, tn⟩, vo, di⟩ ⟨rs, rg, ⟨ov, ou, ts⟩, sg, im⟩ now).1.t.r.version, dL (beginG b l ⟨⟨ws, fu⟩, up, ⟨⟨tv, tk, tt⟩, tn⟩, vo, di⟩ ⟨rs, rg, ⟨ov, ou, ts⟩, sg, im⟩ now).1.t.r.keys, dI (beginG b l ⟨⟨ws, fu⟩, up, ⟨⟨tv, tk, tt⟩, tn⟩, vo, di⟩ ⟨rs, rg, ⟨ov, ou, ts⟩, sg, im⟩ now).1.t.r.thr, dI (beginG b l ⟨⟨ws, fu⟩, up, ⟨⟨tv, tk, tt⟩, tn⟩, vo, di⟩ ⟨rs, rg, ⟨ov, ou, ts⟩, sg, im⟩ now).1.t.version, dLb (beginG b l ⟨⟨ws, fu⟩, up, ⟨⟨tv, tk, tt⟩, tn⟩, vo, di⟩ ⟨rs, rg, ⟨ov, ou, ts⟩, sg, im⟩ now).1.voted, dLb (beginG b l ⟨⟨ws, fu⟩, up, ⟨⟨tv, tk, tt⟩, tn⟩, vo, di⟩ ⟨rs, rg, ⟨ov, ou, ts⟩, sg, im⟩ now).1.did], .one (dI (beginG b l ⟨⟨ws, fu⟩, up, ⟨⟨tv, tk, tt⟩, tn⟩, vo, di⟩ ⟨rs, rg, ⟨ov, ou, ts⟩, sg, im⟩ now).2.1), .one (dI (beginG b l ⟨⟨ws, fu⟩, up, ⟨⟨tv, tk, tt⟩, tn⟩, vo, di⟩ ⟨rs, rg, ⟨ov, ou, ts⟩, sg, im⟩ now).2.2)]) []) : ∃ m, goD Γ_gate_Begin tab fn_gate_Begin 0 K m [.code (bodyOf fn_gate_Begin)] (initSt [.agg [.dat (.list .str) b], .one (.dat (.list .signed) l), .agg [dL ws, dI fu, dB up, dI tv, dL tk, dI tt, dI tn, dLb vo, dLb di], .agg [.dat (.list .root) rs, dR rg, dI ov, dI ou, .dat (.list .target) ts, dL sg, dR im], .one (dI now)] []) := by
  refine ⟨1, ?_⟩
  rw [gate_Begin_w, gate_Begin_vc _ _ _ _ _ _ _ _ _ _ _ _ _ _ _ _ _ _ _ _ _ _ rfl _ rfl _ rfl _ rfl _ rfl]
  unfold beginG beginE begunG at hK
  simp only at hK
  have hv0 := ofG_ok ⟨ws, fu⟩
  obtain ⟨s, hs⟩ : ∃ s, ofG ⟨ws, fu⟩ = s := ⟨_, rfl⟩
  rw [hs] at hK hv0 ⊢
  obtain ⟨t, ht⟩ : ∃ t, takeT b l ⟨⟨tv, tk, tt⟩, tn⟩ ⟨rs, rg, ⟨ov, ou, ts⟩, sg, im⟩ now (vo.length : Int) = t := ⟨_, rfl⟩
  rw [show ((len vo : Nat) : Int) = (vo.length : Int) from rfl]
  rw [ht] at hK ⊢
  have n0 := hv0.n0
  have n8 := hv0.n8
  have ew : w64 (s.n + 1) = s.n + 1 := w64_id (by omega) (by omega)
  rw [ew]
  refine ne_s (fun h => ?_) (fun h => ?_)
  · rw [if_neg h, if_neg h] at hK; exact hK
  have hc : checkG ⟨⟨ws, fu⟩, up, ⟨⟨tv, tk, tt⟩, tn⟩, vo, di⟩ = 0 := upG_check h
  obtain ⟨s1, s2, s3, s4⟩ := checkG_sm hc
  obtain ⟨_, _, l1, l2, _⟩ := note_allG (r := [1, s.n + 1, ov]) (checkG_ok hc).1
  rw [if_pos h] at hK
  by_cases c : 0 < s.n ∧ s.ended = false
  · rw [if_pos c, if_neg (by omega)] at hK
    exact lt_t c.1 (nt_t c.2 hK)
  rw [if_neg c] at hK
  have key : br (eqi s.n 8) (K (.tup [.agg [dL [], dI (0 : Int), dB false, dI (0 : Int), dL [], dI (0 : Int), dI (0 : Int), dLb [], dLb []], .one (dI (0 : Int)), .one (dI (8 : Int))]) []) (((List.length b) ≤ 140737488355328) ∧
      (br (!(eqi t.2 (0 : Int)))
       (K (.tup [.agg [dL [], dI (0 : Int), dB false, dI (0 : Int), dL [], dI (0 : Int), dI (0 : Int), dLb [], dLb []], .one (dI (0 : Int)), .one (dI t.2)]) [])
       (((((len ws) * 8) ≤ 140737488355328) ∧ ((((len tk) * 8) ≤ 140737488355328) ∧ (((len vo) ≤ 1000) ∧ ((len di) ≤ 1000)))) ∧
        (((List.length ((1 : Int) :: (s.n + 1) :: (ov :: []))) ≤ 140737488355328) ∧
        (br (!(noteG ⟨⟨ws, fu⟩, up, ⟨⟨tv, tk, tt⟩, tn⟩, vo, di⟩ [1, s.n + 1, ov]).2)
         (K (.tup [.agg [dL (((noteG ⟨⟨ws, fu⟩, up, ⟨⟨tv, tk, tt⟩, tn⟩, vo, di⟩ [1, s.n + 1, ov]).1).f).words, dI (((noteG ⟨⟨ws, fu⟩, up, ⟨⟨tv, tk, tt⟩, tn⟩, vo, di⟩ [1, s.n + 1, ov]).1).f).fuel, dB ((noteG ⟨⟨ws, fu⟩, up, ⟨⟨tv, tk, tt⟩, tn⟩, vo, di⟩ [1, s.n + 1, ov]).1).up, dI ((((noteG ⟨⟨ws, fu⟩, up, ⟨⟨tv, tk, tt⟩, tn⟩, vo, di⟩ [1, s.n + 1, ov]).1).t).r).version, dL ((((noteG ⟨⟨ws, fu⟩, up, ⟨⟨tv, tk, tt⟩, tn⟩, vo, di⟩ [1, s.n + 1, ov]).1).t).r).keys, dI ((((noteG ⟨⟨ws, fu⟩, up, ⟨⟨tv, tk, tt⟩, tn⟩, vo, di⟩ [1, s.n + 1, ov]).1).t).r).thr, dI (((noteG ⟨⟨ws, fu⟩, up, ⟨⟨tv, tk, tt⟩, tn⟩, vo, di⟩ [1, s.n + 1, ov]).1).t).version, dLb ((noteG ⟨⟨ws, fu⟩, up, ⟨⟨tv, tk, tt⟩, tn⟩, vo, di⟩ [1, s.n + 1, ov]).1).voted, dLb ((noteG ⟨⟨ws, fu⟩, up, ⟨⟨tv, tk, tt⟩, tn⟩, vo, di⟩ [1, s.n + 1, ov]).1).did], .one (dI (0 : Int)), .one (dI (0 : Int))]) [])
         (K (.tup [.agg [dL (((noteG ⟨⟨ws, fu⟩, up, ⟨⟨tv, tk, tt⟩, tn⟩, vo, di⟩ [1, s.n + 1, ov]).1).f).words, dI (((noteG ⟨⟨ws, fu⟩, up, ⟨⟨tv, tk, tt⟩, tn⟩, vo, di⟩ [1, s.n + 1, ov]).1).f).fuel, dB ((noteG ⟨⟨ws, fu⟩, up, ⟨⟨tv, tk, tt⟩, tn⟩, vo, di⟩ [1, s.n + 1, ov]).1).up, dI ((t.fst).r).version, dL ((t.fst).r).keys, dI ((t.fst).r).thr, dI (t.fst).version, dLb (zeros (List.length ((noteG ⟨⟨ws, fu⟩, up, ⟨⟨tv, tk, tt⟩, tn⟩, vo, di⟩ [1, s.n + 1, ov]).1).voted) false), dLb (zeros (List.length ((noteG ⟨⟨ws, fu⟩, up, ⟨⟨tv, tk, tt⟩, tn⟩, vo, di⟩ [1, s.n + 1, ov]).1).did) false)], .one (dI (s.n + 1)), .one (dI (0 : Int))]) [])))))) := by
    refine eq_s (fun c2 => ?_) (fun c2 => ?_)
    · rw [if_pos c2, if_neg (by omega)] at hK; exact hK
    rw [if_neg c2] at hK
    refine ⟨hp, ne_s (fun c3 => ?_) (fun c3 => ⟨⟨s1, s2, s3, s4⟩, by simp, ?_⟩)⟩
    · rw [if_neg c3] at hK; exact hK
    rw [if_pos c3] at hK
    rw [l1, l2]
    refine nt_s (fun c4 => ?_) (fun c4 => ?_)
    · rw [if_neg (by rw [c4]; simp)] at hK; exact hK
    · rw [if_pos c4] at hK; exact hK
  refine lt_s (fun c1 => nt_s (fun c2 => absurd ⟨c1, c2⟩ c) (fun _ => key)) (fun _ => key)
theorem sound_gate_Begin : SoundC Tryd.prog tab n_gate_Begin c_gate_Begin := soundC_of ok_gate_Begin hf_gate_Begin hB_gate_Begin (by
  intro vs bs p v bs' h hp
  unfold c_gate_Begin at h
  split at h
  · cases h
    exact ⟨by kernel_rfl, rfl, .inl (run_gate_Begin _ _ _ _ _ _ _ _ _ _ _ _ _ _ _ _ _ _ _ hp.1 _ ⟨rfl, rfl⟩)⟩
  · cases h)

def c_gate_decision : Contract := fun vs bs => match vs, bs with
  | [.agg [.dat .int gn, .dat .int gv, .dat .bool gc, .dat .bool ga, .dat .bool ge], .one (.dat .int u), .one (.dat .int n)], [] => some (none, .agg [.dat .int (kindG ⟨gn, gv, gc, ga, ge⟩ n), .dat .int u, .dat .int n, .dat .int 0, .dat .int 0, .dat (.list .int) [], .dat .bool false], [])
  | _, _ => none
def Γ_gate_decision : Ctx := []
theorem ok_gate_decision : Ok Tryd.prog tab Γ_gate_decision := ok_nil
theorem gate_decision_vc (gn : Int) (gv : Int) (gc : Bool) (ga : Bool) (ge : Bool) (u : Int) (n : Int) (rec : RK) (K : KK) v0 (hv0 : v0 = (K (.agg [dI (5 : Int), dI u, dI n, dI (0 : Int), dI (0 : Int), dL [], dB false]) [])) : segD Γ_gate_decision tab fn_gate_decision 0 K rec [.code (bodyOf fn_gate_decision)] (initSt [.agg [dI gn, dI gv, dB gc, dB ga, dB ge], .one (dI u), .one (dI n)] []) = (
 br gc
 (br (eqi gn n)
 (K (.agg [dI (4 : Int), dI u, dI n, dI (0 : Int), dI (0 : Int), dL [], dB false]) [])
 v0)
 v0) := by subst_vars; kernel_rfl
theorem gate_decision_w (m : Nat) (K : KK) (st : St) : goD Γ_gate_decision tab fn_gate_decision 0 K (m + 1) [.code (bodyOf fn_gate_decision)] st = segD Γ_gate_decision tab fn_gate_decision 0 K (goD Γ_gate_decision tab fn_gate_decision 0 K m) [.code (bodyOf fn_gate_decision)] st := rfl

set_option maxHeartbeats 4000000 in
theorem run_gate_decision (gn gv : Int) (gc ga ge : Bool) (u n : Int) (K : KK) (hK : K (.agg [dI (kindG ⟨gn, gv, gc, ga, ge⟩ n), dI u, dI n, dI 0, dI 0, dL [], dB false]) []) : ∃ m, goD Γ_gate_decision tab fn_gate_decision 0 K m [.code (bodyOf fn_gate_decision)] (initSt [.agg [dI gn, dI gv, dB gc, dB ga, dB ge], .one (dI u), .one (dI n)] []) := by
  refine ⟨1, ?_⟩
  rw [gate_decision_w, gate_decision_vc _ _ _ _ _ _ _ _ _ _ rfl]
  unfold kindG at hK
  cases gc
  · rw [if_neg (by simp)] at hK
    exact br_f rfl hK
  · refine br_t rfl (eq_s (fun h => ?_) (fun h => ?_))
    · rw [if_pos ⟨rfl, h⟩] at hK; exact hK
    · rw [if_neg (fun q => h q.2)] at hK; exact hK
theorem sound_gate_decision : SoundC Tryd.prog tab n_gate_decision c_gate_decision := soundC_of ok_gate_decision hf_gate_decision hB_gate_decision (by
  intro vs bs p v bs' h hp
  unfold c_gate_decision at h
  split at h
  · cases h
    exact ⟨by kernel_rfl, rfl, .inl (run_gate_decision _ _ _ _ _ _ _ _ ⟨rfl, rfl⟩)⟩
  · cases h)

def c_gate_Due : Contract := fun vs bs => match vs, bs with
  | [.agg [.dat (.list .int) ws, .dat .int fu, .dat .bool up, .dat .int tv, .dat (.list .int) tk, .dat .int tt, .dat .int tn, .dat (.list .bool) vo, .dat (.list .bool) di], .agg [.dat .int cn, .dat .int cv, .dat .int cu, .dat (.list .target) ct, .dat (.list (.list .int)) ci], .one (.dat .int u)], [] => some (some (ct.length ≤ 140737488355328 ∧ ci.length ≤ 140737488355328), .tup [.one (.dat (.list .message) (dueG ⟨⟨ws, fu⟩, up, ⟨⟨tv, tk, tt⟩, tn⟩, vo, di⟩ ⟨cn, ⟨cv, cu, ct⟩, ci⟩ u).1), .one (.dat .int (dueG ⟨⟨ws, fu⟩, up, ⟨⟨tv, tk, tt⟩, tn⟩, vo, di⟩ ⟨cn, ⟨cv, cu, ct⟩, ci⟩ u).2)], [])
  | _, _ => none
def Γ_gate_Due : Ctx := [(n_gate_up, c_gate_up), (n_gate_of, c_gate_of), (n_gate_decision, c_gate_decision), (n_slices_Clone_Lint, c_slices_Clone_Lint)]
theorem ok_gate_Due : Ok Tryd.prog tab Γ_gate_Due := ((((ok_nil.consC hf_slices_Clone_Lint hB_slices_Clone_Lint sound_slices_Clone_Lint).consC hf_gate_decision hB_gate_decision sound_gate_decision).consC hf_gate_of hB_gate_of sound_gate_of).consC hf_gate_up hB_gate_up sound_gate_up)
noncomputable def gate_Due_L0 : List It := [.inLoop [12, 11, 10, 9, 7, 6, 4, 2] (Code.sub (bodyOf fn_gate_Due) [1, 1, 1, 1, 1, 1, 1, 1, 1, 1, 0, 1, 0, 0]), .inBlock 0, .code (Code.sub (bodyOf fn_gate_Due) [1, 1, 1, 1, 1, 1, 1, 1, 1, 1, 1])]
def gate_Due_S0 (x0 : Int) (x1 : (List Int)) (x2 : Int) (x3 : Int) (x4 : (List Vm.Message)) (x5 : Int) (x6 : Int) (x7 : Bool) (x8 : Bool) (x9 : Bool) (x10 : (List Vm.Message)) (x11 : Int) (x12 : Int) (x13 : Int) (x14 : (List Vm.Target)) (x15 : (List (List Int))) : St := ⟨[(12, .one (dI x0)), (11, .one (.own 0)), (10, .one (dL x1)), (9, .one (.ptr 1 0)), (7, .one (dI x2)), (6, .one (.own 2)), (4, .one (.ptr 3 0)), (2, .one (dI x3))], [(0, .arr Ty.message x4), (1, .box [dI x5, dI x6, dB x7, dB x8, dB x9]), (2, .arr Ty.message x10), (3, .box [dI x11, dI x12, dI x13, .dat (Ty.list Ty.target) x14, dR x15])], 4⟩
theorem gate_Due_vc (ws : List Int) (fu : Int) (up : Bool) (tv : Int) (tk : List Int) (tt : Int) (tn : Int) (vo : List Bool) (di : List Bool) (cn : Int) (cv : Int) (cu : Int) (ct : List Vm.Target) (ci : List (List Int)) (u : Int) (rec : RK) (K : KK) v0 (hv0 : v0 = (upG ⟨⟨ws, fu⟩, up, ⟨⟨tv, tk, tt⟩, tn⟩, vo, di⟩)) v1 (hv1 : v1 = (ofG ⟨ws, fu⟩)) v2 (hv2 : v2 = (kindG ⟨v1.n, v1.version, v1.commit, v1.abort, v1.ended⟩ v1.n)) v3 (hv3 : v3 = (br (nth di (Int.toNat u) (Ty.dflt Ty.bool))
 (K (.tup [.one (dM []), .one (dI (0 : Int))]) [])
 (K (.tup [.one (dM ((⟨v2, u, v1.n, (0 : Int), (0 : Int), [], false⟩ : Vm.Message) :: [])), .one (dI (0 : Int))]) []))) : segD Γ_gate_Due tab fn_gate_Due 0 K rec [.code (bodyOf fn_gate_Due)] (initSt [.agg [dL ws, dI fu, dB up, dI tv, dL tk, dI tt, dI tn, dLb vo, dLb di], .agg [dI cn, dI cv, dI cu, .dat (Ty.list Ty.target) ct, dR ci], .one (dI u)] []) = (
 br (!(eqi v0 (0 : Int)))
 (K (.tup [.one (dM []), .one (dI v0)]) [])
 (br (eqi v1.n (0 : Int))
 (K (.tup [.one (dM []), .one (dI (12 : Int))]) [])
 (br v1.ended
 (K (.tup [.one (dM []), .one (dI (12 : Int))]) [])
 (br (lti u (0 : Int))
 (K (.tup [.one (dM []), .one (dI (5 : Int))]) [])
 (br (lei (((len vo) : Nat) : Int) u)
 (K (.tup [.one (dM []), .one (dI (5 : Int))]) [])
 (br (!(eqi cn v1.n))
 (K (.tup [.one (dM []), .one (dI (5 : Int))]) [])
 (br (lei (((len ci) : Nat) : Int) u)
 (K (.tup [.one (dM []), .one (dI (5 : Int))]) [])
 (br (lei (((len ct) : Nat) : Int) u)
 (K (.tup [.one (dM []), .one (dI (5 : Int))]) [])
 (br v1.commit
 ((((0 : Int) ≤ u) ∧ (u < (((len di) : Nat) : Int))) ∧
 v3)
 (br v1.abort
 ((((0 : Int) ≤ u) ∧ (u < (((len di) : Nat) : Int))) ∧
 v3)
 ((((0 : Int) ≤ u) ∧ (u < (((len vo) : Nat) : Int))) ∧
 (br (nth vo (Int.toNat u) (Ty.dflt Ty.bool))
 (K (.tup [.one (dM []), .one (dI (0 : Int))]) [])
 ((((0 : Int) ≤ u) ∧ (u < (((len ci) : Nat) : Int))) ∧
 (br (lti (40 : Int) (((len (nth ci (Int.toNat u) (Ty.dflt (Ty.list Ty.int)))) : Nat) : Int))
 (K (.tup [.one (dM []), .one (dI (2 : Int))]) [])
 (rec gate_Due_L0 (gate_Due_S0 (0 : Int) (nth ci (Int.toNat u) (Ty.dflt (Ty.list Ty.int))) (0 : Int) u [] v1.n v1.version v1.commit v1.abort v1.ended [] cn cv cu ct ci)))))))))))))))) := by subst_vars; kernel_rfl
theorem gate_Due_w (m : Nat) (K : KK) (st : St) : goD Γ_gate_Due tab fn_gate_Due 0 K (m + 1) [.code (bodyOf fn_gate_Due)] st = segD Γ_gate_Due tab fn_gate_Due 0 K (goD Γ_gate_Due tab fn_gate_Due 0 K m) [.code (bodyOf fn_gate_Due)] st := rfl
theorem gate_Due_vc0 (x0 : Int) (x1 : (List Int)) (x2 : Int) (x3 : Int) (x4 : (List Vm.Message)) (x5 : Int) (x6 : Int) (x7 : Bool) (x8 : Bool) (x9 : Bool) (x10 : (List Vm.Message)) (x11 : Int) (x12 : Int) (x13 : Int) (x14 : (List Vm.Target)) (x15 : (List (List Int))) (rec : RK) (K : KK) : segD Γ_gate_Due tab fn_gate_Due 0 K rec (.code (Code.sub (bodyOf fn_gate_Due) [1, 1, 1, 1, 1, 1, 1, 1, 1, 1, 0, 1, 0, 0]) :: gate_Due_L0) (gate_Due_S0 x0 x1 x2 x3 x4 x5 x6 x7 x8 x9 x10 x11 x12 x13 x14 x15) = (
 br (lti x0 (((len x1) : Nat) : Int))
 ((((0 : Int) ≤ x0) ∧ ((x0 ≤ (min (w64 (x0 + (8 : Int))) (((len x1) : Nat) : Int))) ∧ ((min (w64 (x0 + (8 : Int))) (((len x1) : Nat) : Int)) ≤ (((len x1) : Nat) : Int)))) ∧
 ((((len (slc x1 (Int.toNat x0) (Int.toNat (min (w64 (x0 + (8 : Int))) (((len x1) : Nat) : Int))))) * 8) ≤ 140737488355328) ∧
 (((((len x4) + (len ((⟨(1 : Int), x3, x5, x0, (0 : Int), (slc x1 (Int.toNat x0) (Int.toNat (min (w64 (x0 + (8 : Int))) (((len x1) : Nat) : Int)))), false⟩ : Vm.Message) :: []))) * 72) ≤ 140737488355328) ∧
 (rec gate_Due_L0 (gate_Due_S0 (w64 (x0 + (8 : Int))) x1 x2 x3 (cat x4 ((⟨(1 : Int), x3, x5, x0, (0 : Int), (slc x1 (Int.toNat x0) (Int.toNat (min (w64 (x0 + (8 : Int))) (((len x1) : Nat) : Int)))), false⟩ : Vm.Message) :: [])) x5 x6 x7 x8 x9 x10 x11 x12 x13 x14 x15)))))
 ((((0 : Int) ≤ x3) ∧ (x3 < (((len x14) : Nat) : Int))) ∧
 (((((len x4) + (len ((⟨(2 : Int), x3, x5, (((len x1) : Nat) : Int), ((nth x14 (Int.toNat x3) (Ty.dflt Ty.target))).image, [], false⟩ : Vm.Message) :: []))) * 72) ≤ 140737488355328) ∧
 (K (.tup [.one (dM (cat x4 ((⟨(2 : Int), x3, x5, (((len x1) : Nat) : Int), ((nth x14 (Int.toNat x3) (Ty.dflt Ty.target))).image, [], false⟩ : Vm.Message) :: []))), .one (dI (0 : Int))]) [])))) := by kernel_rfl
theorem gate_Due_w0 (m : Nat) (K : KK) (st : St) : goD Γ_gate_Due tab fn_gate_Due 0 K (m + 1) gate_Due_L0 st = segD Γ_gate_Due tab fn_gate_Due 0 K (goD Γ_gate_Due tab fn_gate_Due 0 K m) (.code (Code.sub (bodyOf fn_gate_Due) [1, 1, 1, 1, 1, 1, 1, 1, 1, 1, 0, 1, 0, 0]) :: gate_Due_L0) st := rfl

theorem loop_gate_Due (w : List Int) (u n : Int) (hw : w.length ≤ 40) (a b : Int) (c d e : Bool) (ml : List Vm.Message) (cn cv cu : Int) (ct : List Vm.Target) (ci : List (List Int)) (hu : 0 ≤ u ∧ u < (ct.length : Int)) (K : KK) :
    ∀ (f k : Nat) (acc : List Vm.Message), w.length ≤ k + 8 * f → k ≤ 48 → acc.length + f ≤ 6 → K (.tup [.one (dM (acc ++ (piecesM u n w f k ++ [⟨2, u, n, (w.length : Int), (nth ct u.toNat ⟨0, 0, 0⟩).image, [], false⟩]))), .one (dI (0 : Int))]) [] →
    goD Γ_gate_Due tab fn_gate_Due 0 K (f + 1) gate_Due_L0 (gate_Due_S0 (k : Int) w a u acc n b c d e ml cn cv cu ct ci)
  | 0, k, acc, hk, h48, ha, hK => by
    rw [gate_Due_w0, gate_Due_vc0 _ _ _ _ _ _ _ _ _ _ _ _ _ _ _ _ _ _]
    exact lt_f (by simp only [len]; omega) ⟨⟨hu.1, by simp only [len]; omega⟩, by simp only [len, List.length_cons, List.length_nil]; omega, hK⟩
  | f + 1, k, acc, hk, h48, ha, hK => by
    rw [gate_Due_w0, gate_Due_vc0 _ _ _ _ _ _ _ _ _ _ _ _ _ _ _ _ _ _]
    by_cases c : k < w.length
    · simp only [piecesM, if_pos c] at hK
      have em : min (w64 ((k : Int) + 8)) (((len w : Nat)) : Int) = ((min (k + 8) w.length : Nat) : Int) := by rw [w64_id (by omega) (by omega)]; simp only [len]; omega
      rw [em, toNat_nat, toNat_nat, show w64 ((k : Int) + 8) = ((k + 8 : Nat) : Int) by rw [w64_id (by omega) (by omega)]; omega]
      have lp : len (slc w k (min (k + 8) w.length)) ≤ 8 := by simp only [len, slc, List.length_drop, List.length_take]; omega
      refine lt_t (by simp only [len]; omega) ⟨⟨by omega, by omega, by simp only [len]; omega⟩, by omega, by simp only [len, List.length_cons, List.length_nil]; omega, ?_⟩
      refine loop_gate_Due w u n hw a b _ d e ml cn cv cu ct ci hu K f (k + 8) _ (by omega) (by omega) (by simp only [cat, List.length_append, List.length_cons, List.length_nil]; omega) ?_
      simp only [cat, List.append_assoc, List.cons_append, List.nil_append] at hK ⊢
      exact hK
    · simp only [piecesM, if_neg c] at hK
      exact lt_f (by simp only [len]; omega) ⟨⟨hu.1, by simp only [len]; omega⟩, by simp only [len, List.length_cons, List.length_nil]; omega, hK⟩
set_option maxHeartbeats 4000000 in
theorem run_gate_Due (ws : List Int) (fu : Int) (up : Bool) (tv : Int) (tk : List Int) (tt tn : Int) (vo di : List Bool)(cn cv cu : Int) (ct : List Vm.Target) (ci : List (List Int)) (u : Int) (hp : ct.length ≤ 140737488355328 ∧ ci.length ≤ 140737488355328) (K : KK) (hK : K (.tup [.one (dM (dueG ⟨⟨ws, fu⟩, up, ⟨⟨tv, tk, tt⟩, tn⟩, vo, di⟩ ⟨cn, ⟨cv, cu, ct⟩, ci⟩ u).1), .one (dI (dueG ⟨⟨ws, fu⟩, up, ⟨⟨tv, tk, tt⟩, tn⟩, vo, di⟩ ⟨cn, ⟨cv, cu, ct⟩, ci⟩ u).2)]) []) : ∃ m, goD Γ_gate_Due tab fn_gate_Due 0 K m [.code (bodyOf fn_gate_Due)] (initSt [.agg [dL ws, dI fu, dB up, dI tv, dL tk, dI tt, dI tn, dLb vo, dLb di], .agg [dI cn, dI cv, dI cu, .dat (.list .target) ct, dR ci], .one (dI u)] []) := by
  unfold dueG dueE duesG at hK
  simp only at hK
  have lv : ((len vo : Nat) : Int) = (vo.length : Int) := rfl
  have ld : ((len di : Nat) : Int) = (di.length : Int) := rfl
  have lc : ((len ci : Nat) : Int) = (ci.length : Int) := rfl
  have lt : ((len ct : Nat) : Int) = (ct.length : Int) := rfl
  obtain ⟨s, hs⟩ : ∃ s, ofG ⟨ws, fu⟩ = s := ⟨_, rfl⟩
  rw [hs] at hK
  refine ⟨7 + 1, ?_⟩
  rw [gate_Due_w, gate_Due_vc _ _ _ _ _ _ _ _ _ _ _ _ _ _ _ _ _ _ rfl _ rfl _ rfl _ rfl, hs, lv, ld, lc, lt]
  refine ne_s (fun h => ?_) (fun h => ?_)
  · rw [if_neg h, if_neg h] at hK; exact hK
  have hc : checkG ⟨⟨ws, fu⟩, up, ⟨⟨tv, tk, tt⟩, tn⟩, vo, di⟩ = 0 := upG_check h
  obtain ⟨_, v1, v2, v3, _⟩ := checkG_ok hc
  simp only at v1 v2 v3
  rw [if_pos h] at hK
  by_cases c1 : s.n = 0 ∨ s.ended = true
  · rw [if_pos c1, if_neg (by decide)] at hK
    exact eq_s (fun _ => hK) (fun q => br_t (c1.resolve_left q) hK)
  rw [if_neg c1] at hK
  simp only [not_or, Bool.not_eq_true] at c1
  refine eq_f c1.1 (br_f c1.2 ?_)
  by_cases c2 : u < 0 ∨ (vo.length : Int) ≤ u ∨ cn ≠ s.n ∨ (ci.length : Int) ≤ u ∨ (ct.length : Int) ≤ u
  · rw [if_pos c2, if_neg (by decide)] at hK
    exact lt_s (fun _ => hK) (fun q1 => br_split (fun _ => hK) (fun q2 => ne_s (fun _ => hK) (fun q3 => br_split (fun _ => hK) (fun q4 => br_t (lei_true.2 (by rw [lei_false] at q2 q4; omega)) hK))))
  rw [if_neg c2, if_pos rfl] at hK
  refine lt_f (by omega) (br_f (lei_false.2 (by omega)) (ne_f (by omega) (br_f (lei_false.2 (by omega)) (br_f (lei_false.2 (by omega)) ?_))))
  have dec : s.commit = true ∨ s.abort = true → br (nth di (Int.toNat u) (Ty.dflt Ty.bool)) (K (.tup [.one (dM []), .one (dI (0 : Int))]) [])
      (K (.tup [.one (dM ((⟨kindG s s.n, u, s.n, (0 : Int), (0 : Int), [], false⟩ : Vm.Message) :: [])), .one (dI (0 : Int))]) []) := fun hd => by
    rw [if_pos hd] at hK
    refine br_split (fun q => ?_) (fun q => ?_)
    · rw [if_pos (by exact q)] at hK; exact hK
    · rw [if_neg (by exact Bool.eq_false_iff.1 q)] at hK; exact hK
  refine br_split (fun d1 => ⟨⟨by omega, by omega⟩, dec (.inl d1)⟩) (fun d1 => br_split (fun d2 => ⟨⟨by omega, by omega⟩, dec (.inr d2)⟩) (fun d2 => ⟨⟨by omega, by omega⟩, ?_⟩))
  rw [if_neg (by rw [d1, d2]; simp)] at hK
  refine br_split (fun q => ?_) (fun q => ⟨⟨by omega, by omega⟩, ?_⟩)
  · rw [if_pos (by exact q)] at hK; exact hK
  rw [if_neg (by exact Bool.eq_false_iff.1 q)] at hK
  unfold imageM at hK
  simp only at hK
  obtain ⟨w, hw⟩ : ∃ w, nth ci (Int.toNat u) (Ty.dflt (Ty.list Ty.int)) = w := ⟨_, rfl⟩
  have hw' : nth ci (Int.toNat u) [] = w := hw
  rw [hw]
  rw [hw'] at hK
  have lw : ((len w : Nat) : Int) = (w.length : Int) := rfl
  rw [lw]
  by_cases c3 : 40 < w.length
  · rw [if_pos c3] at hK
    exact lt_t (by omega) hK
  · rw [if_neg c3] at hK
    have hl := loop_gate_Due w u s.n (by omega) 0 s.version s.commit s.abort s.ended [] cn cv cu ct ci ⟨by omega, by omega⟩ K 6 0 [] (by omega) (by omega) (by simp) (by rw [List.nil_append]; exact hK)
    exact lt_f (by omega) hl
theorem sound_gate_Due : SoundC Tryd.prog tab n_gate_Due c_gate_Due := soundC_of ok_gate_Due hf_gate_Due hB_gate_Due (by
  intro vs bs p v bs' h hp
  unfold c_gate_Due at h
  split at h
  · cases h
    exact ⟨by kernel_rfl, rfl, .inl (run_gate_Due _ _ _ _ _ _ _ _ _ _ _ _ _ _ _ hp.1 _ ⟨rfl, rfl⟩)⟩
  · cases h)

abbrev n_slices_Index_Lbool_o : Nat := n_slices_Index_Lbool
noncomputable abbrev fn_slices_Index_Lbool_o : Func := fn_slices_Index_Lbool
theorem hf_slices_Index_Lbool_o : Tryd.prog.funcs[n_slices_Index_Lbool_o]? = some fn_slices_Index_Lbool_o := hf_slices_Index_Lbool
theorem hB_slices_Index_Lbool_o : fnB fn_slices_Index_Lbool_o = true := hB_slices_Index_Lbool
def c_slices_Index_Lbool_o : Contract := fun vs bs => match vs, bs with
  | [.one (.own 0), .one (.dat .bool x)], [.arr .bool l] => some (some (len l ≤ 1000), .one (.dat .int (indexB x 0 l)), [.arr .bool l])
  | _, _ => none
def Γ_slices_Index_Lbool_o : Ctx := []
theorem ok_slices_Index_Lbool_o : Ok Tryd.prog tab Γ_slices_Index_Lbool_o := ok_nil
noncomputable def slices_Index_Lbool_o_L0 : List It := [.inLoop [8, 7, 4, 0, 1] (Code.sub (bodyOf fn_slices_Index_Lbool_o) [1, 0, 1, 0, 0]), .inBlock 0, .code (Code.sub (bodyOf fn_slices_Index_Lbool_o) [1, 1])]
def slices_Index_Lbool_o_S0 (x0 : Int) (x1 : Int) (x2 : Int) (x3 : Bool) (x4 : (List Bool)) : St := ⟨[(8, .one (dI x0)), (7, .one (dI x1)), (4, .one (dI x2)), (0, .one (.own 0)), (1, .one (dB x3))], [(0, .arr Ty.bool x4)], 1⟩
theorem slices_Index_Lbool_o_vc (l : List Bool) (x : Bool) (rec : RK) (K : KK) : segD Γ_slices_Index_Lbool_o tab fn_slices_Index_Lbool_o 1 K rec [.code (bodyOf fn_slices_Index_Lbool_o)] (initSt [.one (.own 0), .one (dB x)] [.arr Ty.bool l]) = (
 rec slices_Index_Lbool_o_L0 (slices_Index_Lbool_o_S0 (0 : Int) (((len l) : Nat) : Int) (0 : Int) x l)) := by kernel_rfl
theorem slices_Index_Lbool_o_w (m : Nat) (K : KK) (st : St) : goD Γ_slices_Index_Lbool_o tab fn_slices_Index_Lbool_o 1 K (m + 1) [.code (bodyOf fn_slices_Index_Lbool_o)] st = segD Γ_slices_Index_Lbool_o tab fn_slices_Index_Lbool_o 1 K (goD Γ_slices_Index_Lbool_o tab fn_slices_Index_Lbool_o 1 K m) [.code (bodyOf fn_slices_Index_Lbool_o)] st := rfl
theorem slices_Index_Lbool_o_vc0 (x0 : Int) (x1 : Int) (x2 : Int) (x3 : Bool) (x4 : (List Bool)) (rec : RK) (K : KK) : segD Γ_slices_Index_Lbool_o tab fn_slices_Index_Lbool_o 1 K rec (.code (Code.sub (bodyOf fn_slices_Index_Lbool_o) [1, 0, 1, 0, 0]) :: slices_Index_Lbool_o_L0) (slices_Index_Lbool_o_S0 x0 x1 x2 x3 x4) = (
 br (lti x0 x1)
 ((((0 : Int) ≤ x0) ∧ (x0 < (((len x4) : Nat) : Int))) ∧
 (((Int.toNat x0) < (len x4)) ∧
 (br (eqb x3 (nth x4 (Int.toNat x0) (Ty.dflt Ty.bool)))
 (K (.one (dI x0)) [.arr Ty.bool x4])
 (rec slices_Index_Lbool_o_L0 (slices_Index_Lbool_o_S0 (w64 (x0 + (1 : Int))) x1 x2 x3 x4)))))
 (K (.one (dI (-(1 : Int)))) [.arr Ty.bool x4])) := by kernel_rfl
theorem slices_Index_Lbool_o_w0 (m : Nat) (K : KK) (st : St) : goD Γ_slices_Index_Lbool_o tab fn_slices_Index_Lbool_o 1 K (m + 1) slices_Index_Lbool_o_L0 st = segD Γ_slices_Index_Lbool_o tab fn_slices_Index_Lbool_o 1 K (goD Γ_slices_Index_Lbool_o tab fn_slices_Index_Lbool_o 1 K m) (.code (Code.sub (bodyOf fn_slices_Index_Lbool_o) [1, 0, 1, 0, 0]) :: slices_Index_Lbool_o_L0) st := rfl

theorem loop_slices_Index_Lbool_o (l : List Bool) (s : Bool) (hl : l.length ≤ 1000) (K : KK) : ∀ (d k : Nat), k + d = l.length → K (.one (dI (indexB s k (l.drop k)))) [.arr .bool l] →
    goD Γ_slices_Index_Lbool_o tab fn_slices_Index_Lbool_o 1 K (d + 1) slices_Index_Lbool_o_L0 (slices_Index_Lbool_o_S0 (k : Int) (((len l) : Nat) : Int) 0 s l)
  | 0, k, hk, hK => by
    rw [slices_Index_Lbool_o_w0, slices_Index_Lbool_o_vc0 _ _ _ _ _ _ _]
    rw [List.drop_of_length_le (by omega)] at hK
    exact lt_f (by simp only [len]; omega) hK
  | d + 1, k, hk, hK => by
    rw [slices_Index_Lbool_o_w0, slices_Index_Lbool_o_vc0 _ _ _ _ _ _ _, toNat_nat]
    rw [drop_step (by omega) (Ty.dflt Ty.bool)] at hK
    simp only [indexB] at hK
    refine lt_t (by simp only [len]; omega) ⟨⟨by omega, by simp only [len]; omega⟩, by simp only [len]; omega, br_split (fun h => ?_) (fun h => ?_)⟩
    · rw [if_pos (of_decide_eq_true h).symm] at hK; exact hK
    · rw [if_neg (fun e => of_decide_eq_false h e.symm)] at hK
      rw [w64_succ (by omega)]
      exact loop_slices_Index_Lbool_o l s hl K d (k + 1) (by omega) hK
set_option maxHeartbeats 4000000 in
theorem run_slices_Index_Lbool_o (l : List Bool) (x : Bool) (hp : len l ≤ 1000) (K : KK) (hK : K (.one (dI (indexB x 0 l))) [.arr .bool l]) : ∃ m, goD Γ_slices_Index_Lbool_o tab fn_slices_Index_Lbool_o 1 K m [.code (bodyOf fn_slices_Index_Lbool_o)] (initSt [.one (.own 0), .one (dB x)] [.arr .bool l]) := by
  refine ⟨l.length + 2, ?_⟩
  rw [slices_Index_Lbool_o_w, slices_Index_Lbool_o_vc _ _ _ _]
  exact loop_slices_Index_Lbool_o l x hp K l.length 0 (by omega) hK
theorem sound_slices_Index_Lbool_o : SoundC Tryd.prog tab n_slices_Index_Lbool_o c_slices_Index_Lbool_o := soundC_of ok_slices_Index_Lbool_o hf_slices_Index_Lbool_o hB_slices_Index_Lbool_o (by
  intro vs bs p v bs' h hp
  unfold c_slices_Index_Lbool_o at h
  split at h
  · cases h
    exact ⟨by kernel_rfl, rfl, .inl (run_slices_Index_Lbool_o _ _ hp.1 _ ⟨rfl, rfl⟩)⟩
  · cases h)

abbrev n_slices_Contains_Lbool_o : Nat := n_slices_Contains_Lbool
noncomputable abbrev fn_slices_Contains_Lbool_o : Func := fn_slices_Contains_Lbool
theorem hf_slices_Contains_Lbool_o : Tryd.prog.funcs[n_slices_Contains_Lbool_o]? = some fn_slices_Contains_Lbool_o := hf_slices_Contains_Lbool
theorem hB_slices_Contains_Lbool_o : fnB fn_slices_Contains_Lbool_o = true := hB_slices_Contains_Lbool
def c_slices_Contains_Lbool_o : Contract := fun vs bs => match vs, bs with
  | [.one (.own 0), .one (.dat .bool x)], [.arr .bool l] => some (some (len l ≤ 1000), .one (.dat .bool (hasB x l)), [.arr .bool l])
  | _, _ => none
def Γ_slices_Contains_Lbool_o : Ctx := [(n_slices_Index_Lbool_o, c_slices_Index_Lbool_o)]
theorem ok_slices_Contains_Lbool_o : Ok Tryd.prog tab Γ_slices_Contains_Lbool_o := (ok_nil.consC hf_slices_Index_Lbool_o hB_slices_Index_Lbool_o sound_slices_Index_Lbool_o)
theorem slices_Contains_Lbool_o_vc (l : List Bool) (x : Bool) (rec : RK) (K : KK) v0 (hv0 : v0 = (indexB x 0 l)) : segD Γ_slices_Contains_Lbool_o tab fn_slices_Contains_Lbool_o 1 K rec [.code (bodyOf fn_slices_Contains_Lbool_o)] (initSt [.one (.own 0), .one (dB x)] [.arr Ty.bool l]) = (
 ((len l) ≤ 1000) ∧
 (K (.one (dB (lei (0 : Int) v0))) [.arr Ty.bool l])) := by subst_vars; kernel_rfl
theorem slices_Contains_Lbool_o_w (m : Nat) (K : KK) (st : St) : goD Γ_slices_Contains_Lbool_o tab fn_slices_Contains_Lbool_o 1 K (m + 1) [.code (bodyOf fn_slices_Contains_Lbool_o)] st = segD Γ_slices_Contains_Lbool_o tab fn_slices_Contains_Lbool_o 1 K (goD Γ_slices_Contains_Lbool_o tab fn_slices_Contains_Lbool_o 1 K m) [.code (bodyOf fn_slices_Contains_Lbool_o)] st := rfl

set_option maxHeartbeats 4000000 in
theorem run_slices_Contains_Lbool_o (l : List Bool) (x : Bool) (hp : len l ≤ 1000) (K : KK) (hK : K (.one (dB (hasB x l))) [.arr .bool l]) : ∃ m, goD Γ_slices_Contains_Lbool_o tab fn_slices_Contains_Lbool_o 1 K m [.code (bodyOf fn_slices_Contains_Lbool_o)] (initSt [.one (.own 0), .one (dB x)] [.arr .bool l]) := by
  refine ⟨1, ?_⟩
  rw [slices_Contains_Lbool_o_w, slices_Contains_Lbool_o_vc _ _ _ _ _ rfl]
  exact ⟨hp, hK⟩
theorem sound_slices_Contains_Lbool_o : SoundC Tryd.prog tab n_slices_Contains_Lbool_o c_slices_Contains_Lbool_o := soundC_of ok_slices_Contains_Lbool_o hf_slices_Contains_Lbool_o hB_slices_Contains_Lbool_o (by
  intro vs bs p v bs' h hp
  unfold c_slices_Contains_Lbool_o at h
  split at h
  · cases h
    exact ⟨by kernel_rfl, rfl, .inl (run_slices_Contains_Lbool_o _ _ hp.1 _ ⟨rfl, rfl⟩)⟩
  · cases h)

def c_gate_Hear : Contract := fun vs bs => match vs, bs with
  | [.agg [.dat (.list .int) ws, .dat .int fu, .dat .bool up, .dat .int tv, .dat (.list .int) tk, .dat .int tt, .dat .int tn, .dat (.list .bool) vo, .dat (.list .bool) di], .agg [.dat .int mk, .dat .int mu, .dat .int mn, .dat .int ma, .dat .int mi, .dat (.list .int) mw, .dat .bool my]], [] => some (none, .tup [.agg [.dat (.list .int) (hearG ⟨⟨ws, fu⟩, up, ⟨⟨tv, tk, tt⟩, tn⟩, vo, di⟩ ⟨mk, mu, mn, ma, mi, mw, my⟩).1.1.f.words, .dat .int (hearG ⟨⟨ws, fu⟩, up, ⟨⟨tv, tk, tt⟩, tn⟩, vo, di⟩ ⟨mk, mu, mn, ma, mi, mw, my⟩).1.1.f.fuel, .dat .bool (hearG ⟨⟨ws, fu⟩, up, ⟨⟨tv, tk, tt⟩, tn⟩, vo, di⟩ ⟨mk, mu, mn, ma, mi, mw, my⟩).1.1.up, .dat .int (hearG ⟨⟨ws, fu⟩, up, ⟨⟨tv, tk, tt⟩, tn⟩, vo, di⟩ ⟨mk, mu, mn, ma, mi, mw, my⟩).1.1.t.r.version, .dat (.list .int) (hearG ⟨⟨ws, fu⟩, up, ⟨⟨tv, tk, tt⟩, tn⟩, vo, di⟩ ⟨mk, mu, mn, ma, mi, mw, my⟩).1.1.t.r.keys, .dat .int (hearG ⟨⟨ws, fu⟩, up, ⟨⟨tv, tk, tt⟩, tn⟩, vo, di⟩ ⟨mk, mu, mn, ma, mi, mw, my⟩).1.1.t.r.thr, .dat .int (hearG ⟨⟨ws, fu⟩, up, ⟨⟨tv, tk, tt⟩, tn⟩, vo, di⟩ ⟨mk, mu, mn, ma, mi, mw, my⟩).1.1.t.version, .dat (.list .bool) (hearG ⟨⟨ws, fu⟩, up, ⟨⟨tv, tk, tt⟩, tn⟩, vo, di⟩ ⟨mk, mu, mn, ma, mi, mw, my⟩).1.1.voted, .dat (.list .bool) (hearG ⟨⟨ws, fu⟩, up, ⟨⟨tv, tk, tt⟩, tn⟩, vo, di⟩ ⟨mk, mu, mn, ma, mi, mw, my⟩).1.1.did], .one (.dat (.list .message) (hearG ⟨⟨ws, fu⟩, up, ⟨⟨tv, tk, tt⟩, tn⟩, vo, di⟩ ⟨mk, mu, mn, ma, mi, mw, my⟩).1.2), .one (.dat .int (hearG ⟨⟨ws, fu⟩, up, ⟨⟨tv, tk, tt⟩, tn⟩, vo, di⟩ ⟨mk, mu, mn, ma, mi, mw, my⟩).2)], [])
  | _, _ => none
def Γ_gate_Hear : Ctx := [(n_gate_Check, c_gate_Check), (n_gate_Copy, c_gate_Copy), (n_gate_of_o, c_gate_of_o), (n_slices_Contains_Lbool_o, c_slices_Contains_Lbool_o), (n_gate_note, c_gate_note), (n_gate_decision, c_gate_decision)]
theorem ok_gate_Hear : Ok Tryd.prog tab Γ_gate_Hear := ((((((ok_nil.consC hf_gate_decision hB_gate_decision sound_gate_decision).consC hf_gate_note hB_gate_note sound_gate_note).consC hf_slices_Contains_Lbool_o hB_slices_Contains_Lbool_o sound_slices_Contains_Lbool_o).consC hf_gate_of_o hB_gate_of_o sound_gate_of_o).consC hf_gate_Copy hB_gate_Copy sound_gate_Copy).consC hf_gate_Check hB_gate_Check sound_gate_Check)
theorem gate_Hear_vc (ws : List Int) (fu : Int) (up : Bool) (tv : Int) (tk : List Int) (tt : Int) (tn : Int) (vo : List Bool) (di : List Bool) (mk : Int) (mu : Int) (mn : Int) (ma : Int) (mi : Int) (mw : List Int) (my : Bool) (rec : RK) (K : KK) v0 (hv0 : v0 = (checkG ⟨⟨ws, fu⟩, up, ⟨⟨tv, tk, tt⟩, tn⟩, vo, di⟩)) v1 (hv1 : v1 = (ofG ⟨ws, fu⟩)) v2 (hv2 : v2 = (hasB false (setAt di (Int.toNat mu) true))) v3 (hv3 : v3 = (noteG ⟨⟨ws, fu⟩, up, ⟨⟨tv, tk, tt⟩, tn⟩, vo, (setAt di (Int.toNat mu) true)⟩ ((4 : Int) :: (v1.n :: [])))) v4 (hv4 : v4 = (kindG ⟨v1.n, v1.version, v1.commit, v1.abort, v1.ended⟩ mn)) v5 (hv5 : v5 = (hasB false (setAt vo (Int.toNat mu) true))) v6 (hv6 : v6 = (noteG ⟨⟨ws, fu⟩, up, ⟨⟨tv, tk, tt⟩, tn⟩, (setAt vo (Int.toNat mu) true), di⟩ ((2 : Int) :: (v1.n :: [])))) v7 (hv7 : v7 = (br (eqi mk (3 : Int))
 (K (.tup [.agg [dL ws, dI fu, dB up, dI tv, dL tk, dI tt, dI tn, dLb vo, dLb di], .one (dM []), .one (dI (0 : Int))]) [])
 (br (eqi mk (6 : Int))
 (K (.tup [.agg [dL ws, dI fu, dB up, dI tv, dL tk, dI tt, dI tn, dLb vo, dLb di], .one (dM []), .one (dI (0 : Int))]) [])
 (br (eqi mk (7 : Int))
 (K (.tup [.agg [dL ws, dI fu, dB up, dI tv, dL tk, dI tt, dI tn, dLb vo, dLb di], .one (dM ((⟨v4, mu, mn, (0 : Int), (0 : Int), [], false⟩ : Vm.Message) :: [])), .one (dI (0 : Int))]) [])
 (K (.tup [.agg [dL ws, dI fu, dB up, dI tv, dL tk, dI tt, dI tn, dLb vo, dLb di], .one (dM []), .one (dI (0 : Int))]) []))))) v8 (hv8 : v8 = (br (!v2)
 (((List.length ((4 : Int) :: (v1.n :: []))) ≤ 140737488355328) ∧
 (K (.tup [.agg [dL v3.fst.f.words, dI v3.fst.f.fuel, dB v3.fst.up, dI v3.fst.t.r.version, dL v3.fst.t.r.keys, dI v3.fst.t.r.thr, dI v3.fst.t.version, dLb v3.fst.voted, dLb v3.fst.did], .one (dM []), .one (dI (0 : Int))]) []))
 (K (.tup [.agg [dL ws, dI fu, dB up, dI tv, dL tk, dI tt, dI tn, dLb vo, dLb (setAt di (Int.toNat mu) true)], .one (dM []), .one (dI (0 : Int))]) []))) v9 (hv9 : v9 = (K (.tup [.agg [dL ws, dI fu, dB up, dI tv, dL tk, dI tt, dI tn, dLb vo, dLb di], .one (dM ((⟨v4, mu, mn, (0 : Int), (0 : Int), [], false⟩ : Vm.Message) :: [])), .one (dI (0 : Int))]) [])) v10 (hv10 : v10 = (K (.tup [.agg [dL [], dI (0 : Int), dB false, dI (0 : Int), dL [], dI (0 : Int), dI (0 : Int), dLb [], dLb []], .one (dM []), .one (dI (3 : Int))]) [])) v11 (hv11 : v11 = (K (.tup [.agg [dL ws, dI fu, dB up, dI tv, dL tk, dI tt, dI tn, dLb vo, dLb di], .one (dM []), .one (dI (0 : Int))]) [])) : segD Γ_gate_Hear tab fn_gate_Hear 0 K rec [.code (bodyOf fn_gate_Hear)] (initSt [.agg [dL ws, dI fu, dB up, dI tv, dL tk, dI tt, dI tn, dLb vo, dLb di], .agg [dI mk, dI mu, dI mn, dI ma, dI mi, dL mw, dB my]] []) = (
 br (!(eqi v0 (0 : Int)))
 (K (.tup [.agg [dL [], dI (0 : Int), dB false, dI (0 : Int), dL [], dI (0 : Int), dI (0 : Int), dLb [], dLb []], .one (dM []), .one (dI v0)]) [])
 (br (lti mu (0 : Int))
 v10
 (br (lei (((len vo) : Nat) : Int) mu)
 v10
 (br (lti mn (1 : Int))
 v10
 (br (lti (8 : Int) mn)
 v10
 (((((len ws) * 8) ≤ 140737488355328) ∧ ((((len tk) * 8) ≤ 140737488355328) ∧ (((len vo) ≤ 1000) ∧ ((len di) ≤ 1000)))) ∧
 (br (!up)
 v11
 (br (eqi v1.n mn)
 (br v1.commit
 (br (eqi mk (3 : Int))
 (br (!(!v1.ended))
 v11
 v11)
 (br (eqi mk (6 : Int))
 (br (!(!v1.ended))
 v11
 ((((0 : Int) ≤ mu) ∧ (mu < (((len di) : Nat) : Int))) ∧
 (((Int.toNat mu) < (len di)) ∧
 (((len (setAt di (Int.toNat mu) true)) ≤ 1000) ∧
 v8))))
 (br (eqi mk (7 : Int))
 (br (!(!v1.ended))
 v9
 v9)
 v11)))
 (br (eqi mk (3 : Int))
 (br (!(!v1.ended))
 v11
 (br v1.abort
 v11
 (br (!my)
 v11
 ((((0 : Int) ≤ mu) ∧ (mu < (((len vo) : Nat) : Int))) ∧
 (((Int.toNat mu) < (len vo)) ∧
 (((len (setAt vo (Int.toNat mu) true)) ≤ 1000) ∧
 (br (!v5)
 (((List.length ((2 : Int) :: (v1.n :: []))) ≤ 140737488355328) ∧
 (K (.tup [.agg [dL v6.fst.f.words, dI v6.fst.f.fuel, dB v6.fst.up, dI v6.fst.t.r.version, dL v6.fst.t.r.keys, dI v6.fst.t.r.thr, dI v6.fst.t.version, dLb v6.fst.voted, dLb v6.fst.did], .one (dM []), .one (dI (0 : Int))]) []))
 (K (.tup [.agg [dL ws, dI fu, dB up, dI tv, dL tk, dI tt, dI tn, dLb (setAt vo (Int.toNat mu) true), dLb di], .one (dM []), .one (dI (0 : Int))]) []))))))))
 (br (eqi mk (6 : Int))
 (br (!(!v1.ended))
 v11
 (br (!v1.abort)
 v11
 ((((0 : Int) ≤ mu) ∧ (mu < (((len di) : Nat) : Int))) ∧
 (((Int.toNat mu) < (len di)) ∧
 (((len (setAt di (Int.toNat mu) true)) ≤ 1000) ∧
 v8)))))
 (br (eqi mk (7 : Int))
 (br (!(!v1.ended))
 v9
 (br v1.abort
 v9
 v11))
 v11))))
 (br v1.commit
 v7
 v7))))))))) := by subst_vars; kernel_rfl
theorem gate_Hear_w (m : Nat) (K : KK) (st : St) : goD Γ_gate_Hear tab fn_gate_Hear 0 K (m + 1) [.code (bodyOf fn_gate_Hear)] st = segD Γ_gate_Hear tab fn_gate_Hear 0 K (goD Γ_gate_Hear tab fn_gate_Hear 0 K m) [.code (bodyOf fn_gate_Hear)] st := rfl

set_option maxHeartbeats 4000000 in
theorem run_gate_Hear (ws : List Int) (fu : Int) (up : Bool) (tv : Int) (tk : List Int) (tt tn : Int) (vo di : List Bool)(mk mu mn ma mi : Int) (mw : List Int) (my : Bool) (K : KK) (hK : K (.tup [.agg [dL (hearG ⟨⟨ws, fu⟩, up, ⟨⟨tv, tk, tt⟩, tn⟩, vo, di⟩ ⟨mk, mu, mn, ma, mi, mw, my⟩).1.1.f.words, dI (hearG ⟨⟨ws, fu⟩, up, ⟨⟨tv, tk, tt⟩, tn⟩, vo, di⟩ ⟨mk, mu, mn, ma, mi, mw, my⟩).1.1.f.fuel, dB (hearG ⟨⟨ws, fu⟩, up, ⟨⟨tv, tk, tt⟩, tn⟩, vo, di⟩ ⟨mk, mu, mn, ma, mi, mw, my⟩).1.1.up, dI (hearG ⟨⟨ws, fu⟩, up, ⟨⟨tv, tk, tt⟩, tn⟩, vo, di⟩ ⟨mk, mu, mn, ma, mi, mw, my⟩).1.1.t.r.version, dL (hearG ⟨⟨ws, fu⟩, up, ⟨⟨tv, tk, tt⟩, tn⟩, vo, di⟩ ⟨mk, mu, mn, ma, mi, mw, my⟩).1.1.t.r.keys, dI (hearG ⟨⟨ws, fu⟩, up, ⟨⟨tv, tk, tt⟩, tn⟩, vo, di⟩ ⟨mk, mu, mn, ma, mi, mw, my⟩).1.1.t.r.thr, dI (hearG ⟨⟨ws, fu⟩, up, ⟨⟨tv, tk, tt⟩, tn⟩, vo, di⟩ ⟨mk, mu, mn, ma, mi, mw, my⟩).1.1.t.version, dLb (hearG ⟨⟨ws, fu⟩, up, ⟨⟨tv, tk, tt⟩, tn⟩, vo, di⟩ ⟨mk, mu, mn, ma, mi, mw, my⟩).1.1.voted, dLb (hearG ⟨⟨ws, fu⟩, up, ⟨⟨tv, tk, tt⟩, tn⟩, vo, di⟩ ⟨mk, mu, mn, ma, mi, mw, my⟩).1.1.did], .one (dM (hearG ⟨⟨ws, fu⟩, up, ⟨⟨tv, tk, tt⟩, tn⟩, vo, di⟩ ⟨mk, mu, mn, ma, mi, mw, my⟩).1.2), .one (dI (hearG ⟨⟨ws, fu⟩, up, ⟨⟨tv, tk, tt⟩, tn⟩, vo, di⟩ ⟨mk, mu, mn, ma, mi, mw, my⟩).2)]) []) : ∃ m, goD Γ_gate_Hear tab fn_gate_Hear 0 K m [.code (bodyOf fn_gate_Hear)] (initSt [.agg [dL ws, dI fu, dB up, dI tv, dL tk, dI tt, dI tn, dLb vo, dLb di], .agg [dI mk, dI mu, dI mn, dI ma, dI mi, dL mw, dB my]] []) := by
  refine ⟨1, ?_⟩
  rw [gate_Hear_w, gate_Hear_vc _ _ _ _ _ _ _ _ _ _ _ _ _ _ _ _ _ _ _ rfl _ rfl _ rfl _ rfl _ rfl _ rfl _ rfl _ rfl _ rfl _ rfl _ rfl _ rfl]
  refine ne_s (fun h => ?_) (fun h => ?_)
  · rw [show hearG ⟨⟨ws, fu⟩, up, ⟨⟨tv, tk, tt⟩, tn⟩, vo, di⟩ ⟨mk, mu, mn, ma, mi, mw, my⟩ = ((noGate, []), checkG ⟨⟨ws, fu⟩, up, ⟨⟨tv, tk, tt⟩, tn⟩, vo, di⟩) from by unfold hearG hearGE; rw [if_neg h, if_neg h]] at hK
    exact hK
  have lv : ((len vo : Nat) : Int) = (vo.length : Int) := rfl
  have ld : ((len di : Nat) : Int) = (di.length : Int) := rfl
  rw [lv, ld]
  by_cases c : mu < 0 ∨ (vo.length : Int) ≤ mu ∨ mn < 1 ∨ 8 < mn
  · rw [show hearG ⟨⟨ws, fu⟩, up, ⟨⟨tv, tk, tt⟩, tn⟩, vo, di⟩ ⟨mk, mu, mn, ma, mi, mw, my⟩ = ((noGate, []), 3) from by
      have e : hearGE ⟨⟨ws, fu⟩, up, ⟨⟨tv, tk, tt⟩, tn⟩, vo, di⟩ ⟨mk, mu, mn, ma, mi, mw, my⟩ = 3 := by unfold hearGE; rw [if_pos h, if_pos (by exact c)]
      unfold hearG; rw [e, if_neg (by decide)]] at hK
    exact lt_s (fun _ => hK) (fun _ => br_split (fun _ => hK) (fun h2 => lt_s (fun _ => hK) (fun _ => lt_t (by rw [lei_false] at h2; omega) hK)))
  obtain ⟨s1, s2, s3, s4⟩ := checkG_sm h
  obtain ⟨_, v1, v2, v3, _⟩ := checkG_ok h
  simp only at v1 v2 v3
  refine lt_f (by omega) (br_f (lei_false.2 (by omega)) (lt_f (by omega) (lt_f (by omega) ⟨⟨s1, s2, s3, s4⟩, ?_⟩)))
  rw [hearG_mk h (by simp only; omega)] at hK
  have lsv : len (setAt vo (Int.toNat mu) true) ≤ 1000 := by simp only [len, setAt_len]; omega
  have lsd : len (setAt di (Int.toNat mu) true) ≤ 1000 := by simp only [len, setAt_len]; omega
  have lnv : Int.toNat mu < len vo := by simp only [len]; omega
  have lnd : Int.toNat mu < len di := by simp only [len]; omega
  unfold hearsG at hK
  cases up
  · rw [if_neg (by simp)] at hK
    exact nt_t rfl hK
  rw [if_pos rfl] at hK
  refine nt_f rfl ?_
  obtain ⟨s, hs⟩ : ∃ s, ofG ⟨ws, fu⟩ = s := ⟨_, rfl⟩
  simp only [hs] at hK ⊢
  rw [show (⟨s.n, s.version, s.commit, s.abort, s.ended⟩ : Vm.GState) = s from rfl]
  obtain ⟨g, hg⟩ : ∃ g : Vm.Gate, (⟨⟨ws, fu⟩, true, ⟨⟨tv, tk, tt⟩, tn⟩, vo, di⟩ : Vm.Gate) = g := ⟨_, rfl⟩
  have hKa : hearsS g s ⟨mk, mu, mn, ma, mi, mw, my⟩ = (g, []) → K (.tup [.agg [dL ws, dI fu, dB true, dI tv, dL tk, dI tt, dI tn, dLb vo, dLb di], .one (dM []), .one (dI (0 : Int))]) [] := fun e => by rw [hg, e, ← hg] at hK; exact hK
  have hKb : hearsS g s ⟨mk, mu, mn, ma, mi, mw, my⟩ = (g, [decisionM s mu mn]) → K (.tup [.agg [dL ws, dI fu, dB true, dI tv, dL tk, dI tt, dI tn, dLb vo, dLb di], .one (dM [⟨kindG s mn, mu, mn, 0, 0, [], false⟩]), .one (dI (0 : Int))]) [] := fun e => by rw [hg, e, ← hg] at hK; exact hK
  have hKc : hearsS g s ⟨mk, mu, mn, ma, mi, mw, my⟩ = (votedG g mu, []) → K (.tup [.agg [dL ws, dI fu, dB true, dI tv, dL tk, dI tt, dI tn, dLb (setAt vo (Int.toNat mu) true), dLb di], .one (dM []), .one (dI (0 : Int))]) [] := fun e => by rw [hg, e, ← hg] at hK; exact hK
  have hKe : hearsS g s ⟨mk, mu, mn, ma, mi, mw, my⟩ = (didG g mu, []) → K (.tup [.agg [dL ws, dI fu, dB true, dI tv, dL tk, dI tt, dI tn, dLb vo, dLb (setAt di (Int.toNat mu) true)], .one (dM []), .one (dI (0 : Int))]) [] := fun e => by rw [hg, e, ← hg] at hK; exact hK
  have hKd : hearsS g s ⟨mk, mu, mn, ma, mi, mw, my⟩ = ((noteG (votedG g mu) [2, s.n]).1, []) → K (.tup [.agg [dL (noteG ⟨⟨ws, fu⟩, true, ⟨⟨tv, tk, tt⟩, tn⟩, setAt vo (Int.toNat mu) true, di⟩ [2, s.n]).1.f.words, dI (noteG ⟨⟨ws, fu⟩, true, ⟨⟨tv, tk, tt⟩, tn⟩, setAt vo (Int.toNat mu) true, di⟩ [2, s.n]).1.f.fuel, dB (noteG ⟨⟨ws, fu⟩, true, ⟨⟨tv, tk, tt⟩, tn⟩, setAt vo (Int.toNat mu) true, di⟩ [2, s.n]).1.up, dI (noteG ⟨⟨ws, fu⟩, true, ⟨⟨tv, tk, tt⟩, tn⟩, setAt vo (Int.toNat mu) true, di⟩ [2, s.n]).1.t.r.version, dL (noteG ⟨⟨ws, fu⟩, true, ⟨⟨tv, tk, tt⟩, tn⟩, setAt vo (Int.toNat mu) true, di⟩ [2, s.n]).1.t.r.keys, dI (noteG ⟨⟨ws, fu⟩, true, ⟨⟨tv, tk, tt⟩, tn⟩, setAt vo (Int.toNat mu) true, di⟩ [2, s.n]).1.t.r.thr, dI (noteG ⟨⟨ws, fu⟩, true, ⟨⟨tv, tk, tt⟩, tn⟩, setAt vo (Int.toNat mu) true, di⟩ [2, s.n]).1.t.version, dLb (noteG ⟨⟨ws, fu⟩, true, ⟨⟨tv, tk, tt⟩, tn⟩, setAt vo (Int.toNat mu) true, di⟩ [2, s.n]).1.voted, dLb (noteG ⟨⟨ws, fu⟩, true, ⟨⟨tv, tk, tt⟩, tn⟩, setAt vo (Int.toNat mu) true, di⟩ [2, s.n]).1.did], .one (dM []), .one (dI (0 : Int))]) [] := fun e => by rw [hg, e, ← hg] at hK; exact hK
  have hKf : hearsS g s ⟨mk, mu, mn, ma, mi, mw, my⟩ = ((noteG (didG g mu) [4, s.n]).1, []) → K (.tup [.agg [dL (noteG ⟨⟨ws, fu⟩, true, ⟨⟨tv, tk, tt⟩, tn⟩, vo, setAt di (Int.toNat mu) true⟩ [4, s.n]).1.f.words, dI (noteG ⟨⟨ws, fu⟩, true, ⟨⟨tv, tk, tt⟩, tn⟩, vo, setAt di (Int.toNat mu) true⟩ [4, s.n]).1.f.fuel, dB (noteG ⟨⟨ws, fu⟩, true, ⟨⟨tv, tk, tt⟩, tn⟩, vo, setAt di (Int.toNat mu) true⟩ [4, s.n]).1.up, dI (noteG ⟨⟨ws, fu⟩, true, ⟨⟨tv, tk, tt⟩, tn⟩, vo, setAt di (Int.toNat mu) true⟩ [4, s.n]).1.t.r.version, dL (noteG ⟨⟨ws, fu⟩, true, ⟨⟨tv, tk, tt⟩, tn⟩, vo, setAt di (Int.toNat mu) true⟩ [4, s.n]).1.t.r.keys, dI (noteG ⟨⟨ws, fu⟩, true, ⟨⟨tv, tk, tt⟩, tn⟩, vo, setAt di (Int.toNat mu) true⟩ [4, s.n]).1.t.r.thr, dI (noteG ⟨⟨ws, fu⟩, true, ⟨⟨tv, tk, tt⟩, tn⟩, vo, setAt di (Int.toNat mu) true⟩ [4, s.n]).1.t.version, dLb (noteG ⟨⟨ws, fu⟩, true, ⟨⟨tv, tk, tt⟩, tn⟩, vo, setAt di (Int.toNat mu) true⟩ [4, s.n]).1.voted, dLb (noteG ⟨⟨ws, fu⟩, true, ⟨⟨tv, tk, tt⟩, tn⟩, vo, setAt di (Int.toNat mu) true⟩ [4, s.n]).1.did], .one (dM []), .one (dI (0 : Int))]) [] := fun e => by rw [hg, e, ← hg] at hK; exact hK
  clear hK
  have evo : (votedG g mu).voted = setAt vo (Int.toNat mu) true := by rw [← hg]; rfl
  have edi : (didG g mu).did = setAt di (Int.toNat mu) true := by rw [← hg]; rfl
  have h3 : mk = 3 → hearsS g s ⟨mk, mu, mn, ma, mi, mw, my⟩ = if s.n ≠ mn ∨ s.ended = true ∨ s.commit = true ∨ s.abort = true ∨ my = false then (g, []) else (voteG g s mu, []) := fun e => by unfold hearsS; rw [if_pos (by exact e)]
  have h6 : mk = 6 → hearsS g s ⟨mk, mu, mn, ma, mi, mw, my⟩ = if s.n ≠ mn ∨ s.ended = true ∨ (s.commit = false ∧ s.abort = false) then (g, []) else (doneG g s mu, []) := fun e => by unfold hearsS; rw [if_neg (by simp only; omega), if_pos (by exact e)]
  have h7 : mk = 7 → hearsS g s ⟨mk, mu, mn, ma, mi, mw, my⟩ = if s.n ≠ mn ∨ s.ended = true ∨ s.commit = true ∨ s.abort = true then (g, [decisionM s mu mn]) else (g, []) := fun e => by unfold hearsS; rw [if_neg (by simp only; omega), if_neg (by simp only; omega), if_pos (by exact e)]
  have h0 : mk ≠ 3 → mk ≠ 6 → mk ≠ 7 → hearsS g s ⟨mk, mu, mn, ma, mi, mw, my⟩ = (g, []) := fun a b c => by unfold hearsS; rw [if_neg (by exact a), if_neg (by exact b), if_neg (by exact c)]
  have hcc : (s.commit = true ∨ s.commit = false) := by cases s.commit <;> simp
  have haa : (s.abort = true ∨ s.abort = false) := by cases s.abort <;> simp
  have hee : (s.ended = true ∨ s.ended = false) := by cases s.ended <;> simp
  by_cases hn : s.n = mn
  · refine eq_t hn ?_
    rcases hcc with hc | hc <;> rcases haa with ha | ha <;> rcases hee with he | he <;> rw [hc, he] <;> rw [hc, ha, he, hn] at h3 h6 h7 <;> simp only [ne_eq, not_true_eq_false, Bool.true_eq_false, Bool.false_eq_true, true_or, or_true, false_or, or_false, and_false, false_and, and_true, true_and, and_self, if_true, if_false, Bool.not_eq_false] at h3 h6 h7
    all_goals
      try rw [ha]
      try simp only [br, Bool.not_true, Bool.not_false]
      refine eq_s (fun k => ?_) (fun k3 => eq_s (fun k => ?_) (fun k6 => eq_s (fun k => ?_) (fun k7 => hKa (h0 k3 k6 k7))))
      · first
          | exact hKa (h3 k)
          | (refine nt_s (fun q => hKa (by rw [h3 k, if_pos q])) (fun q => ⟨⟨by omega, by omega⟩, lnv, lsv, ?_⟩)
             refine nt_s (fun q2 => ⟨by simp, hKd (by rw [h3 k, if_neg (by rw [q]; simp)]; unfold voteG; rw [evo, q2]; rfl)⟩) (fun q2 => hKc (by rw [h3 k, if_neg (by rw [q]; simp)]; unfold voteG; rw [evo, q2]; rfl)))
      · first
          | exact hKa (h6 k)
          | (refine ⟨⟨by omega, by omega⟩, lnd, lsd, nt_s (fun q2 => ⟨by simp, hKf (by rw [h6 k]; unfold doneG; rw [edi, q2]; rfl)⟩) (fun q2 => hKe (by rw [h6 k]; unfold doneG; rw [edi, q2]; rfl))⟩)
      · first
          | exact hKb (h7 k)
          | exact hKa (h7 k)
  · refine eq_f hn ?_
    rw [if_pos (.inl hn)] at h3 h6 h7
    refine br_split (fun _ => ?_) (fun _ => ?_) <;> exact eq_s (fun k => hKa (h3 k)) (fun k3 => eq_s (fun k => hKa (h6 k)) (fun k6 => eq_s (fun k => hKb (h7 k)) (fun k7 => hKa (h0 k3 k6 k7))))
theorem sound_gate_Hear : SoundC Tryd.prog tab n_gate_Hear c_gate_Hear := soundC_of ok_gate_Hear hf_gate_Hear hB_gate_Hear (by
  intro vs bs p v bs' h hp
  unfold c_gate_Hear at h
  split at h
  · cases h
    exact ⟨by kernel_rfl, rfl, .inl (run_gate_Hear _ _ _ _ _ _ _ _ _ _ _ _ _ _ _ _ _ ⟨rfl, rfl⟩)⟩
  · cases h)

def c_law_gated : Contract := fun vs bs => match vs, bs with
  | [], [] => some (none, .one (.dat .bool true), [])
  | _, _ => none
def Γ_law_gated : Ctx := [(n_law_simple, c_law_simple), (n_gate_New, c_gate_New), (n_gate_Begin, c_gate_Begin), (n_gate_Due, c_gate_Due), (n_gate_Hear, c_gate_Hear), (n_gate_Read, c_gate_Read)]
theorem ok_law_gated : Ok Tryd.prog tab Γ_law_gated := ((((((ok_nil.consC hf_gate_Read hB_gate_Read sound_gate_Read).consC hf_gate_Hear hB_gate_Hear sound_gate_Hear).consC hf_gate_Due hB_gate_Due sound_gate_Due).consC hf_gate_Begin hB_gate_Begin sound_gate_Begin).consC hf_gate_New hB_gate_New sound_gate_New).consC hf_law_simple hB_law_simple sound_law_simple)

set_option maxHeartbeats 4000000 in
theorem run_law_gated  (K : KK) (hK : K (.one (dB true)) []) : ∃ m, goD Γ_law_gated tab fn_law_gated 0 K m [.code (bodyOf fn_law_gated)] (initSt [] []) := by
  refine ⟨1, ?_⟩
  have e : goD Γ_law_gated tab fn_law_gated 0 K 1 [.code (bodyOf fn_law_gated)] (initSt [] []) = ((len [(3 : Int)] * 8 ≤ 140737488355328) ∧ (simpleB.length ≤ 140737488355328) ∧ (1 ≤ 140737488355328 ∧ 1 ≤ 140737488355328) ∧ K (.one (dB true)) []) := by kernel_rfl
  rw [e]
  exact ⟨by decide, by decide, by decide, hK⟩
theorem sound_law_gated : SoundC Tryd.prog tab n_law_gated c_law_gated := soundC_of ok_law_gated hf_law_gated hB_law_gated (by
  intro vs bs p v bs' h hp
  unfold c_law_gated at h
  split at h
  · cases h
    exact ⟨by kernel_rfl, rfl, .inl (run_law_gated  _ ⟨rfl, rfl⟩)⟩
  · cases h)

def c_gate_GiveUp : Contract := fun vs bs => match vs, bs with
  | [.agg [.dat (.list .int) ws, .dat .int fu, .dat .bool up, .dat .int tv, .dat (.list .int) tk, .dat .int tt, .dat .int tn, .dat (.list .bool) vo, .dat (.list .bool) di]], [] => some (none, .tup [.agg [.dat (.list .int) (giveG ⟨⟨ws, fu⟩, up, ⟨⟨tv, tk, tt⟩, tn⟩, vo, di⟩).1.f.words, .dat .int (giveG ⟨⟨ws, fu⟩, up, ⟨⟨tv, tk, tt⟩, tn⟩, vo, di⟩).1.f.fuel, .dat .bool (giveG ⟨⟨ws, fu⟩, up, ⟨⟨tv, tk, tt⟩, tn⟩, vo, di⟩).1.up, .dat .int (giveG ⟨⟨ws, fu⟩, up, ⟨⟨tv, tk, tt⟩, tn⟩, vo, di⟩).1.t.r.version, .dat (.list .int) (giveG ⟨⟨ws, fu⟩, up, ⟨⟨tv, tk, tt⟩, tn⟩, vo, di⟩).1.t.r.keys, .dat .int (giveG ⟨⟨ws, fu⟩, up, ⟨⟨tv, tk, tt⟩, tn⟩, vo, di⟩).1.t.r.thr, .dat .int (giveG ⟨⟨ws, fu⟩, up, ⟨⟨tv, tk, tt⟩, tn⟩, vo, di⟩).1.t.version, .dat (.list .bool) (giveG ⟨⟨ws, fu⟩, up, ⟨⟨tv, tk, tt⟩, tn⟩, vo, di⟩).1.voted, .dat (.list .bool) (giveG ⟨⟨ws, fu⟩, up, ⟨⟨tv, tk, tt⟩, tn⟩, vo, di⟩).1.did], .one (.dat .int (giveG ⟨⟨ws, fu⟩, up, ⟨⟨tv, tk, tt⟩, tn⟩, vo, di⟩).2)], [])
  | _, _ => none
def Γ_gate_GiveUp : Ctx := [(n_gate_up, c_gate_up), (n_gate_of, c_gate_of), (n_gate_Copy, c_gate_Copy), (n_gate_note, c_gate_note)]
theorem ok_gate_GiveUp : Ok Tryd.prog tab Γ_gate_GiveUp := ((((ok_nil.consC hf_gate_note hB_gate_note sound_gate_note).consC hf_gate_Copy hB_gate_Copy sound_gate_Copy).consC hf_gate_of hB_gate_of sound_gate_of).consC hf_gate_up hB_gate_up sound_gate_up)
theorem gate_GiveUp_vc (ws : List Int) (fu : Int) (up : Bool) (tv : Int) (tk : List Int) (tt : Int) (tn : Int) (vo : List Bool) (di : List Bool) (rec : RK) (K : KK) v0 (hv0 : v0 = (upG ⟨⟨ws, fu⟩, up, ⟨⟨tv, tk, tt⟩, tn⟩, vo, di⟩)) v1 (hv1 : v1 = (ofG ⟨ws, fu⟩)) v2 (hv2 : v2 = (noteG ⟨⟨ws, fu⟩, up, ⟨⟨tv, tk, tt⟩, tn⟩, vo, di⟩ ((3 : Int) :: (v1.n :: [])))) v3 (hv3 : v3 = (K (.tup [.agg [dL [], dI (0 : Int), dB false, dI (0 : Int), dL [], dI (0 : Int), dI (0 : Int), dLb [], dLb []], .one (dI (12 : Int))]) [])) : segD Γ_gate_GiveUp tab fn_gate_GiveUp 0 K rec [.code (bodyOf fn_gate_GiveUp)] (initSt [.agg [dL ws, dI fu, dB up, dI tv, dL tk, dI tt, dI tn, dLb vo, dLb di]] []) = (
 br (!(eqi v0 (0 : Int)))
 (K (.tup [.agg [dL [], dI (0 : Int), dB false, dI (0 : Int), dL [], dI (0 : Int), dI (0 : Int), dLb [], dLb []], .one (dI v0)]) [])
 (br (eqi v1.n (0 : Int))
 v3
 (br v1.commit
 v3
 (br v1.abort
 v3
 (((((len ws) * 8) ≤ 140737488355328) ∧ ((((len tk) * 8) ≤ 140737488355328) ∧ (((len vo) ≤ 1000) ∧ ((len di) ≤ 1000)))) ∧
 (((List.length ((3 : Int) :: (v1.n :: []))) ≤ 140737488355328) ∧
 (K (.tup [.agg [dL v2.fst.f.words, dI v2.fst.f.fuel, dB v2.fst.up, dI v2.fst.t.r.version, dL v2.fst.t.r.keys, dI v2.fst.t.r.thr, dI v2.fst.t.version, dLb v2.fst.voted, dLb v2.fst.did], .one (dI (0 : Int))]) []))))))) := by subst_vars; kernel_rfl
theorem gate_GiveUp_w (m : Nat) (K : KK) (st : St) : goD Γ_gate_GiveUp tab fn_gate_GiveUp 0 K (m + 1) [.code (bodyOf fn_gate_GiveUp)] st = segD Γ_gate_GiveUp tab fn_gate_GiveUp 0 K (goD Γ_gate_GiveUp tab fn_gate_GiveUp 0 K m) [.code (bodyOf fn_gate_GiveUp)] st := rfl

set_option maxHeartbeats 4000000 in
theorem run_gate_GiveUp (ws : List Int) (fu : Int) (up : Bool) (tv : Int) (tk : List Int) (tt tn : Int) (vo di : List Bool) (K : KK) (hK : K (.tup [.agg [dL (giveG ⟨⟨ws, fu⟩, up, ⟨⟨tv, tk, tt⟩, tn⟩, vo, di⟩).1.f.words, dI (giveG ⟨⟨ws, fu⟩, up, ⟨⟨tv, tk, tt⟩, tn⟩, vo, di⟩).1.f.fuel, dB (giveG ⟨⟨ws, fu⟩, up, ⟨⟨tv, tk, tt⟩, tn⟩, vo, di⟩).1.up, dI (giveG ⟨⟨ws, fu⟩, up, ⟨⟨tv, tk, tt⟩, tn⟩, vo, di⟩).1.t.r.version, dL (giveG ⟨⟨ws, fu⟩, up, ⟨⟨tv, tk, tt⟩, tn⟩, vo, di⟩).1.t.r.keys, dI (giveG ⟨⟨ws, fu⟩, up, ⟨⟨tv, tk, tt⟩, tn⟩, vo, di⟩).1.t.r.thr, dI (giveG ⟨⟨ws, fu⟩, up, ⟨⟨tv, tk, tt⟩, tn⟩, vo, di⟩).1.t.version, dLb (giveG ⟨⟨ws, fu⟩, up, ⟨⟨tv, tk, tt⟩, tn⟩, vo, di⟩).1.voted, dLb (giveG ⟨⟨ws, fu⟩, up, ⟨⟨tv, tk, tt⟩, tn⟩, vo, di⟩).1.did], .one (dI (giveG ⟨⟨ws, fu⟩, up, ⟨⟨tv, tk, tt⟩, tn⟩, vo, di⟩).2)]) []) : ∃ m, goD Γ_gate_GiveUp tab fn_gate_GiveUp 0 K m [.code (bodyOf fn_gate_GiveUp)] (initSt [.agg [dL ws, dI fu, dB up, dI tv, dL tk, dI tt, dI tn, dLb vo, dLb di]] []) := by
  refine ⟨1, ?_⟩
  rw [gate_GiveUp_w, gate_GiveUp_vc _ _ _ _ _ _ _ _ _ _ _ _ rfl _ rfl _ rfl _ rfl]
  unfold giveG giveE at hK
  simp only at hK
  obtain ⟨s, hs⟩ : ∃ s, ofG ⟨ws, fu⟩ = s := ⟨_, rfl⟩
  rw [hs] at hK ⊢
  refine ne_s (fun h => ?_) (fun h => ?_)
  · rw [if_neg h, if_neg h] at hK; exact hK
  have hc : checkG ⟨⟨ws, fu⟩, up, ⟨⟨tv, tk, tt⟩, tn⟩, vo, di⟩ = 0 := upG_check h
  obtain ⟨s1, s2, s3, s4⟩ := checkG_sm hc
  rw [if_pos h] at hK
  by_cases c : s.n = 0 ∨ s.commit = true ∨ s.abort = true
  · rw [if_pos c, if_neg (by omega)] at hK
    refine eq_s (fun _ => hK) (fun c1 => br_split (fun _ => hK) (fun c2 => br_split (fun _ => hK) (fun c3 => ?_)))
    rw [c2, c3] at c
    simp [c1] at c
  · rw [if_neg c, if_pos rfl] at hK
    simp only [not_or, Bool.not_eq_true] at c
    exact eq_f c.1 (br_f c.2.1 (br_f c.2.2 ⟨⟨s1, s2, s3, s4⟩, by simp, hK⟩))
theorem sound_gate_GiveUp : SoundC Tryd.prog tab n_gate_GiveUp c_gate_GiveUp := soundC_of ok_gate_GiveUp hf_gate_GiveUp hB_gate_GiveUp (by
  intro vs bs p v bs' h hp
  unfold c_gate_GiveUp at h
  split at h
  · cases h
    exact ⟨by kernel_rfl, rfl, .inl (run_gate_GiveUp _ _ _ _ _ _ _ _ _ _ ⟨rfl, rfl⟩)⟩
  · cases h)

def c_gate_Boot : Contract := fun vs bs => match vs, bs with
  | [.agg [.dat (.list .int) ws, .dat .int fu, .dat .bool up, .dat .int tv, .dat (.list .int) tk, .dat .int tt, .dat .int tn, .dat (.list .bool) vo, .dat (.list .bool) di]], [] => some (none, .tup [.agg [.dat (.list .int) (bootG ⟨⟨ws, fu⟩, up, ⟨⟨tv, tk, tt⟩, tn⟩, vo, di⟩).1.f.words, .dat .int (bootG ⟨⟨ws, fu⟩, up, ⟨⟨tv, tk, tt⟩, tn⟩, vo, di⟩).1.f.fuel, .dat .bool (bootG ⟨⟨ws, fu⟩, up, ⟨⟨tv, tk, tt⟩, tn⟩, vo, di⟩).1.up, .dat .int (bootG ⟨⟨ws, fu⟩, up, ⟨⟨tv, tk, tt⟩, tn⟩, vo, di⟩).1.t.r.version, .dat (.list .int) (bootG ⟨⟨ws, fu⟩, up, ⟨⟨tv, tk, tt⟩, tn⟩, vo, di⟩).1.t.r.keys, .dat .int (bootG ⟨⟨ws, fu⟩, up, ⟨⟨tv, tk, tt⟩, tn⟩, vo, di⟩).1.t.r.thr, .dat .int (bootG ⟨⟨ws, fu⟩, up, ⟨⟨tv, tk, tt⟩, tn⟩, vo, di⟩).1.t.version, .dat (.list .bool) (bootG ⟨⟨ws, fu⟩, up, ⟨⟨tv, tk, tt⟩, tn⟩, vo, di⟩).1.voted, .dat (.list .bool) (bootG ⟨⟨ws, fu⟩, up, ⟨⟨tv, tk, tt⟩, tn⟩, vo, di⟩).1.did], .one (.dat .int (bootG ⟨⟨ws, fu⟩, up, ⟨⟨tv, tk, tt⟩, tn⟩, vo, di⟩).2)], [])
  | _, _ => none
def Γ_gate_Boot : Ctx := [(n_gate_Check, c_gate_Check), (n_gate_Copy, c_gate_Copy), (n_gate_forget, c_gate_forget)]
theorem ok_gate_Boot : Ok Tryd.prog tab Γ_gate_Boot := (((ok_nil.consC hf_gate_forget hB_gate_forget sound_gate_forget).consC hf_gate_Copy hB_gate_Copy sound_gate_Copy).consC hf_gate_Check hB_gate_Check sound_gate_Check)
theorem gate_Boot_vc (ws : List Int) (fu : Int) (up : Bool) (tv : Int) (tk : List Int) (tt : Int) (tn : Int) (vo : List Bool) (di : List Bool) (rec : RK) (K : KK) v0 (hv0 : v0 = (checkG ⟨⟨ws, fu⟩, up, ⟨⟨tv, tk, tt⟩, tn⟩, vo, di⟩)) : segD Γ_gate_Boot tab fn_gate_Boot 0 K rec [.code (bodyOf fn_gate_Boot)] (initSt [.agg [dL ws, dI fu, dB up, dI tv, dL tk, dI tt, dI tn, dLb vo, dLb di]] []) = (
 br (!(eqi v0 (0 : Int)))
 (K (.tup [.agg [dL [], dI (0 : Int), dB false, dI (0 : Int), dL [], dI (0 : Int), dI (0 : Int), dLb [], dLb []], .one (dI v0)]) [])
 (((((len ws) * 8) ≤ 140737488355328) ∧ ((((len tk) * 8) ≤ 140737488355328) ∧ (((len vo) ≤ 1000) ∧ ((len di) ≤ 1000)))) ∧
 (K (.tup [.agg [dL ws, dI (-(1 : Int)), dB true, dI tv, dL tk, dI tt, dI tn, dLb (zeros (List.length vo) false), dLb (zeros (List.length di) false)], .one (dI (0 : Int))]) []))) := by subst_vars; kernel_rfl
theorem gate_Boot_w (m : Nat) (K : KK) (st : St) : goD Γ_gate_Boot tab fn_gate_Boot 0 K (m + 1) [.code (bodyOf fn_gate_Boot)] st = segD Γ_gate_Boot tab fn_gate_Boot 0 K (goD Γ_gate_Boot tab fn_gate_Boot 0 K m) [.code (bodyOf fn_gate_Boot)] st := rfl

set_option maxHeartbeats 4000000 in
theorem run_gate_Boot (ws : List Int) (fu : Int) (up : Bool) (tv : Int) (tk : List Int) (tt tn : Int) (vo di : List Bool) (K : KK) (hK : K (.tup [.agg [dL (bootG ⟨⟨ws, fu⟩, up, ⟨⟨tv, tk, tt⟩, tn⟩, vo, di⟩).1.f.words, dI (bootG ⟨⟨ws, fu⟩, up, ⟨⟨tv, tk, tt⟩, tn⟩, vo, di⟩).1.f.fuel, dB (bootG ⟨⟨ws, fu⟩, up, ⟨⟨tv, tk, tt⟩, tn⟩, vo, di⟩).1.up, dI (bootG ⟨⟨ws, fu⟩, up, ⟨⟨tv, tk, tt⟩, tn⟩, vo, di⟩).1.t.r.version, dL (bootG ⟨⟨ws, fu⟩, up, ⟨⟨tv, tk, tt⟩, tn⟩, vo, di⟩).1.t.r.keys, dI (bootG ⟨⟨ws, fu⟩, up, ⟨⟨tv, tk, tt⟩, tn⟩, vo, di⟩).1.t.r.thr, dI (bootG ⟨⟨ws, fu⟩, up, ⟨⟨tv, tk, tt⟩, tn⟩, vo, di⟩).1.t.version, dLb (bootG ⟨⟨ws, fu⟩, up, ⟨⟨tv, tk, tt⟩, tn⟩, vo, di⟩).1.voted, dLb (bootG ⟨⟨ws, fu⟩, up, ⟨⟨tv, tk, tt⟩, tn⟩, vo, di⟩).1.did], .one (dI (bootG ⟨⟨ws, fu⟩, up, ⟨⟨tv, tk, tt⟩, tn⟩, vo, di⟩).2)]) []) : ∃ m, goD Γ_gate_Boot tab fn_gate_Boot 0 K m [.code (bodyOf fn_gate_Boot)] (initSt [.agg [dL ws, dI fu, dB up, dI tv, dL tk, dI tt, dI tn, dLb vo, dLb di]] []) := by
  refine ⟨1, ?_⟩
  rw [gate_Boot_w, gate_Boot_vc _ _ _ _ _ _ _ _ _ _ _ _ rfl]
  unfold bootG at hK
  refine ne_s (fun h => ?_) (fun h => ?_)
  · rw [if_neg h] at hK; exact hK
  · rw [if_pos h] at hK
    obtain ⟨s1, s2, s3, s4⟩ := checkG_sm h
    exact ⟨⟨s1, s2, s3, s4⟩, hK⟩
theorem sound_gate_Boot : SoundC Tryd.prog tab n_gate_Boot c_gate_Boot := soundC_of ok_gate_Boot hf_gate_Boot hB_gate_Boot (by
  intro vs bs p v bs' h hp
  unfold c_gate_Boot at h
  split at h
  · cases h
    exact ⟨by kernel_rfl, rfl, .inl (run_gate_Boot _ _ _ _ _ _ _ _ _ _ ⟨rfl, rfl⟩)⟩
  · cases h)

def c_law_GateOnce : Contract := fun vs bs => match vs, bs with
  | [.agg [.dat (.list .int) _, .dat .int _, .dat .bool _, .dat .int _, .dat (.list .int) _, .dat .int _, .dat .int _, .dat (.list .bool) _, .dat (.list .bool) _], .agg [.dat .int _, .dat .int _, .dat .int _, .dat .int _, .dat .int _, .dat (.list .int) _, .dat .bool _], .one (.dat .int fuel), .one (.dat .bool _)], [] => some (some (I64 fuel), .one (.dat .bool true), [])
  | _, _ => none
def Γ_law_GateOnce : Ctx := [(n_law_at, c_law_at), (n_gate_Read, c_gate_Read), (n_law_gated, c_law_gated), (n_gate_GiveUp, c_gate_GiveUp), (n_gate_Hear, c_gate_Hear), (n_gate_Boot, c_gate_Boot)]
theorem ok_law_GateOnce : Ok Tryd.prog tab Γ_law_GateOnce := ((((((ok_nil.consC hf_gate_Boot hB_gate_Boot sound_gate_Boot).consC hf_gate_Hear hB_gate_Hear sound_gate_Hear).consC hf_gate_GiveUp hB_gate_GiveUp sound_gate_GiveUp).consC hf_law_gated hB_law_gated sound_law_gated).consC hf_gate_Read hB_gate_Read sound_gate_Read).consC hf_law_at hB_law_at sound_law_at)
noncomputable def law_GateOnce_L0 : List It := [.inLoop [158, 157, 156, 12, 9, 8, 5, 3] (Code.sub (bodyOf fn_law_GateOnce) [1, 1, 1, 1, 1, 1, 1, 1, 1, 1, 0, 1, 0, 1, 1, 0, 0]), .inBlock 0, .code (Code.sub (bodyOf fn_law_GateOnce) [1, 1, 1, 1, 1, 1, 1, 1, 1, 1, 1])]
def law_GateOnce_S0 (x0 : Int) (x1 : Int) (x2 : (List Bool)) (x3 : Bool) (x4 : Bool) (x5 : Int) (x6 : Int) (x7 : Bool) (x8 : Bool) (x9 : Bool) (x10 : Int) (x11 : Int) (x12 : Bool) (x13 : Bool) (x14 : Bool) (x15 : Int) (x16 : Int) (x17 : Int) (x18 : Int) (x19 : Int) (x20 : (List Int)) (x21 : Bool) : St := ⟨[(158, .one (dI x0)), (157, .one (dI x1)), (156, .one (dLb x2)), (12, .one (.ptr 0 0)), (9, .one (.ptr 1 0)), (8, .one (dB x3)), (5, .one (.ptr 2 0)), (3, .one (dB x4))], [(0, .box [dI x5, dI x6, dB x7, dB x8, dB x9]), (1, .box [dI x10, dI x11, dB x12, dB x13, dB x14]), (2, .box [dI x15, dI x16, dI x17, dI x18, dI x19, dL x20, dB x21])], 3⟩
theorem law_GateOnce_vc (ws : List Int) (fu : Int) (up : Bool) (tv : Int) (tk : List Int) (tt : Int) (tn : Int) (vo : List Bool) (di : List Bool) (mk : Int) (mu : Int) (mn : Int) (ma : Int) (mi : Int) (mw : List Int) (my : Bool) (fuel : Int) (give : Bool) (rec : RK) (K : KK) v0 (hv0 : v0 = (readG ⟨⟨ws, (fuel % (60 : Int))⟩, up, ⟨⟨tv, tk, tt⟩, tn⟩, vo, di⟩)) v1 (hv1 : v1 = (hearG ⟨⟨ws, (fuel % (60 : Int))⟩, up, ⟨⟨tv, tk, tt⟩, tn⟩, vo, di⟩ ⟨mk, mu, mn, ma, mi, mw, my⟩)) v2 (hv2 : v2 = (bootG ⟨⟨v1.fst.fst.f.words, v1.fst.fst.f.fuel⟩, v1.fst.fst.up, ⟨⟨v1.fst.fst.t.r.version, v1.fst.fst.t.r.keys, v1.fst.fst.t.r.thr⟩, v1.fst.fst.t.version⟩, v1.fst.fst.voted, v1.fst.fst.did⟩)) v3 (hv3 : v3 = (readG ⟨⟨v2.fst.f.words, v2.fst.f.fuel⟩, v2.fst.up, ⟨⟨v2.fst.t.r.version, v2.fst.t.r.keys, v2.fst.t.r.thr⟩, v2.fst.t.version⟩, v2.fst.voted, v2.fst.did⟩)) v4 (hv4 : v4 = (giveG ⟨⟨ws, (fuel % (60 : Int))⟩, up, ⟨⟨tv, tk, tt⟩, tn⟩, vo, di⟩)) v5 (hv5 : v5 = (bootG ⟨⟨v4.fst.f.words, v4.fst.f.fuel⟩, v4.fst.up, ⟨⟨v4.fst.t.r.version, v4.fst.t.r.keys, v4.fst.t.r.thr⟩, v4.fst.t.version⟩, v4.fst.voted, v4.fst.did⟩)) v6 (hv6 : v6 = (readG ⟨⟨v5.fst.f.words, v5.fst.f.fuel⟩, v5.fst.up, ⟨⟨v5.fst.t.r.version, v5.fst.t.r.keys, v5.fst.t.r.thr⟩, v5.fst.t.version⟩, v5.fst.voted, v5.fst.did⟩)) : segD Γ_law_GateOnce tab fn_law_GateOnce 0 K rec [.code (bodyOf fn_law_GateOnce)] (initSt [.agg [dL ws, dI fu, dB up, dI tv, dL tk, dI tt, dI tn, dLb vo, dLb di], .agg [dI mk, dI mu, dI mn, dI ma, dI mi, dL mw, dB my], .one (dI fuel), .one (dB give)] []) = (
 (((0 : Int) < (60 : Int)) ∧ ((60 : Int) ≤ (1000 : Int))) ∧
 (br (!(eqi v0.snd (0 : Int)))
 (K vT [])
 (br (!give)
 (br (!(eqi v1.snd (0 : Int)))
 (K vT [])
 (br (!(eqi v2.snd (0 : Int)))
 (K vF [])
 (br (!(eqi v3.snd (0 : Int)))
 (K vF [])
 (br (!(eqi v3.fst.n v0.fst.n))
 (K vF [])
 (br (!(eqi v3.fst.version v0.fst.version))
 (K vF [])
 (br v0.fst.commit
 (br (!v3.fst.commit)
 (K vF [])
 (br v0.fst.abort
 (br (!v3.fst.abort)
 (K vF [])
 (br v0.fst.ended
 (br (!v3.fst.ended)
 (K vF [])
 (br v3.fst.commit
 (br v3.fst.abort
 (K vF [])
 (br v3.fst.commit
 (br (!v0.fst.commit)
 (br give
 (K vF [])
 (br (!(eqi mk (3 : Int)))
 (K vF [])
 (br (!my)
 (K vF [])
 (br (!(eqi mn v0.fst.n))
 (K vF [])
 (br v0.fst.abort
 (K vF [])
 (br (lti mu (0 : Int))
 (K vF [])
 (br (lei (((len vo) : Nat) : Int) mu)
 (K vF [])
 (rec law_GateOnce_L0 (law_GateOnce_S0 (0 : Int) (((len vo) : Nat) : Int) vo false give v3.fst.n v3.fst.version v3.fst.commit v3.fst.abort v3.fst.ended v0.fst.n v0.fst.version v0.fst.commit v0.fst.abort v0.fst.ended mk mu mn ma mi mw my)))))))))
 (br (!v3.fst.abort)
 (br (!v3.fst.ended)
 (K vT [])
 (br v0.fst.ended
 (K vT [])
 (br (eqi mk (6 : Int))
 (br (!give)
 (br v0.fst.commit
 (K vT [])
 (K (.one (dB v0.fst.abort)) []))
 (K vF []))
 (K vF []))))
 (br v0.fst.abort
 (br (!v3.fst.ended)
 (K vT [])
 (br v0.fst.ended
 (K vT [])
 (br (eqi mk (6 : Int))
 (br (!give)
 (br v0.fst.commit
 (K vT [])
 (K (.one (dB v0.fst.abort)) []))
 (K vF []))
 (K vF []))))
 (br give
 (br (!v0.fst.commit)
 (br (!v3.fst.ended)
 (K vT [])
 (br v0.fst.ended
 (K vT [])
 (br (eqi mk (6 : Int))
 (br (!give)
 (br v0.fst.commit
 (K vT [])
 (K (.one (dB v0.fst.abort)) []))
 (K vF []))
 (K vF []))))
 (K vF []))
 (K vF [])))))
 (br (!v3.fst.abort)
 (br (!v3.fst.ended)
 (K vT [])
 (br v0.fst.ended
 (K vT [])
 (br (eqi mk (6 : Int))
 (br (!give)
 (br v0.fst.commit
 (K vT [])
 (K (.one (dB v0.fst.abort)) []))
 (K vF []))
 (K vF []))))
 (br v0.fst.abort
 (br (!v3.fst.ended)
 (K vT [])
 (br v0.fst.ended
 (K vT [])
 (br (eqi mk (6 : Int))
 (br (!give)
 (br v0.fst.commit
 (K vT [])
 (K (.one (dB v0.fst.abort)) []))
 (K vF []))
 (K vF []))))
 (br give
 (br (!v0.fst.commit)
 (br (!v3.fst.ended)
 (K vT [])
 (br v0.fst.ended
 (K vT [])
 (br (eqi mk (6 : Int))
 (br (!give)
 (br v0.fst.commit
 (K vT [])
 (K (.one (dB v0.fst.abort)) []))
 (K vF []))
 (K vF []))))
 (K vF []))
 (K vF []))))))
 (br v3.fst.commit
 (br (!v0.fst.commit)
 (br give
 (K vF [])
 (br (!(eqi mk (3 : Int)))
 (K vF [])
 (br (!my)
 (K vF [])
 (br (!(eqi mn v0.fst.n))
 (K vF [])
 (br v0.fst.abort
 (K vF [])
 (br (lti mu (0 : Int))
 (K vF [])
 (br (lei (((len vo) : Nat) : Int) mu)
 (K vF [])
 (rec law_GateOnce_L0 (law_GateOnce_S0 (0 : Int) (((len vo) : Nat) : Int) vo false give v3.fst.n v3.fst.version v3.fst.commit v3.fst.abort v3.fst.ended v0.fst.n v0.fst.version v0.fst.commit v0.fst.abort v0.fst.ended mk mu mn ma mi mw my)))))))))
 (br (!v3.fst.abort)
 (br (!v3.fst.ended)
 (K vT [])
 (br v0.fst.ended
 (K vT [])
 (br (eqi mk (6 : Int))
 (br (!give)
 (br v0.fst.commit
 (K vT [])
 (K (.one (dB v0.fst.abort)) []))
 (K vF []))
 (K vF []))))
 (br v0.fst.abort
 (br (!v3.fst.ended)
 (K vT [])
 (br v0.fst.ended
 (K vT [])
 (br (eqi mk (6 : Int))
 (br (!give)
 (br v0.fst.commit
 (K vT [])
 (K (.one (dB v0.fst.abort)) []))
 (K vF []))
 (K vF []))))
 (br give
 (br (!v0.fst.commit)
 (br (!v3.fst.ended)
 (K vT [])
 (br v0.fst.ended
 (K vT [])
 (br (eqi mk (6 : Int))
 (br (!give)
 (br v0.fst.commit
 (K vT [])
 (K (.one (dB v0.fst.abort)) []))
 (K vF []))
 (K vF []))))
 (K vF []))
 (K vF [])))))
 (br (!v3.fst.abort)
 (br (!v3.fst.ended)
 (K vT [])
 (br v0.fst.ended
 (K vT [])
 (br (eqi mk (6 : Int))
 (br (!give)
 (br v0.fst.commit
 (K vT [])
 (K (.one (dB v0.fst.abort)) []))
 (K vF []))
 (K vF []))))
 (br v0.fst.abort
 (br (!v3.fst.ended)
 (K vT [])
 (br v0.fst.ended
 (K vT [])
 (br (eqi mk (6 : Int))
 (br (!give)
 (br v0.fst.commit
 (K vT [])
 (K (.one (dB v0.fst.abort)) []))
 (K vF []))
 (K vF []))))
 (br give
 (br (!v0.fst.commit)
 (br (!v3.fst.ended)
 (K vT [])
 (br v0.fst.ended
 (K vT [])
 (br (eqi mk (6 : Int))
 (br (!give)
 (br v0.fst.commit
 (K vT [])
 (K (.one (dB v0.fst.abort)) []))
 (K vF []))
 (K vF []))))
 (K vF []))
 (K vF [])))))))
 (br v3.fst.commit
 (br v3.fst.abort
 (K vF [])
 (br v3.fst.commit
 (br (!v0.fst.commit)
 (br give
 (K vF [])
 (br (!(eqi mk (3 : Int)))
 (K vF [])
 (br (!my)
 (K vF [])
 (br (!(eqi mn v0.fst.n))
 (K vF [])
 (br v0.fst.abort
 (K vF [])
 (br (lti mu (0 : Int))
 (K vF [])
 (br (lei (((len vo) : Nat) : Int) mu)
 (K vF [])
 (rec law_GateOnce_L0 (law_GateOnce_S0 (0 : Int) (((len vo) : Nat) : Int) vo false give v3.fst.n v3.fst.version v3.fst.commit v3.fst.abort v3.fst.ended v0.fst.n v0.fst.version v0.fst.commit v0.fst.abort v0.fst.ended mk mu mn ma mi mw my)))))))))
 (br (!v3.fst.abort)
 (br (!v3.fst.ended)
 (K vT [])
 (br v0.fst.ended
 (K vT [])
 (br (eqi mk (6 : Int))
 (br (!give)
 (br v0.fst.commit
 (K vT [])
 (K (.one (dB v0.fst.abort)) []))
 (K vF []))
 (K vF []))))
 (br v0.fst.abort
 (br (!v3.fst.ended)
 (K vT [])
 (br v0.fst.ended
 (K vT [])
 (br (eqi mk (6 : Int))
 (br (!give)
 (br v0.fst.commit
 (K vT [])
 (K (.one (dB v0.fst.abort)) []))
 (K vF []))
 (K vF []))))
 (br give
 (br (!v0.fst.commit)
 (br (!v3.fst.ended)
 (K vT [])
 (br v0.fst.ended
 (K vT [])
 (br (eqi mk (6 : Int))
 (br (!give)
 (br v0.fst.commit
 (K vT [])
 (K (.one (dB v0.fst.abort)) []))
 (K vF []))
 (K vF []))))
 (K vF []))
 (K vF [])))))
 (br (!v3.fst.abort)
 (br (!v3.fst.ended)
 (K vT [])
 (br v0.fst.ended
 (K vT [])
 (br (eqi mk (6 : Int))
 (br (!give)
 (br v0.fst.commit
 (K vT [])
 (K (.one (dB v0.fst.abort)) []))
 (K vF []))
 (K vF []))))
 (br v0.fst.abort
 (br (!v3.fst.ended)
 (K vT [])
 (br v0.fst.ended
 (K vT [])
 (br (eqi mk (6 : Int))
 (br (!give)
 (br v0.fst.commit
 (K vT [])
 (K (.one (dB v0.fst.abort)) []))
 (K vF []))
 (K vF []))))
 (br give
 (br (!v0.fst.commit)
 (br (!v3.fst.ended)
 (K vT [])
 (br v0.fst.ended
 (K vT [])
 (br (eqi mk (6 : Int))
 (br (!give)
 (br v0.fst.commit
 (K vT [])
 (K (.one (dB v0.fst.abort)) []))
 (K vF []))
 (K vF []))))
 (K vF []))
 (K vF []))))))
 (br v3.fst.commit
 (br (!v0.fst.commit)
 (br give
 (K vF [])
 (br (!(eqi mk (3 : Int)))
 (K vF [])
 (br (!my)
 (K vF [])
 (br (!(eqi mn v0.fst.n))
 (K vF [])
 (br v0.fst.abort
 (K vF [])
 (br (lti mu (0 : Int))
 (K vF [])
 (br (lei (((len vo) : Nat) : Int) mu)
 (K vF [])
 (rec law_GateOnce_L0 (law_GateOnce_S0 (0 : Int) (((len vo) : Nat) : Int) vo false give v3.fst.n v3.fst.version v3.fst.commit v3.fst.abort v3.fst.ended v0.fst.n v0.fst.version v0.fst.commit v0.fst.abort v0.fst.ended mk mu mn ma mi mw my)))))))))
 (br (!v3.fst.abort)
 (br (!v3.fst.ended)
 (K vT [])
 (br v0.fst.ended
 (K vT [])
 (br (eqi mk (6 : Int))
 (br (!give)
 (br v0.fst.commit
 (K vT [])
 (K (.one (dB v0.fst.abort)) []))
 (K vF []))
 (K vF []))))
 (br v0.fst.abort
 (br (!v3.fst.ended)
 (K vT [])
 (br v0.fst.ended
 (K vT [])
 (br (eqi mk (6 : Int))
 (br (!give)
 (br v0.fst.commit
 (K vT [])
 (K (.one (dB v0.fst.abort)) []))
 (K vF []))
 (K vF []))))
 (br give
 (br (!v0.fst.commit)
 (br (!v3.fst.ended)
 (K vT [])
 (br v0.fst.ended
 (K vT [])
 (br (eqi mk (6 : Int))
 (br (!give)
 (br v0.fst.commit
 (K vT [])
 (K (.one (dB v0.fst.abort)) []))
 (K vF []))
 (K vF []))))
 (K vF []))
 (K vF [])))))
 (br (!v3.fst.abort)
 (br (!v3.fst.ended)
 (K vT [])
 (br v0.fst.ended
 (K vT [])
 (br (eqi mk (6 : Int))
 (br (!give)
 (br v0.fst.commit
 (K vT [])
 (K (.one (dB v0.fst.abort)) []))
 (K vF []))
 (K vF []))))
 (br v0.fst.abort
 (br (!v3.fst.ended)
 (K vT [])
 (br v0.fst.ended
 (K vT [])
 (br (eqi mk (6 : Int))
 (br (!give)
 (br v0.fst.commit
 (K vT [])
 (K (.one (dB v0.fst.abort)) []))
 (K vF []))
 (K vF []))))
 (br give
 (br (!v0.fst.commit)
 (br (!v3.fst.ended)
 (K vT [])
 (br v0.fst.ended
 (K vT [])
 (br (eqi mk (6 : Int))
 (br (!give)
 (br v0.fst.commit
 (K vT [])
 (K (.one (dB v0.fst.abort)) []))
 (K vF []))
 (K vF []))))
 (K vF []))
 (K vF []))))))))
 (br v0.fst.ended
 (br (!v3.fst.ended)
 (K vF [])
 (br v3.fst.commit
 (br v3.fst.abort
 (K vF [])
 (br v3.fst.commit
 (br (!v0.fst.commit)
 (br give
 (K vF [])
 (br (!(eqi mk (3 : Int)))
 (K vF [])
 (br (!my)
 (K vF [])
 (br (!(eqi mn v0.fst.n))
 (K vF [])
 (br v0.fst.abort
 (K vF [])
 (br (lti mu (0 : Int))
 (K vF [])
 (br (lei (((len vo) : Nat) : Int) mu)
 (K vF [])
 (rec law_GateOnce_L0 (law_GateOnce_S0 (0 : Int) (((len vo) : Nat) : Int) vo false give v3.fst.n v3.fst.version v3.fst.commit v3.fst.abort v3.fst.ended v0.fst.n v0.fst.version v0.fst.commit v0.fst.abort v0.fst.ended mk mu mn ma mi mw my)))))))))
 (br (!v3.fst.abort)
 (br (!v3.fst.ended)
 (K vT [])
 (br v0.fst.ended
 (K vT [])
 (br (eqi mk (6 : Int))
 (br (!give)
 (br v0.fst.commit
 (K vT [])
 (K (.one (dB v0.fst.abort)) []))
 (K vF []))
 (K vF []))))
 (br v0.fst.abort
 (br (!v3.fst.ended)
 (K vT [])
 (br v0.fst.ended
 (K vT [])
 (br (eqi mk (6 : Int))
 (br (!give)
 (br v0.fst.commit
 (K vT [])
 (K (.one (dB v0.fst.abort)) []))
 (K vF []))
 (K vF []))))
 (br give
 (br (!v0.fst.commit)
 (br (!v3.fst.ended)
 (K vT [])
 (br v0.fst.ended
 (K vT [])
 (br (eqi mk (6 : Int))
 (br (!give)
 (br v0.fst.commit
 (K vT [])
 (K (.one (dB v0.fst.abort)) []))
 (K vF []))
 (K vF []))))
 (K vF []))
 (K vF [])))))
 (br (!v3.fst.abort)
 (br (!v3.fst.ended)
 (K vT [])
 (br v0.fst.ended
 (K vT [])
 (br (eqi mk (6 : Int))
 (br (!give)
 (br v0.fst.commit
 (K vT [])
 (K (.one (dB v0.fst.abort)) []))
 (K vF []))
 (K vF []))))
 (br v0.fst.abort
 (br (!v3.fst.ended)
 (K vT [])
 (br v0.fst.ended
 (K vT [])
 (br (eqi mk (6 : Int))
 (br (!give)
 (br v0.fst.commit
 (K vT [])
 (K (.one (dB v0.fst.abort)) []))
 (K vF []))
 (K vF []))))
 (br give
 (br (!v0.fst.commit)
 (br (!v3.fst.ended)
 (K vT [])
 (br v0.fst.ended
 (K vT [])
 (br (eqi mk (6 : Int))
 (br (!give)
 (br v0.fst.commit
 (K vT [])
 (K (.one (dB v0.fst.abort)) []))
 (K vF []))
 (K vF []))))
 (K vF []))
 (K vF []))))))
 (br v3.fst.commit
 (br (!v0.fst.commit)
 (br give
 (K vF [])
 (br (!(eqi mk (3 : Int)))
 (K vF [])
 (br (!my)
 (K vF [])
 (br (!(eqi mn v0.fst.n))
 (K vF [])
 (br v0.fst.abort
 (K vF [])
 (br (lti mu (0 : Int))
 (K vF [])
 (br (lei (((len vo) : Nat) : Int) mu)
 (K vF [])
 (rec law_GateOnce_L0 (law_GateOnce_S0 (0 : Int) (((len vo) : Nat) : Int) vo false give v3.fst.n v3.fst.version v3.fst.commit v3.fst.abort v3.fst.ended v0.fst.n v0.fst.version v0.fst.commit v0.fst.abort v0.fst.ended mk mu mn ma mi mw my)))))))))
 (br (!v3.fst.abort)
 (br (!v3.fst.ended)
 (K vT [])
 (br v0.fst.ended
 (K vT [])
 (br (eqi mk (6 : Int))
 (br (!give)
 (br v0.fst.commit
 (K vT [])
 (K (.one (dB v0.fst.abort)) []))
 (K vF []))
 (K vF []))))
 (br v0.fst.abort
 (br (!v3.fst.ended)
 (K vT [])
 (br v0.fst.ended
 (K vT [])
 (br (eqi mk (6 : Int))
 (br (!give)
 (br v0.fst.commit
 (K vT [])
 (K (.one (dB v0.fst.abort)) []))
 (K vF []))
 (K vF []))))
 (br give
 (br (!v0.fst.commit)
 (br (!v3.fst.ended)
 (K vT [])
 (br v0.fst.ended
 (K vT [])
 (br (eqi mk (6 : Int))
 (br (!give)
 (br v0.fst.commit
 (K vT [])
 (K (.one (dB v0.fst.abort)) []))
 (K vF []))
 (K vF []))))
 (K vF []))
 (K vF [])))))
 (br (!v3.fst.abort)
 (br (!v3.fst.ended)
 (K vT [])
 (br v0.fst.ended
 (K vT [])
 (br (eqi mk (6 : Int))
 (br (!give)
 (br v0.fst.commit
 (K vT [])
 (K (.one (dB v0.fst.abort)) []))
 (K vF []))
 (K vF []))))
 (br v0.fst.abort
 (br (!v3.fst.ended)
 (K vT [])
 (br v0.fst.ended
 (K vT [])
 (br (eqi mk (6 : Int))
 (br (!give)
 (br v0.fst.commit
 (K vT [])
 (K (.one (dB v0.fst.abort)) []))
 (K vF []))
 (K vF []))))
 (br give
 (br (!v0.fst.commit)
 (br (!v3.fst.ended)
 (K vT [])
 (br v0.fst.ended
 (K vT [])
 (br (eqi mk (6 : Int))
 (br (!give)
 (br v0.fst.commit
 (K vT [])
 (K (.one (dB v0.fst.abort)) []))
 (K vF []))
 (K vF []))))
 (K vF []))
 (K vF [])))))))
 (br v3.fst.commit
 (br v3.fst.abort
 (K vF [])
 (br v3.fst.commit
 (br (!v0.fst.commit)
 (br give
 (K vF [])
 (br (!(eqi mk (3 : Int)))
 (K vF [])
 (br (!my)
 (K vF [])
 (br (!(eqi mn v0.fst.n))
 (K vF [])
 (br v0.fst.abort
 (K vF [])
 (br (lti mu (0 : Int))
 (K vF [])
 (br (lei (((len vo) : Nat) : Int) mu)
 (K vF [])
 (rec law_GateOnce_L0 (law_GateOnce_S0 (0 : Int) (((len vo) : Nat) : Int) vo false give v3.fst.n v3.fst.version v3.fst.commit v3.fst.abort v3.fst.ended v0.fst.n v0.fst.version v0.fst.commit v0.fst.abort v0.fst.ended mk mu mn ma mi mw my)))))))))
 (br (!v3.fst.abort)
 (br (!v3.fst.ended)
 (K vT [])
 (br v0.fst.ended
 (K vT [])
 (br (eqi mk (6 : Int))
 (br (!give)
 (br v0.fst.commit
 (K vT [])
 (K (.one (dB v0.fst.abort)) []))
 (K vF []))
 (K vF []))))
 (br v0.fst.abort
 (br (!v3.fst.ended)
 (K vT [])
 (br v0.fst.ended
 (K vT [])
 (br (eqi mk (6 : Int))
 (br (!give)
 (br v0.fst.commit
 (K vT [])
 (K (.one (dB v0.fst.abort)) []))
 (K vF []))
 (K vF []))))
 (br give
 (br (!v0.fst.commit)
 (br (!v3.fst.ended)
 (K vT [])
 (br v0.fst.ended
 (K vT [])
 (br (eqi mk (6 : Int))
 (br (!give)
 (br v0.fst.commit
 (K vT [])
 (K (.one (dB v0.fst.abort)) []))
 (K vF []))
 (K vF []))))
 (K vF []))
 (K vF [])))))
 (br (!v3.fst.abort)
 (br (!v3.fst.ended)
 (K vT [])
 (br v0.fst.ended
 (K vT [])
 (br (eqi mk (6 : Int))
 (br (!give)
 (br v0.fst.commit
 (K vT [])
 (K (.one (dB v0.fst.abort)) []))
 (K vF []))
 (K vF []))))
 (br v0.fst.abort
 (br (!v3.fst.ended)
 (K vT [])
 (br v0.fst.ended
 (K vT [])
 (br (eqi mk (6 : Int))
 (br (!give)
 (br v0.fst.commit
 (K vT [])
 (K (.one (dB v0.fst.abort)) []))
 (K vF []))
 (K vF []))))
 (br give
 (br (!v0.fst.commit)
 (br (!v3.fst.ended)
 (K vT [])
 (br v0.fst.ended
 (K vT [])
 (br (eqi mk (6 : Int))
 (br (!give)
 (br v0.fst.commit
 (K vT [])
 (K (.one (dB v0.fst.abort)) []))
 (K vF []))
 (K vF []))))
 (K vF []))
 (K vF []))))))
 (br v3.fst.commit
 (br (!v0.fst.commit)
 (br give
 (K vF [])
 (br (!(eqi mk (3 : Int)))
 (K vF [])
 (br (!my)
 (K vF [])
 (br (!(eqi mn v0.fst.n))
 (K vF [])
 (br v0.fst.abort
 (K vF [])
 (br (lti mu (0 : Int))
 (K vF [])
 (br (lei (((len vo) : Nat) : Int) mu)
 (K vF [])
 (rec law_GateOnce_L0 (law_GateOnce_S0 (0 : Int) (((len vo) : Nat) : Int) vo false give v3.fst.n v3.fst.version v3.fst.commit v3.fst.abort v3.fst.ended v0.fst.n v0.fst.version v0.fst.commit v0.fst.abort v0.fst.ended mk mu mn ma mi mw my)))))))))
 (br (!v3.fst.abort)
 (br (!v3.fst.ended)
 (K vT [])
 (br v0.fst.ended
 (K vT [])
 (br (eqi mk (6 : Int))
 (br (!give)
 (br v0.fst.commit
 (K vT [])
 (K (.one (dB v0.fst.abort)) []))
 (K vF []))
 (K vF []))))
 (br v0.fst.abort
 (br (!v3.fst.ended)
 (K vT [])
 (br v0.fst.ended
 (K vT [])
 (br (eqi mk (6 : Int))
 (br (!give)
 (br v0.fst.commit
 (K vT [])
 (K (.one (dB v0.fst.abort)) []))
 (K vF []))
 (K vF []))))
 (br give
 (br (!v0.fst.commit)
 (br (!v3.fst.ended)
 (K vT [])
 (br v0.fst.ended
 (K vT [])
 (br (eqi mk (6 : Int))
 (br (!give)
 (br v0.fst.commit
 (K vT [])
 (K (.one (dB v0.fst.abort)) []))
 (K vF []))
 (K vF []))))
 (K vF []))
 (K vF [])))))
 (br (!v3.fst.abort)
 (br (!v3.fst.ended)
 (K vT [])
 (br v0.fst.ended
 (K vT [])
 (br (eqi mk (6 : Int))
 (br (!give)
 (br v0.fst.commit
 (K vT [])
 (K (.one (dB v0.fst.abort)) []))
 (K vF []))
 (K vF []))))
 (br v0.fst.abort
 (br (!v3.fst.ended)
 (K vT [])
 (br v0.fst.ended
 (K vT [])
 (br (eqi mk (6 : Int))
 (br (!give)
 (br v0.fst.commit
 (K vT [])
 (K (.one (dB v0.fst.abort)) []))
 (K vF []))
 (K vF []))))
 (br give
 (br (!v0.fst.commit)
 (br (!v3.fst.ended)
 (K vT [])
 (br v0.fst.ended
 (K vT [])
 (br (eqi mk (6 : Int))
 (br (!give)
 (br v0.fst.commit
 (K vT [])
 (K (.one (dB v0.fst.abort)) []))
 (K vF []))
 (K vF []))))
 (K vF []))
 (K vF [])))))))))
 (br v0.fst.abort
 (br (!v3.fst.abort)
 (K vF [])
 (br v0.fst.ended
 (br (!v3.fst.ended)
 (K vF [])
 (br v3.fst.commit
 (br v3.fst.abort
 (K vF [])
 (br v3.fst.commit
 (br (!v0.fst.commit)
 (br give
 (K vF [])
 (br (!(eqi mk (3 : Int)))
 (K vF [])
 (br (!my)
 (K vF [])
 (br (!(eqi mn v0.fst.n))
 (K vF [])
 (br v0.fst.abort
 (K vF [])
 (br (lti mu (0 : Int))
 (K vF [])
 (br (lei (((len vo) : Nat) : Int) mu)
 (K vF [])
 (rec law_GateOnce_L0 (law_GateOnce_S0 (0 : Int) (((len vo) : Nat) : Int) vo false give v3.fst.n v3.fst.version v3.fst.commit v3.fst.abort v3.fst.ended v0.fst.n v0.fst.version v0.fst.commit v0.fst.abort v0.fst.ended mk mu mn ma mi mw my)))))))))
 (br (!v3.fst.abort)
 (br (!v3.fst.ended)
 (K vT [])
 (br v0.fst.ended
 (K vT [])
 (br (eqi mk (6 : Int))
 (br (!give)
 (br v0.fst.commit
 (K vT [])
 (K (.one (dB v0.fst.abort)) []))
 (K vF []))
 (K vF []))))
 (br v0.fst.abort
 (br (!v3.fst.ended)
 (K vT [])
 (br v0.fst.ended
 (K vT [])
 (br (eqi mk (6 : Int))
 (br (!give)
 (br v0.fst.commit
 (K vT [])
 (K (.one (dB v0.fst.abort)) []))
 (K vF []))
 (K vF []))))
 (br give
 (br (!v0.fst.commit)
 (br (!v3.fst.ended)
 (K vT [])
 (br v0.fst.ended
 (K vT [])
 (br (eqi mk (6 : Int))
 (br (!give)
 (br v0.fst.commit
 (K vT [])
 (K (.one (dB v0.fst.abort)) []))
 (K vF []))
 (K vF []))))
 (K vF []))
 (K vF [])))))
 (br (!v3.fst.abort)
 (br (!v3.fst.ended)
 (K vT [])
 (br v0.fst.ended
 (K vT [])
 (br (eqi mk (6 : Int))
 (br (!give)
 (br v0.fst.commit
 (K vT [])
 (K (.one (dB v0.fst.abort)) []))
 (K vF []))
 (K vF []))))
 (br v0.fst.abort
 (br (!v3.fst.ended)
 (K vT [])
 (br v0.fst.ended
 (K vT [])
 (br (eqi mk (6 : Int))
 (br (!give)
 (br v0.fst.commit
 (K vT [])
 (K (.one (dB v0.fst.abort)) []))
 (K vF []))
 (K vF []))))
 (br give
 (br (!v0.fst.commit)
 (br (!v3.fst.ended)
 (K vT [])
 (br v0.fst.ended
 (K vT [])
 (br (eqi mk (6 : Int))
 (br (!give)
 (br v0.fst.commit
 (K vT [])
 (K (.one (dB v0.fst.abort)) []))
 (K vF []))
 (K vF []))))
 (K vF []))
 (K vF []))))))
 (br v3.fst.commit
 (br (!v0.fst.commit)
 (br give
 (K vF [])
 (br (!(eqi mk (3 : Int)))
 (K vF [])
 (br (!my)
 (K vF [])
 (br (!(eqi mn v0.fst.n))
 (K vF [])
 (br v0.fst.abort
 (K vF [])
 (br (lti mu (0 : Int))
 (K vF [])
 (br (lei (((len vo) : Nat) : Int) mu)
 (K vF [])
 (rec law_GateOnce_L0 (law_GateOnce_S0 (0 : Int) (((len vo) : Nat) : Int) vo false give v3.fst.n v3.fst.version v3.fst.commit v3.fst.abort v3.fst.ended v0.fst.n v0.fst.version v0.fst.commit v0.fst.abort v0.fst.ended mk mu mn ma mi mw my)))))))))
 (br (!v3.fst.abort)
 (br (!v3.fst.ended)
 (K vT [])
 (br v0.fst.ended
 (K vT [])
 (br (eqi mk (6 : Int))
 (br (!give)
 (br v0.fst.commit
 (K vT [])
 (K (.one (dB v0.fst.abort)) []))
 (K vF []))
 (K vF []))))
 (br v0.fst.abort
 (br (!v3.fst.ended)
 (K vT [])
 (br v0.fst.ended
 (K vT [])
 (br (eqi mk (6 : Int))
 (br (!give)
 (br v0.fst.commit
 (K vT [])
 (K (.one (dB v0.fst.abort)) []))
 (K vF []))
 (K vF []))))
 (br give
 (br (!v0.fst.commit)
 (br (!v3.fst.ended)
 (K vT [])
 (br v0.fst.ended
 (K vT [])
 (br (eqi mk (6 : Int))
 (br (!give)
 (br v0.fst.commit
 (K vT [])
 (K (.one (dB v0.fst.abort)) []))
 (K vF []))
 (K vF []))))
 (K vF []))
 (K vF [])))))
 (br (!v3.fst.abort)
 (br (!v3.fst.ended)
 (K vT [])
 (br v0.fst.ended
 (K vT [])
 (br (eqi mk (6 : Int))
 (br (!give)
 (br v0.fst.commit
 (K vT [])
 (K (.one (dB v0.fst.abort)) []))
 (K vF []))
 (K vF []))))
 (br v0.fst.abort
 (br (!v3.fst.ended)
 (K vT [])
 (br v0.fst.ended
 (K vT [])
 (br (eqi mk (6 : Int))
 (br (!give)
 (br v0.fst.commit
 (K vT [])
 (K (.one (dB v0.fst.abort)) []))
 (K vF []))
 (K vF []))))
 (br give
 (br (!v0.fst.commit)
 (br (!v3.fst.ended)
 (K vT [])
 (br v0.fst.ended
 (K vT [])
 (br (eqi mk (6 : Int))
 (br (!give)
 (br v0.fst.commit
 (K vT [])
 (K (.one (dB v0.fst.abort)) []))
 (K vF []))
 (K vF []))))
 (K vF []))
 (K vF [])))))))
 (br v3.fst.commit
 (br v3.fst.abort
 (K vF [])
 (br v3.fst.commit
 (br (!v0.fst.commit)
 (br give
 (K vF [])
 (br (!(eqi mk (3 : Int)))
 (K vF [])
 (br (!my)
 (K vF [])
 (br (!(eqi mn v0.fst.n))
 (K vF [])
 (br v0.fst.abort
 (K vF [])
 (br (lti mu (0 : Int))
 (K vF [])
 (br (lei (((len vo) : Nat) : Int) mu)
 (K vF [])
 (rec law_GateOnce_L0 (law_GateOnce_S0 (0 : Int) (((len vo) : Nat) : Int) vo false give v3.fst.n v3.fst.version v3.fst.commit v3.fst.abort v3.fst.ended v0.fst.n v0.fst.version v0.fst.commit v0.fst.abort v0.fst.ended mk mu mn ma mi mw my)))))))))
 (br (!v3.fst.abort)
 (br (!v3.fst.ended)
 (K vT [])
 (br v0.fst.ended
 (K vT [])
 (br (eqi mk (6 : Int))
 (br (!give)
 (br v0.fst.commit
 (K vT [])
 (K (.one (dB v0.fst.abort)) []))
 (K vF []))
 (K vF []))))
 (br v0.fst.abort
 (br (!v3.fst.ended)
 (K vT [])
 (br v0.fst.ended
 (K vT [])
 (br (eqi mk (6 : Int))
 (br (!give)
 (br v0.fst.commit
 (K vT [])
 (K (.one (dB v0.fst.abort)) []))
 (K vF []))
 (K vF []))))
 (br give
 (br (!v0.fst.commit)
 (br (!v3.fst.ended)
 (K vT [])
 (br v0.fst.ended
 (K vT [])
 (br (eqi mk (6 : Int))
 (br (!give)
 (br v0.fst.commit
 (K vT [])
 (K (.one (dB v0.fst.abort)) []))
 (K vF []))
 (K vF []))))
 (K vF []))
 (K vF [])))))
 (br (!v3.fst.abort)
 (br (!v3.fst.ended)
 (K vT [])
 (br v0.fst.ended
 (K vT [])
 (br (eqi mk (6 : Int))
 (br (!give)
 (br v0.fst.commit
 (K vT [])
 (K (.one (dB v0.fst.abort)) []))
 (K vF []))
 (K vF []))))
 (br v0.fst.abort
 (br (!v3.fst.ended)
 (K vT [])
 (br v0.fst.ended
 (K vT [])
 (br (eqi mk (6 : Int))
 (br (!give)
 (br v0.fst.commit
 (K vT [])
 (K (.one (dB v0.fst.abort)) []))
 (K vF []))
 (K vF []))))
 (br give
 (br (!v0.fst.commit)
 (br (!v3.fst.ended)
 (K vT [])
 (br v0.fst.ended
 (K vT [])
 (br (eqi mk (6 : Int))
 (br (!give)
 (br v0.fst.commit
 (K vT [])
 (K (.one (dB v0.fst.abort)) []))
 (K vF []))
 (K vF []))))
 (K vF []))
 (K vF []))))))
 (br v3.fst.commit
 (br (!v0.fst.commit)
 (br give
 (K vF [])
 (br (!(eqi mk (3 : Int)))
 (K vF [])
 (br (!my)
 (K vF [])
 (br (!(eqi mn v0.fst.n))
 (K vF [])
 (br v0.fst.abort
 (K vF [])
 (br (lti mu (0 : Int))
 (K vF [])
 (br (lei (((len vo) : Nat) : Int) mu)
 (K vF [])
 (rec law_GateOnce_L0 (law_GateOnce_S0 (0 : Int) (((len vo) : Nat) : Int) vo false give v3.fst.n v3.fst.version v3.fst.commit v3.fst.abort v3.fst.ended v0.fst.n v0.fst.version v0.fst.commit v0.fst.abort v0.fst.ended mk mu mn ma mi mw my)))))))))
 (br (!v3.fst.abort)
 (br (!v3.fst.ended)
 (K vT [])
 (br v0.fst.ended
 (K vT [])
 (br (eqi mk (6 : Int))
 (br (!give)
 (br v0.fst.commit
 (K vT [])
 (K (.one (dB v0.fst.abort)) []))
 (K vF []))
 (K vF []))))
 (br v0.fst.abort
 (br (!v3.fst.ended)
 (K vT [])
 (br v0.fst.ended
 (K vT [])
 (br (eqi mk (6 : Int))
 (br (!give)
 (br v0.fst.commit
 (K vT [])
 (K (.one (dB v0.fst.abort)) []))
 (K vF []))
 (K vF []))))
 (br give
 (br (!v0.fst.commit)
 (br (!v3.fst.ended)
 (K vT [])
 (br v0.fst.ended
 (K vT [])
 (br (eqi mk (6 : Int))
 (br (!give)
 (br v0.fst.commit
 (K vT [])
 (K (.one (dB v0.fst.abort)) []))
 (K vF []))
 (K vF []))))
 (K vF []))
 (K vF [])))))
 (br (!v3.fst.abort)
 (br (!v3.fst.ended)
 (K vT [])
 (br v0.fst.ended
 (K vT [])
 (br (eqi mk (6 : Int))
 (br (!give)
 (br v0.fst.commit
 (K vT [])
 (K (.one (dB v0.fst.abort)) []))
 (K vF []))
 (K vF []))))
 (br v0.fst.abort
 (br (!v3.fst.ended)
 (K vT [])
 (br v0.fst.ended
 (K vT [])
 (br (eqi mk (6 : Int))
 (br (!give)
 (br v0.fst.commit
 (K vT [])
 (K (.one (dB v0.fst.abort)) []))
 (K vF []))
 (K vF []))))
 (br give
 (br (!v0.fst.commit)
 (br (!v3.fst.ended)
 (K vT [])
 (br v0.fst.ended
 (K vT [])
 (br (eqi mk (6 : Int))
 (br (!give)
 (br v0.fst.commit
 (K vT [])
 (K (.one (dB v0.fst.abort)) []))
 (K vF []))
 (K vF []))))
 (K vF []))
 (K vF []))))))))
 (br v0.fst.ended
 (br (!v3.fst.ended)
 (K vF [])
 (br v3.fst.commit
 (br v3.fst.abort
 (K vF [])
 (br v3.fst.commit
 (br (!v0.fst.commit)
 (br give
 (K vF [])
 (br (!(eqi mk (3 : Int)))
 (K vF [])
 (br (!my)
 (K vF [])
 (br (!(eqi mn v0.fst.n))
 (K vF [])
 (br v0.fst.abort
 (K vF [])
 (br (lti mu (0 : Int))
 (K vF [])
 (br (lei (((len vo) : Nat) : Int) mu)
 (K vF [])
 (rec law_GateOnce_L0 (law_GateOnce_S0 (0 : Int) (((len vo) : Nat) : Int) vo false give v3.fst.n v3.fst.version v3.fst.commit v3.fst.abort v3.fst.ended v0.fst.n v0.fst.version v0.fst.commit v0.fst.abort v0.fst.ended mk mu mn ma mi mw my)))))))))
 (br (!v3.fst.abort)
 (br (!v3.fst.ended)
 (K vT [])
 (br v0.fst.ended
 (K vT [])
 (br (eqi mk (6 : Int))
 (br (!give)
 (br v0.fst.commit
 (K vT [])
 (K (.one (dB v0.fst.abort)) []))
 (K vF []))
 (K vF []))))
 (br v0.fst.abort
 (br (!v3.fst.ended)
 (K vT [])
 (br v0.fst.ended
 (K vT [])
 (br (eqi mk (6 : Int))
 (br (!give)
 (br v0.fst.commit
 (K vT [])
 (K (.one (dB v0.fst.abort)) []))
 (K vF []))
 (K vF []))))
 (br give
 (br (!v0.fst.commit)
 (br (!v3.fst.ended)
 (K vT [])
 (br v0.fst.ended
 (K vT [])
 (br (eqi mk (6 : Int))
 (br (!give)
 (br v0.fst.commit
 (K vT [])
 (K (.one (dB v0.fst.abort)) []))
 (K vF []))
 (K vF []))))
 (K vF []))
 (K vF [])))))
 (br (!v3.fst.abort)
 (br (!v3.fst.ended)
 (K vT [])
 (br v0.fst.ended
 (K vT [])
 (br (eqi mk (6 : Int))
 (br (!give)
 (br v0.fst.commit
 (K vT [])
 (K (.one (dB v0.fst.abort)) []))
 (K vF []))
 (K vF []))))
 (br v0.fst.abort
 (br (!v3.fst.ended)
 (K vT [])
 (br v0.fst.ended
 (K vT [])
 (br (eqi mk (6 : Int))
 (br (!give)
 (br v0.fst.commit
 (K vT [])
 (K (.one (dB v0.fst.abort)) []))
 (K vF []))
 (K vF []))))
 (br give
 (br (!v0.fst.commit)
 (br (!v3.fst.ended)
 (K vT [])
 (br v0.fst.ended
 (K vT [])
 (br (eqi mk (6 : Int))
 (br (!give)
 (br v0.fst.commit
 (K vT [])
 (K (.one (dB v0.fst.abort)) []))
 (K vF []))
 (K vF []))))
 (K vF []))
 (K vF []))))))
 (br v3.fst.commit
 (br (!v0.fst.commit)
 (br give
 (K vF [])
 (br (!(eqi mk (3 : Int)))
 (K vF [])
 (br (!my)
 (K vF [])
 (br (!(eqi mn v0.fst.n))
 (K vF [])
 (br v0.fst.abort
 (K vF [])
 (br (lti mu (0 : Int))
 (K vF [])
 (br (lei (((len vo) : Nat) : Int) mu)
 (K vF [])
 (rec law_GateOnce_L0 (law_GateOnce_S0 (0 : Int) (((len vo) : Nat) : Int) vo false give v3.fst.n v3.fst.version v3.fst.commit v3.fst.abort v3.fst.ended v0.fst.n v0.fst.version v0.fst.commit v0.fst.abort v0.fst.ended mk mu mn ma mi mw my)))))))))
 (br (!v3.fst.abort)
 (br (!v3.fst.ended)
 (K vT [])
 (br v0.fst.ended
 (K vT [])
 (br (eqi mk (6 : Int))
 (br (!give)
 (br v0.fst.commit
 (K vT [])
 (K (.one (dB v0.fst.abort)) []))
 (K vF []))
 (K vF []))))
 (br v0.fst.abort
 (br (!v3.fst.ended)
 (K vT [])
 (br v0.fst.ended
 (K vT [])
 (br (eqi mk (6 : Int))
 (br (!give)
 (br v0.fst.commit
 (K vT [])
 (K (.one (dB v0.fst.abort)) []))
 (K vF []))
 (K vF []))))
 (br give
 (br (!v0.fst.commit)
 (br (!v3.fst.ended)
 (K vT [])
 (br v0.fst.ended
 (K vT [])
 (br (eqi mk (6 : Int))
 (br (!give)
 (br v0.fst.commit
 (K vT [])
 (K (.one (dB v0.fst.abort)) []))
 (K vF []))
 (K vF []))))
 (K vF []))
 (K vF [])))))
 (br (!v3.fst.abort)
 (br (!v3.fst.ended)
 (K vT [])
 (br v0.fst.ended
 (K vT [])
 (br (eqi mk (6 : Int))
 (br (!give)
 (br v0.fst.commit
 (K vT [])
 (K (.one (dB v0.fst.abort)) []))
 (K vF []))
 (K vF []))))
 (br v0.fst.abort
 (br (!v3.fst.ended)
 (K vT [])
 (br v0.fst.ended
 (K vT [])
 (br (eqi mk (6 : Int))
 (br (!give)
 (br v0.fst.commit
 (K vT [])
 (K (.one (dB v0.fst.abort)) []))
 (K vF []))
 (K vF []))))
 (br give
 (br (!v0.fst.commit)
 (br (!v3.fst.ended)
 (K vT [])
 (br v0.fst.ended
 (K vT [])
 (br (eqi mk (6 : Int))
 (br (!give)
 (br v0.fst.commit
 (K vT [])
 (K (.one (dB v0.fst.abort)) []))
 (K vF []))
 (K vF []))))
 (K vF []))
 (K vF [])))))))
 (br v3.fst.commit
 (br v3.fst.abort
 (K vF [])
 (br v3.fst.commit
 (br (!v0.fst.commit)
 (br give
 (K vF [])
 (br (!(eqi mk (3 : Int)))
 (K vF [])
 (br (!my)
 (K vF [])
 (br (!(eqi mn v0.fst.n))
 (K vF [])
 (br v0.fst.abort
 (K vF [])
 (br (lti mu (0 : Int))
 (K vF [])
 (br (lei (((len vo) : Nat) : Int) mu)
 (K vF [])
 (rec law_GateOnce_L0 (law_GateOnce_S0 (0 : Int) (((len vo) : Nat) : Int) vo false give v3.fst.n v3.fst.version v3.fst.commit v3.fst.abort v3.fst.ended v0.fst.n v0.fst.version v0.fst.commit v0.fst.abort v0.fst.ended mk mu mn ma mi mw my)))))))))
 (br (!v3.fst.abort)
 (br (!v3.fst.ended)
 (K vT [])
 (br v0.fst.ended
 (K vT [])
 (br (eqi mk (6 : Int))
 (br (!give)
 (br v0.fst.commit
 (K vT [])
 (K (.one (dB v0.fst.abort)) []))
 (K vF []))
 (K vF []))))
 (br v0.fst.abort
 (br (!v3.fst.ended)
 (K vT [])
 (br v0.fst.ended
 (K vT [])
 (br (eqi mk (6 : Int))
 (br (!give)
 (br v0.fst.commit
 (K vT [])
 (K (.one (dB v0.fst.abort)) []))
 (K vF []))
 (K vF []))))
 (br give
 (br (!v0.fst.commit)
 (br (!v3.fst.ended)
 (K vT [])
 (br v0.fst.ended
 (K vT [])
 (br (eqi mk (6 : Int))
 (br (!give)
 (br v0.fst.commit
 (K vT [])
 (K (.one (dB v0.fst.abort)) []))
 (K vF []))
 (K vF []))))
 (K vF []))
 (K vF [])))))
 (br (!v3.fst.abort)
 (br (!v3.fst.ended)
 (K vT [])
 (br v0.fst.ended
 (K vT [])
 (br (eqi mk (6 : Int))
 (br (!give)
 (br v0.fst.commit
 (K vT [])
 (K (.one (dB v0.fst.abort)) []))
 (K vF []))
 (K vF []))))
 (br v0.fst.abort
 (br (!v3.fst.ended)
 (K vT [])
 (br v0.fst.ended
 (K vT [])
 (br (eqi mk (6 : Int))
 (br (!give)
 (br v0.fst.commit
 (K vT [])
 (K (.one (dB v0.fst.abort)) []))
 (K vF []))
 (K vF []))))
 (br give
 (br (!v0.fst.commit)
 (br (!v3.fst.ended)
 (K vT [])
 (br v0.fst.ended
 (K vT [])
 (br (eqi mk (6 : Int))
 (br (!give)
 (br v0.fst.commit
 (K vT [])
 (K (.one (dB v0.fst.abort)) []))
 (K vF []))
 (K vF []))))
 (K vF []))
 (K vF []))))))
 (br v3.fst.commit
 (br (!v0.fst.commit)
 (br give
 (K vF [])
 (br (!(eqi mk (3 : Int)))
 (K vF [])
 (br (!my)
 (K vF [])
 (br (!(eqi mn v0.fst.n))
 (K vF [])
 (br v0.fst.abort
 (K vF [])
 (br (lti mu (0 : Int))
 (K vF [])
 (br (lei (((len vo) : Nat) : Int) mu)
 (K vF [])
 (rec law_GateOnce_L0 (law_GateOnce_S0 (0 : Int) (((len vo) : Nat) : Int) vo false give v3.fst.n v3.fst.version v3.fst.commit v3.fst.abort v3.fst.ended v0.fst.n v0.fst.version v0.fst.commit v0.fst.abort v0.fst.ended mk mu mn ma mi mw my)))))))))
 (br (!v3.fst.abort)
 (br (!v3.fst.ended)
 (K vT [])
 (br v0.fst.ended
 (K vT [])
 (br (eqi mk (6 : Int))
 (br (!give)
 (br v0.fst.commit
 (K vT [])
 (K (.one (dB v0.fst.abort)) []))
 (K vF []))
 (K vF []))))
 (br v0.fst.abort
 (br (!v3.fst.ended)
 (K vT [])
 (br v0.fst.ended
 (K vT [])
 (br (eqi mk (6 : Int))
 (br (!give)
 (br v0.fst.commit
 (K vT [])
 (K (.one (dB v0.fst.abort)) []))
 (K vF []))
 (K vF []))))
 (br give
 (br (!v0.fst.commit)
 (br (!v3.fst.ended)
 (K vT [])
 (br v0.fst.ended
 (K vT [])
 (br (eqi mk (6 : Int))
 (br (!give)
 (br v0.fst.commit
 (K vT [])
 (K (.one (dB v0.fst.abort)) []))
 (K vF []))
 (K vF []))))
 (K vF []))
 (K vF [])))))
 (br (!v3.fst.abort)
 (br (!v3.fst.ended)
 (K vT [])
 (br v0.fst.ended
 (K vT [])
 (br (eqi mk (6 : Int))
 (br (!give)
 (br v0.fst.commit
 (K vT [])
 (K (.one (dB v0.fst.abort)) []))
 (K vF []))
 (K vF []))))
 (br v0.fst.abort
 (br (!v3.fst.ended)
 (K vT [])
 (br v0.fst.ended
 (K vT [])
 (br (eqi mk (6 : Int))
 (br (!give)
 (br v0.fst.commit
 (K vT [])
 (K (.one (dB v0.fst.abort)) []))
 (K vF []))
 (K vF []))))
 (br give
 (br (!v0.fst.commit)
 (br (!v3.fst.ended)
 (K vT [])
 (br v0.fst.ended
 (K vT [])
 (br (eqi mk (6 : Int))
 (br (!give)
 (br v0.fst.commit
 (K vT [])
 (K (.one (dB v0.fst.abort)) []))
 (K vF []))
 (K vF []))))
 (K vF []))
 (K vF []))))))))))))))
 (br (!(eqi v4.snd (0 : Int)))
 (K vT [])
 (br (!(eqi v5.snd (0 : Int)))
 (K vF [])
 (br (!(eqi v6.snd (0 : Int)))
 (K vF [])
 (br (!(eqi v6.fst.n v0.fst.n))
 (K vF [])
 (br (!(eqi v6.fst.version v0.fst.version))
 (K vF [])
 (br v0.fst.commit
 (br (!v6.fst.commit)
 (K vF [])
 (br v0.fst.abort
 (br (!v6.fst.abort)
 (K vF [])
 (br v0.fst.ended
 (br (!v6.fst.ended)
 (K vF [])
 (br v6.fst.commit
 (br v6.fst.abort
 (K vF [])
 (br v6.fst.commit
 (br (!v0.fst.commit)
 (br give
 (K vF [])
 (br (!(eqi mk (3 : Int)))
 (K vF [])
 (br (!my)
 (K vF [])
 (br (!(eqi mn v0.fst.n))
 (K vF [])
 (br v0.fst.abort
 (K vF [])
 (br (lti mu (0 : Int))
 (K vF [])
 (br (lei (((len vo) : Nat) : Int) mu)
 (K vF [])
 (rec law_GateOnce_L0 (law_GateOnce_S0 (0 : Int) (((len vo) : Nat) : Int) vo false give v6.fst.n v6.fst.version v6.fst.commit v6.fst.abort v6.fst.ended v0.fst.n v0.fst.version v0.fst.commit v0.fst.abort v0.fst.ended mk mu mn ma mi mw my)))))))))
 (br (!v6.fst.abort)
 (br (!v6.fst.ended)
 (K vT [])
 (br v0.fst.ended
 (K vT [])
 (br (eqi mk (6 : Int))
 (br (!give)
 (br v0.fst.commit
 (K vT [])
 (K (.one (dB v0.fst.abort)) []))
 (K vF []))
 (K vF []))))
 (br v0.fst.abort
 (br (!v6.fst.ended)
 (K vT [])
 (br v0.fst.ended
 (K vT [])
 (br (eqi mk (6 : Int))
 (br (!give)
 (br v0.fst.commit
 (K vT [])
 (K (.one (dB v0.fst.abort)) []))
 (K vF []))
 (K vF []))))
 (br give
 (br (!v0.fst.commit)
 (br (!v6.fst.ended)
 (K vT [])
 (br v0.fst.ended
 (K vT [])
 (br (eqi mk (6 : Int))
 (br (!give)
 (br v0.fst.commit
 (K vT [])
 (K (.one (dB v0.fst.abort)) []))
 (K vF []))
 (K vF []))))
 (K vF []))
 (K vF [])))))
 (br (!v6.fst.abort)
 (br (!v6.fst.ended)
 (K vT [])
 (br v0.fst.ended
 (K vT [])
 (br (eqi mk (6 : Int))
 (br (!give)
 (br v0.fst.commit
 (K vT [])
 (K (.one (dB v0.fst.abort)) []))
 (K vF []))
 (K vF []))))
 (br v0.fst.abort
 (br (!v6.fst.ended)
 (K vT [])
 (br v0.fst.ended
 (K vT [])
 (br (eqi mk (6 : Int))
 (br (!give)
 (br v0.fst.commit
 (K vT [])
 (K (.one (dB v0.fst.abort)) []))
 (K vF []))
 (K vF []))))
 (br give
 (br (!v0.fst.commit)
 (br (!v6.fst.ended)
 (K vT [])
 (br v0.fst.ended
 (K vT [])
 (br (eqi mk (6 : Int))
 (br (!give)
 (br v0.fst.commit
 (K vT [])
 (K (.one (dB v0.fst.abort)) []))
 (K vF []))
 (K vF []))))
 (K vF []))
 (K vF []))))))
 (br v6.fst.commit
 (br (!v0.fst.commit)
 (br give
 (K vF [])
 (br (!(eqi mk (3 : Int)))
 (K vF [])
 (br (!my)
 (K vF [])
 (br (!(eqi mn v0.fst.n))
 (K vF [])
 (br v0.fst.abort
 (K vF [])
 (br (lti mu (0 : Int))
 (K vF [])
 (br (lei (((len vo) : Nat) : Int) mu)
 (K vF [])
 (rec law_GateOnce_L0 (law_GateOnce_S0 (0 : Int) (((len vo) : Nat) : Int) vo false give v6.fst.n v6.fst.version v6.fst.commit v6.fst.abort v6.fst.ended v0.fst.n v0.fst.version v0.fst.commit v0.fst.abort v0.fst.ended mk mu mn ma mi mw my)))))))))
 (br (!v6.fst.abort)
 (br (!v6.fst.ended)
 (K vT [])
 (br v0.fst.ended
 (K vT [])
 (br (eqi mk (6 : Int))
 (br (!give)
 (br v0.fst.commit
 (K vT [])
 (K (.one (dB v0.fst.abort)) []))
 (K vF []))
 (K vF []))))
 (br v0.fst.abort
 (br (!v6.fst.ended)
 (K vT [])
 (br v0.fst.ended
 (K vT [])
 (br (eqi mk (6 : Int))
 (br (!give)
 (br v0.fst.commit
 (K vT [])
 (K (.one (dB v0.fst.abort)) []))
 (K vF []))
 (K vF []))))
 (br give
 (br (!v0.fst.commit)
 (br (!v6.fst.ended)
 (K vT [])
 (br v0.fst.ended
 (K vT [])
 (br (eqi mk (6 : Int))
 (br (!give)
 (br v0.fst.commit
 (K vT [])
 (K (.one (dB v0.fst.abort)) []))
 (K vF []))
 (K vF []))))
 (K vF []))
 (K vF [])))))
 (br (!v6.fst.abort)
 (br (!v6.fst.ended)
 (K vT [])
 (br v0.fst.ended
 (K vT [])
 (br (eqi mk (6 : Int))
 (br (!give)
 (br v0.fst.commit
 (K vT [])
 (K (.one (dB v0.fst.abort)) []))
 (K vF []))
 (K vF []))))
 (br v0.fst.abort
 (br (!v6.fst.ended)
 (K vT [])
 (br v0.fst.ended
 (K vT [])
 (br (eqi mk (6 : Int))
 (br (!give)
 (br v0.fst.commit
 (K vT [])
 (K (.one (dB v0.fst.abort)) []))
 (K vF []))
 (K vF []))))
 (br give
 (br (!v0.fst.commit)
 (br (!v6.fst.ended)
 (K vT [])
 (br v0.fst.ended
 (K vT [])
 (br (eqi mk (6 : Int))
 (br (!give)
 (br v0.fst.commit
 (K vT [])
 (K (.one (dB v0.fst.abort)) []))
 (K vF []))
 (K vF []))))
 (K vF []))
 (K vF [])))))))
 (br v6.fst.commit
 (br v6.fst.abort
 (K vF [])
 (br v6.fst.commit
 (br (!v0.fst.commit)
 (br give
 (K vF [])
 (br (!(eqi mk (3 : Int)))
 (K vF [])
 (br (!my)
 (K vF [])
 (br (!(eqi mn v0.fst.n))
 (K vF [])
 (br v0.fst.abort
 (K vF [])
 (br (lti mu (0 : Int))
 (K vF [])
 (br (lei (((len vo) : Nat) : Int) mu)
 (K vF [])
 (rec law_GateOnce_L0 (law_GateOnce_S0 (0 : Int) (((len vo) : Nat) : Int) vo false give v6.fst.n v6.fst.version v6.fst.commit v6.fst.abort v6.fst.ended v0.fst.n v0.fst.version v0.fst.commit v0.fst.abort v0.fst.ended mk mu mn ma mi mw my)))))))))
 (br (!v6.fst.abort)
 (br (!v6.fst.ended)
 (K vT [])
 (br v0.fst.ended
 (K vT [])
 (br (eqi mk (6 : Int))
 (br (!give)
 (br v0.fst.commit
 (K vT [])
 (K (.one (dB v0.fst.abort)) []))
 (K vF []))
 (K vF []))))
 (br v0.fst.abort
 (br (!v6.fst.ended)
 (K vT [])
 (br v0.fst.ended
 (K vT [])
 (br (eqi mk (6 : Int))
 (br (!give)
 (br v0.fst.commit
 (K vT [])
 (K (.one (dB v0.fst.abort)) []))
 (K vF []))
 (K vF []))))
 (br give
 (br (!v0.fst.commit)
 (br (!v6.fst.ended)
 (K vT [])
 (br v0.fst.ended
 (K vT [])
 (br (eqi mk (6 : Int))
 (br (!give)
 (br v0.fst.commit
 (K vT [])
 (K (.one (dB v0.fst.abort)) []))
 (K vF []))
 (K vF []))))
 (K vF []))
 (K vF [])))))
 (br (!v6.fst.abort)
 (br (!v6.fst.ended)
 (K vT [])
 (br v0.fst.ended
 (K vT [])
 (br (eqi mk (6 : Int))
 (br (!give)
 (br v0.fst.commit
 (K vT [])
 (K (.one (dB v0.fst.abort)) []))
 (K vF []))
 (K vF []))))
 (br v0.fst.abort
 (br (!v6.fst.ended)
 (K vT [])
 (br v0.fst.ended
 (K vT [])
 (br (eqi mk (6 : Int))
 (br (!give)
 (br v0.fst.commit
 (K vT [])
 (K (.one (dB v0.fst.abort)) []))
 (K vF []))
 (K vF []))))
 (br give
 (br (!v0.fst.commit)
 (br (!v6.fst.ended)
 (K vT [])
 (br v0.fst.ended
 (K vT [])
 (br (eqi mk (6 : Int))
 (br (!give)
 (br v0.fst.commit
 (K vT [])
 (K (.one (dB v0.fst.abort)) []))
 (K vF []))
 (K vF []))))
 (K vF []))
 (K vF []))))))
 (br v6.fst.commit
 (br (!v0.fst.commit)
 (br give
 (K vF [])
 (br (!(eqi mk (3 : Int)))
 (K vF [])
 (br (!my)
 (K vF [])
 (br (!(eqi mn v0.fst.n))
 (K vF [])
 (br v0.fst.abort
 (K vF [])
 (br (lti mu (0 : Int))
 (K vF [])
 (br (lei (((len vo) : Nat) : Int) mu)
 (K vF [])
 (rec law_GateOnce_L0 (law_GateOnce_S0 (0 : Int) (((len vo) : Nat) : Int) vo false give v6.fst.n v6.fst.version v6.fst.commit v6.fst.abort v6.fst.ended v0.fst.n v0.fst.version v0.fst.commit v0.fst.abort v0.fst.ended mk mu mn ma mi mw my)))))))))
 (br (!v6.fst.abort)
 (br (!v6.fst.ended)
 (K vT [])
 (br v0.fst.ended
 (K vT [])
 (br (eqi mk (6 : Int))
 (br (!give)
 (br v0.fst.commit
 (K vT [])
 (K (.one (dB v0.fst.abort)) []))
 (K vF []))
 (K vF []))))
 (br v0.fst.abort
 (br (!v6.fst.ended)
 (K vT [])
 (br v0.fst.ended
 (K vT [])
 (br (eqi mk (6 : Int))
 (br (!give)
 (br v0.fst.commit
 (K vT [])
 (K (.one (dB v0.fst.abort)) []))
 (K vF []))
 (K vF []))))
 (br give
 (br (!v0.fst.commit)
 (br (!v6.fst.ended)
 (K vT [])
 (br v0.fst.ended
 (K vT [])
 (br (eqi mk (6 : Int))
 (br (!give)
 (br v0.fst.commit
 (K vT [])
 (K (.one (dB v0.fst.abort)) []))
 (K vF []))
 (K vF []))))
 (K vF []))
 (K vF [])))))
 (br (!v6.fst.abort)
 (br (!v6.fst.ended)
 (K vT [])
 (br v0.fst.ended
 (K vT [])
 (br (eqi mk (6 : Int))
 (br (!give)
 (br v0.fst.commit
 (K vT [])
 (K (.one (dB v0.fst.abort)) []))
 (K vF []))
 (K vF []))))
 (br v0.fst.abort
 (br (!v6.fst.ended)
 (K vT [])
 (br v0.fst.ended
 (K vT [])
 (br (eqi mk (6 : Int))
 (br (!give)
 (br v0.fst.commit
 (K vT [])
 (K (.one (dB v0.fst.abort)) []))
 (K vF []))
 (K vF []))))
 (br give
 (br (!v0.fst.commit)
 (br (!v6.fst.ended)
 (K vT [])
 (br v0.fst.ended
 (K vT [])
 (br (eqi mk (6 : Int))
 (br (!give)
 (br v0.fst.commit
 (K vT [])
 (K (.one (dB v0.fst.abort)) []))
 (K vF []))
 (K vF []))))
 (K vF []))
 (K vF []))))))))
 (br v0.fst.ended
 (br (!v6.fst.ended)
 (K vF [])
 (br v6.fst.commit
 (br v6.fst.abort
 (K vF [])
 (br v6.fst.commit
 (br (!v0.fst.commit)
 (br give
 (K vF [])
 (br (!(eqi mk (3 : Int)))
 (K vF [])
 (br (!my)
 (K vF [])
 (br (!(eqi mn v0.fst.n))
 (K vF [])
 (br v0.fst.abort
 (K vF [])
 (br (lti mu (0 : Int))
 (K vF [])
 (br (lei (((len vo) : Nat) : Int) mu)
 (K vF [])
 (rec law_GateOnce_L0 (law_GateOnce_S0 (0 : Int) (((len vo) : Nat) : Int) vo false give v6.fst.n v6.fst.version v6.fst.commit v6.fst.abort v6.fst.ended v0.fst.n v0.fst.version v0.fst.commit v0.fst.abort v0.fst.ended mk mu mn ma mi mw my)))))))))
 (br (!v6.fst.abort)
 (br (!v6.fst.ended)
 (K vT [])
 (br v0.fst.ended
 (K vT [])
 (br (eqi mk (6 : Int))
 (br (!give)
 (br v0.fst.commit
 (K vT [])
 (K (.one (dB v0.fst.abort)) []))
 (K vF []))
 (K vF []))))
 (br v0.fst.abort
 (br (!v6.fst.ended)
 (K vT [])
 (br v0.fst.ended
 (K vT [])
 (br (eqi mk (6 : Int))
 (br (!give)
 (br v0.fst.commit
 (K vT [])
 (K (.one (dB v0.fst.abort)) []))
 (K vF []))
 (K vF []))))
 (br give
 (br (!v0.fst.commit)
 (br (!v6.fst.ended)
 (K vT [])
 (br v0.fst.ended
 (K vT [])
 (br (eqi mk (6 : Int))
 (br (!give)
 (br v0.fst.commit
 (K vT [])
 (K (.one (dB v0.fst.abort)) []))
 (K vF []))
 (K vF []))))
 (K vF []))
 (K vF [])))))
 (br (!v6.fst.abort)
 (br (!v6.fst.ended)
 (K vT [])
 (br v0.fst.ended
 (K vT [])
 (br (eqi mk (6 : Int))
 (br (!give)
 (br v0.fst.commit
 (K vT [])
 (K (.one (dB v0.fst.abort)) []))
 (K vF []))
 (K vF []))))
 (br v0.fst.abort
 (br (!v6.fst.ended)
 (K vT [])
 (br v0.fst.ended
 (K vT [])
 (br (eqi mk (6 : Int))
 (br (!give)
 (br v0.fst.commit
 (K vT [])
 (K (.one (dB v0.fst.abort)) []))
 (K vF []))
 (K vF []))))
 (br give
 (br (!v0.fst.commit)
 (br (!v6.fst.ended)
 (K vT [])
 (br v0.fst.ended
 (K vT [])
 (br (eqi mk (6 : Int))
 (br (!give)
 (br v0.fst.commit
 (K vT [])
 (K (.one (dB v0.fst.abort)) []))
 (K vF []))
 (K vF []))))
 (K vF []))
 (K vF []))))))
 (br v6.fst.commit
 (br (!v0.fst.commit)
 (br give
 (K vF [])
 (br (!(eqi mk (3 : Int)))
 (K vF [])
 (br (!my)
 (K vF [])
 (br (!(eqi mn v0.fst.n))
 (K vF [])
 (br v0.fst.abort
 (K vF [])
 (br (lti mu (0 : Int))
 (K vF [])
 (br (lei (((len vo) : Nat) : Int) mu)
 (K vF [])
 (rec law_GateOnce_L0 (law_GateOnce_S0 (0 : Int) (((len vo) : Nat) : Int) vo false give v6.fst.n v6.fst.version v6.fst.commit v6.fst.abort v6.fst.ended v0.fst.n v0.fst.version v0.fst.commit v0.fst.abort v0.fst.ended mk mu mn ma mi mw my)))))))))
 (br (!v6.fst.abort)
 (br (!v6.fst.ended)
 (K vT [])
 (br v0.fst.ended
 (K vT [])
 (br (eqi mk (6 : Int))
 (br (!give)
 (br v0.fst.commit
 (K vT [])
 (K (.one (dB v0.fst.abort)) []))
 (K vF []))
 (K vF []))))
 (br v0.fst.abort
 (br (!v6.fst.ended)
 (K vT [])
 (br v0.fst.ended
 (K vT [])
 (br (eqi mk (6 : Int))
 (br (!give)
 (br v0.fst.commit
 (K vT [])
 (K (.one (dB v0.fst.abort)) []))
 (K vF []))
 (K vF []))))
 (br give
 (br (!v0.fst.commit)
 (br (!v6.fst.ended)
 (K vT [])
 (br v0.fst.ended
 (K vT [])
 (br (eqi mk (6 : Int))
 (br (!give)
 (br v0.fst.commit
 (K vT [])
 (K (.one (dB v0.fst.abort)) []))
 (K vF []))
 (K vF []))))
 (K vF []))
 (K vF [])))))
 (br (!v6.fst.abort)
 (br (!v6.fst.ended)
 (K vT [])
 (br v0.fst.ended
 (K vT [])
 (br (eqi mk (6 : Int))
 (br (!give)
 (br v0.fst.commit
 (K vT [])
 (K (.one (dB v0.fst.abort)) []))
 (K vF []))
 (K vF []))))
 (br v0.fst.abort
 (br (!v6.fst.ended)
 (K vT [])
 (br v0.fst.ended
 (K vT [])
 (br (eqi mk (6 : Int))
 (br (!give)
 (br v0.fst.commit
 (K vT [])
 (K (.one (dB v0.fst.abort)) []))
 (K vF []))
 (K vF []))))
 (br give
 (br (!v0.fst.commit)
 (br (!v6.fst.ended)
 (K vT [])
 (br v0.fst.ended
 (K vT [])
 (br (eqi mk (6 : Int))
 (br (!give)
 (br v0.fst.commit
 (K vT [])
 (K (.one (dB v0.fst.abort)) []))
 (K vF []))
 (K vF []))))
 (K vF []))
 (K vF [])))))))
 (br v6.fst.commit
 (br v6.fst.abort
 (K vF [])
 (br v6.fst.commit
 (br (!v0.fst.commit)
 (br give
 (K vF [])
 (br (!(eqi mk (3 : Int)))
 (K vF [])
 (br (!my)
 (K vF [])
 (br (!(eqi mn v0.fst.n))
 (K vF [])
 (br v0.fst.abort
 (K vF [])
 (br (lti mu (0 : Int))
 (K vF [])
 (br (lei (((len vo) : Nat) : Int) mu)
 (K vF [])
 (rec law_GateOnce_L0 (law_GateOnce_S0 (0 : Int) (((len vo) : Nat) : Int) vo false give v6.fst.n v6.fst.version v6.fst.commit v6.fst.abort v6.fst.ended v0.fst.n v0.fst.version v0.fst.commit v0.fst.abort v0.fst.ended mk mu mn ma mi mw my)))))))))
 (br (!v6.fst.abort)
 (br (!v6.fst.ended)
 (K vT [])
 (br v0.fst.ended
 (K vT [])
 (br (eqi mk (6 : Int))
 (br (!give)
 (br v0.fst.commit
 (K vT [])
 (K (.one (dB v0.fst.abort)) []))
 (K vF []))
 (K vF []))))
 (br v0.fst.abort
 (br (!v6.fst.ended)
 (K vT [])
 (br v0.fst.ended
 (K vT [])
 (br (eqi mk (6 : Int))
 (br (!give)
 (br v0.fst.commit
 (K vT [])
 (K (.one (dB v0.fst.abort)) []))
 (K vF []))
 (K vF []))))
 (br give
 (br (!v0.fst.commit)
 (br (!v6.fst.ended)
 (K vT [])
 (br v0.fst.ended
 (K vT [])
 (br (eqi mk (6 : Int))
 (br (!give)
 (br v0.fst.commit
 (K vT [])
 (K (.one (dB v0.fst.abort)) []))
 (K vF []))
 (K vF []))))
 (K vF []))
 (K vF [])))))
 (br (!v6.fst.abort)
 (br (!v6.fst.ended)
 (K vT [])
 (br v0.fst.ended
 (K vT [])
 (br (eqi mk (6 : Int))
 (br (!give)
 (br v0.fst.commit
 (K vT [])
 (K (.one (dB v0.fst.abort)) []))
 (K vF []))
 (K vF []))))
 (br v0.fst.abort
 (br (!v6.fst.ended)
 (K vT [])
 (br v0.fst.ended
 (K vT [])
 (br (eqi mk (6 : Int))
 (br (!give)
 (br v0.fst.commit
 (K vT [])
 (K (.one (dB v0.fst.abort)) []))
 (K vF []))
 (K vF []))))
 (br give
 (br (!v0.fst.commit)
 (br (!v6.fst.ended)
 (K vT [])
 (br v0.fst.ended
 (K vT [])
 (br (eqi mk (6 : Int))
 (br (!give)
 (br v0.fst.commit
 (K vT [])
 (K (.one (dB v0.fst.abort)) []))
 (K vF []))
 (K vF []))))
 (K vF []))
 (K vF []))))))
 (br v6.fst.commit
 (br (!v0.fst.commit)
 (br give
 (K vF [])
 (br (!(eqi mk (3 : Int)))
 (K vF [])
 (br (!my)
 (K vF [])
 (br (!(eqi mn v0.fst.n))
 (K vF [])
 (br v0.fst.abort
 (K vF [])
 (br (lti mu (0 : Int))
 (K vF [])
 (br (lei (((len vo) : Nat) : Int) mu)
 (K vF [])
 (rec law_GateOnce_L0 (law_GateOnce_S0 (0 : Int) (((len vo) : Nat) : Int) vo false give v6.fst.n v6.fst.version v6.fst.commit v6.fst.abort v6.fst.ended v0.fst.n v0.fst.version v0.fst.commit v0.fst.abort v0.fst.ended mk mu mn ma mi mw my)))))))))
 (br (!v6.fst.abort)
 (br (!v6.fst.ended)
 (K vT [])
 (br v0.fst.ended
 (K vT [])
 (br (eqi mk (6 : Int))
 (br (!give)
 (br v0.fst.commit
 (K vT [])
 (K (.one (dB v0.fst.abort)) []))
 (K vF []))
 (K vF []))))
 (br v0.fst.abort
 (br (!v6.fst.ended)
 (K vT [])
 (br v0.fst.ended
 (K vT [])
 (br (eqi mk (6 : Int))
 (br (!give)
 (br v0.fst.commit
 (K vT [])
 (K (.one (dB v0.fst.abort)) []))
 (K vF []))
 (K vF []))))
 (br give
 (br (!v0.fst.commit)
 (br (!v6.fst.ended)
 (K vT [])
 (br v0.fst.ended
 (K vT [])
 (br (eqi mk (6 : Int))
 (br (!give)
 (br v0.fst.commit
 (K vT [])
 (K (.one (dB v0.fst.abort)) []))
 (K vF []))
 (K vF []))))
 (K vF []))
 (K vF [])))))
 (br (!v6.fst.abort)
 (br (!v6.fst.ended)
 (K vT [])
 (br v0.fst.ended
 (K vT [])
 (br (eqi mk (6 : Int))
 (br (!give)
 (br v0.fst.commit
 (K vT [])
 (K (.one (dB v0.fst.abort)) []))
 (K vF []))
 (K vF []))))
 (br v0.fst.abort
 (br (!v6.fst.ended)
 (K vT [])
 (br v0.fst.ended
 (K vT [])
 (br (eqi mk (6 : Int))
 (br (!give)
 (br v0.fst.commit
 (K vT [])
 (K (.one (dB v0.fst.abort)) []))
 (K vF []))
 (K vF []))))
 (br give
 (br (!v0.fst.commit)
 (br (!v6.fst.ended)
 (K vT [])
 (br v0.fst.ended
 (K vT [])
 (br (eqi mk (6 : Int))
 (br (!give)
 (br v0.fst.commit
 (K vT [])
 (K (.one (dB v0.fst.abort)) []))
 (K vF []))
 (K vF []))))
 (K vF []))
 (K vF [])))))))))
 (br v0.fst.abort
 (br (!v6.fst.abort)
 (K vF [])
 (br v0.fst.ended
 (br (!v6.fst.ended)
 (K vF [])
 (br v6.fst.commit
 (br v6.fst.abort
 (K vF [])
 (br v6.fst.commit
 (br (!v0.fst.commit)
 (br give
 (K vF [])
 (br (!(eqi mk (3 : Int)))
 (K vF [])
 (br (!my)
 (K vF [])
 (br (!(eqi mn v0.fst.n))
 (K vF [])
 (br v0.fst.abort
 (K vF [])
 (br (lti mu (0 : Int))
 (K vF [])
 (br (lei (((len vo) : Nat) : Int) mu)
 (K vF [])
 (rec law_GateOnce_L0 (law_GateOnce_S0 (0 : Int) (((len vo) : Nat) : Int) vo false give v6.fst.n v6.fst.version v6.fst.commit v6.fst.abort v6.fst.ended v0.fst.n v0.fst.version v0.fst.commit v0.fst.abort v0.fst.ended mk mu mn ma mi mw my)))))))))
 (br (!v6.fst.abort)
 (br (!v6.fst.ended)
 (K vT [])
 (br v0.fst.ended
 (K vT [])
 (br (eqi mk (6 : Int))
 (br (!give)
 (br v0.fst.commit
 (K vT [])
 (K (.one (dB v0.fst.abort)) []))
 (K vF []))
 (K vF []))))
 (br v0.fst.abort
 (br (!v6.fst.ended)
 (K vT [])
 (br v0.fst.ended
 (K vT [])
 (br (eqi mk (6 : Int))
 (br (!give)
 (br v0.fst.commit
 (K vT [])
 (K (.one (dB v0.fst.abort)) []))
 (K vF []))
 (K vF []))))
 (br give
 (br (!v0.fst.commit)
 (br (!v6.fst.ended)
 (K vT [])
 (br v0.fst.ended
 (K vT [])
 (br (eqi mk (6 : Int))
 (br (!give)
 (br v0.fst.commit
 (K vT [])
 (K (.one (dB v0.fst.abort)) []))
 (K vF []))
 (K vF []))))
 (K vF []))
 (K vF [])))))
 (br (!v6.fst.abort)
 (br (!v6.fst.ended)
 (K vT [])
 (br v0.fst.ended
 (K vT [])
 (br (eqi mk (6 : Int))
 (br (!give)
 (br v0.fst.commit
 (K vT [])
 (K (.one (dB v0.fst.abort)) []))
 (K vF []))
 (K vF []))))
 (br v0.fst.abort
 (br (!v6.fst.ended)
 (K vT [])
 (br v0.fst.ended
 (K vT [])
 (br (eqi mk (6 : Int))
 (br (!give)
 (br v0.fst.commit
 (K vT [])
 (K (.one (dB v0.fst.abort)) []))
 (K vF []))
 (K vF []))))
 (br give
 (br (!v0.fst.commit)
 (br (!v6.fst.ended)
 (K vT [])
 (br v0.fst.ended
 (K vT [])
 (br (eqi mk (6 : Int))
 (br (!give)
 (br v0.fst.commit
 (K vT [])
 (K (.one (dB v0.fst.abort)) []))
 (K vF []))
 (K vF []))))
 (K vF []))
 (K vF []))))))
 (br v6.fst.commit
 (br (!v0.fst.commit)
 (br give
 (K vF [])
 (br (!(eqi mk (3 : Int)))
 (K vF [])
 (br (!my)
 (K vF [])
 (br (!(eqi mn v0.fst.n))
 (K vF [])
 (br v0.fst.abort
 (K vF [])
 (br (lti mu (0 : Int))
 (K vF [])
 (br (lei (((len vo) : Nat) : Int) mu)
 (K vF [])
 (rec law_GateOnce_L0 (law_GateOnce_S0 (0 : Int) (((len vo) : Nat) : Int) vo false give v6.fst.n v6.fst.version v6.fst.commit v6.fst.abort v6.fst.ended v0.fst.n v0.fst.version v0.fst.commit v0.fst.abort v0.fst.ended mk mu mn ma mi mw my)))))))))
 (br (!v6.fst.abort)
 (br (!v6.fst.ended)
 (K vT [])
 (br v0.fst.ended
 (K vT [])
 (br (eqi mk (6 : Int))
 (br (!give)
 (br v0.fst.commit
 (K vT [])
 (K (.one (dB v0.fst.abort)) []))
 (K vF []))
 (K vF []))))
 (br v0.fst.abort
 (br (!v6.fst.ended)
 (K vT [])
 (br v0.fst.ended
 (K vT [])
 (br (eqi mk (6 : Int))
 (br (!give)
 (br v0.fst.commit
 (K vT [])
 (K (.one (dB v0.fst.abort)) []))
 (K vF []))
 (K vF []))))
 (br give
 (br (!v0.fst.commit)
 (br (!v6.fst.ended)
 (K vT [])
 (br v0.fst.ended
 (K vT [])
 (br (eqi mk (6 : Int))
 (br (!give)
 (br v0.fst.commit
 (K vT [])
 (K (.one (dB v0.fst.abort)) []))
 (K vF []))
 (K vF []))))
 (K vF []))
 (K vF [])))))
 (br (!v6.fst.abort)
 (br (!v6.fst.ended)
 (K vT [])
 (br v0.fst.ended
 (K vT [])
 (br (eqi mk (6 : Int))
 (br (!give)
 (br v0.fst.commit
 (K vT [])
 (K (.one (dB v0.fst.abort)) []))
 (K vF []))
 (K vF []))))
 (br v0.fst.abort
 (br (!v6.fst.ended)
 (K vT [])
 (br v0.fst.ended
 (K vT [])
 (br (eqi mk (6 : Int))
 (br (!give)
 (br v0.fst.commit
 (K vT [])
 (K (.one (dB v0.fst.abort)) []))
 (K vF []))
 (K vF []))))
 (br give
 (br (!v0.fst.commit)
 (br (!v6.fst.ended)
 (K vT [])
 (br v0.fst.ended
 (K vT [])
 (br (eqi mk (6 : Int))
 (br (!give)
 (br v0.fst.commit
 (K vT [])
 (K (.one (dB v0.fst.abort)) []))
 (K vF []))
 (K vF []))))
 (K vF []))
 (K vF [])))))))
 (br v6.fst.commit
 (br v6.fst.abort
 (K vF [])
 (br v6.fst.commit
 (br (!v0.fst.commit)
 (br give
 (K vF [])
 (br (!(eqi mk (3 : Int)))
 (K vF [])
 (br (!my)
 (K vF [])
 (br (!(eqi mn v0.fst.n))
 (K vF [])
 (br v0.fst.abort
 (K vF [])
 (br (lti mu (0 : Int))
 (K vF [])
 (br (lei (((len vo) : Nat) : Int) mu)
 (K vF [])
 (rec law_GateOnce_L0 (law_GateOnce_S0 (0 : Int) (((len vo) : Nat) : Int) vo false give v6.fst.n v6.fst.version v6.fst.commit v6.fst.abort v6.fst.ended v0.fst.n v0.fst.version v0.fst.commit v0.fst.abort v0.fst.ended mk mu mn ma mi mw my)))))))))
 (br (!v6.fst.abort)
 (br (!v6.fst.ended)
 (K vT [])
 (br v0.fst.ended
 (K vT [])
 (br (eqi mk (6 : Int))
 (br (!give)
 (br v0.fst.commit
 (K vT [])
 (K (.one (dB v0.fst.abort)) []))
 (K vF []))
 (K vF []))))
 (br v0.fst.abort
 (br (!v6.fst.ended)
 (K vT [])
 (br v0.fst.ended
 (K vT [])
 (br (eqi mk (6 : Int))
 (br (!give)
 (br v0.fst.commit
 (K vT [])
 (K (.one (dB v0.fst.abort)) []))
 (K vF []))
 (K vF []))))
 (br give
 (br (!v0.fst.commit)
 (br (!v6.fst.ended)
 (K vT [])
 (br v0.fst.ended
 (K vT [])
 (br (eqi mk (6 : Int))
 (br (!give)
 (br v0.fst.commit
 (K vT [])
 (K (.one (dB v0.fst.abort)) []))
 (K vF []))
 (K vF []))))
 (K vF []))
 (K vF [])))))
 (br (!v6.fst.abort)
 (br (!v6.fst.ended)
 (K vT [])
 (br v0.fst.ended
 (K vT [])
 (br (eqi mk (6 : Int))
 (br (!give)
 (br v0.fst.commit
 (K vT [])
 (K (.one (dB v0.fst.abort)) []))
 (K vF []))
 (K vF []))))
 (br v0.fst.abort
 (br (!v6.fst.ended)
 (K vT [])
 (br v0.fst.ended
 (K vT [])
 (br (eqi mk (6 : Int))
 (br (!give)
 (br v0.fst.commit
 (K vT [])
 (K (.one (dB v0.fst.abort)) []))
 (K vF []))
 (K vF []))))
 (br give
 (br (!v0.fst.commit)
 (br (!v6.fst.ended)
 (K vT [])
 (br v0.fst.ended
 (K vT [])
 (br (eqi mk (6 : Int))
 (br (!give)
 (br v0.fst.commit
 (K vT [])
 (K (.one (dB v0.fst.abort)) []))
 (K vF []))
 (K vF []))))
 (K vF []))
 (K vF []))))))
 (br v6.fst.commit
 (br (!v0.fst.commit)
 (br give
 (K vF [])
 (br (!(eqi mk (3 : Int)))
 (K vF [])
 (br (!my)
 (K vF [])
 (br (!(eqi mn v0.fst.n))
 (K vF [])
 (br v0.fst.abort
 (K vF [])
 (br (lti mu (0 : Int))
 (K vF [])
 (br (lei (((len vo) : Nat) : Int) mu)
 (K vF [])
 (rec law_GateOnce_L0 (law_GateOnce_S0 (0 : Int) (((len vo) : Nat) : Int) vo false give v6.fst.n v6.fst.version v6.fst.commit v6.fst.abort v6.fst.ended v0.fst.n v0.fst.version v0.fst.commit v0.fst.abort v0.fst.ended mk mu mn ma mi mw my)))))))))
 (br (!v6.fst.abort)
 (br (!v6.fst.ended)
 (K vT [])
 (br v0.fst.ended
 (K vT [])
 (br (eqi mk (6 : Int))
 (br (!give)
 (br v0.fst.commit
 (K vT [])
 (K (.one (dB v0.fst.abort)) []))
 (K vF []))
 (K vF []))))
 (br v0.fst.abort
 (br (!v6.fst.ended)
 (K vT [])
 (br v0.fst.ended
 (K vT [])
 (br (eqi mk (6 : Int))
 (br (!give)
 (br v0.fst.commit
 (K vT [])
 (K (.one (dB v0.fst.abort)) []))
 (K vF []))
 (K vF []))))
 (br give
 (br (!v0.fst.commit)
 (br (!v6.fst.ended)
 (K vT [])
 (br v0.fst.ended
 (K vT [])
 (br (eqi mk (6 : Int))
 (br (!give)
 (br v0.fst.commit
 (K vT [])
 (K (.one (dB v0.fst.abort)) []))
 (K vF []))
 (K vF []))))
 (K vF []))
 (K vF [])))))
 (br (!v6.fst.abort)
 (br (!v6.fst.ended)
 (K vT [])
 (br v0.fst.ended
 (K vT [])
 (br (eqi mk (6 : Int))
 (br (!give)
 (br v0.fst.commit
 (K vT [])
 (K (.one (dB v0.fst.abort)) []))
 (K vF []))
 (K vF []))))
 (br v0.fst.abort
 (br (!v6.fst.ended)
 (K vT [])
 (br v0.fst.ended
 (K vT [])
 (br (eqi mk (6 : Int))
 (br (!give)
 (br v0.fst.commit
 (K vT [])
 (K (.one (dB v0.fst.abort)) []))
 (K vF []))
 (K vF []))))
 (br give
 (br (!v0.fst.commit)
 (br (!v6.fst.ended)
 (K vT [])
 (br v0.fst.ended
 (K vT [])
 (br (eqi mk (6 : Int))
 (br (!give)
 (br v0.fst.commit
 (K vT [])
 (K (.one (dB v0.fst.abort)) []))
 (K vF []))
 (K vF []))))
 (K vF []))
 (K vF []))))))))
 (br v0.fst.ended
 (br (!v6.fst.ended)
 (K vF [])
 (br v6.fst.commit
 (br v6.fst.abort
 (K vF [])
 (br v6.fst.commit
 (br (!v0.fst.commit)
 (br give
 (K vF [])
 (br (!(eqi mk (3 : Int)))
 (K vF [])
 (br (!my)
 (K vF [])
 (br (!(eqi mn v0.fst.n))
 (K vF [])
 (br v0.fst.abort
 (K vF [])
 (br (lti mu (0 : Int))
 (K vF [])
 (br (lei (((len vo) : Nat) : Int) mu)
 (K vF [])
 (rec law_GateOnce_L0 (law_GateOnce_S0 (0 : Int) (((len vo) : Nat) : Int) vo false give v6.fst.n v6.fst.version v6.fst.commit v6.fst.abort v6.fst.ended v0.fst.n v0.fst.version v0.fst.commit v0.fst.abort v0.fst.ended mk mu mn ma mi mw my)))))))))
 (br (!v6.fst.abort)
 (br (!v6.fst.ended)
 (K vT [])
 (br v0.fst.ended
 (K vT [])
 (br (eqi mk (6 : Int))
 (br (!give)
 (br v0.fst.commit
 (K vT [])
 (K (.one (dB v0.fst.abort)) []))
 (K vF []))
 (K vF []))))
 (br v0.fst.abort
 (br (!v6.fst.ended)
 (K vT [])
 (br v0.fst.ended
 (K vT [])
 (br (eqi mk (6 : Int))
 (br (!give)
 (br v0.fst.commit
 (K vT [])
 (K (.one (dB v0.fst.abort)) []))
 (K vF []))
 (K vF []))))
 (br give
 (br (!v0.fst.commit)
 (br (!v6.fst.ended)
 (K vT [])
 (br v0.fst.ended
 (K vT [])
 (br (eqi mk (6 : Int))
 (br (!give)
 (br v0.fst.commit
 (K vT [])
 (K (.one (dB v0.fst.abort)) []))
 (K vF []))
 (K vF []))))
 (K vF []))
 (K vF [])))))
 (br (!v6.fst.abort)
 (br (!v6.fst.ended)
 (K vT [])
 (br v0.fst.ended
 (K vT [])
 (br (eqi mk (6 : Int))
 (br (!give)
 (br v0.fst.commit
 (K vT [])
 (K (.one (dB v0.fst.abort)) []))
 (K vF []))
 (K vF []))))
 (br v0.fst.abort
 (br (!v6.fst.ended)
 (K vT [])
 (br v0.fst.ended
 (K vT [])
 (br (eqi mk (6 : Int))
 (br (!give)
 (br v0.fst.commit
 (K vT [])
 (K (.one (dB v0.fst.abort)) []))
 (K vF []))
 (K vF []))))
 (br give
 (br (!v0.fst.commit)
 (br (!v6.fst.ended)
 (K vT [])
 (br v0.fst.ended
 (K vT [])
 (br (eqi mk (6 : Int))
 (br (!give)
 (br v0.fst.commit
 (K vT [])
 (K (.one (dB v0.fst.abort)) []))
 (K vF []))
 (K vF []))))
 (K vF []))
 (K vF []))))))
 (br v6.fst.commit
 (br (!v0.fst.commit)
 (br give
 (K vF [])
 (br (!(eqi mk (3 : Int)))
 (K vF [])
 (br (!my)
 (K vF [])
 (br (!(eqi mn v0.fst.n))
 (K vF [])
 (br v0.fst.abort
 (K vF [])
 (br (lti mu (0 : Int))
 (K vF [])
 (br (lei (((len vo) : Nat) : Int) mu)
 (K vF [])
 (rec law_GateOnce_L0 (law_GateOnce_S0 (0 : Int) (((len vo) : Nat) : Int) vo false give v6.fst.n v6.fst.version v6.fst.commit v6.fst.abort v6.fst.ended v0.fst.n v0.fst.version v0.fst.commit v0.fst.abort v0.fst.ended mk mu mn ma mi mw my)))))))))
 (br (!v6.fst.abort)
 (br (!v6.fst.ended)
 (K vT [])
 (br v0.fst.ended
 (K vT [])
 (br (eqi mk (6 : Int))
 (br (!give)
 (br v0.fst.commit
 (K vT [])
 (K (.one (dB v0.fst.abort)) []))
 (K vF []))
 (K vF []))))
 (br v0.fst.abort
 (br (!v6.fst.ended)
 (K vT [])
 (br v0.fst.ended
 (K vT [])
 (br (eqi mk (6 : Int))
 (br (!give)
 (br v0.fst.commit
 (K vT [])
 (K (.one (dB v0.fst.abort)) []))
 (K vF []))
 (K vF []))))
 (br give
 (br (!v0.fst.commit)
 (br (!v6.fst.ended)
 (K vT [])
 (br v0.fst.ended
 (K vT [])
 (br (eqi mk (6 : Int))
 (br (!give)
 (br v0.fst.commit
 (K vT [])
 (K (.one (dB v0.fst.abort)) []))
 (K vF []))
 (K vF []))))
 (K vF []))
 (K vF [])))))
 (br (!v6.fst.abort)
 (br (!v6.fst.ended)
 (K vT [])
 (br v0.fst.ended
 (K vT [])
 (br (eqi mk (6 : Int))
 (br (!give)
 (br v0.fst.commit
 (K vT [])
 (K (.one (dB v0.fst.abort)) []))
 (K vF []))
 (K vF []))))
 (br v0.fst.abort
 (br (!v6.fst.ended)
 (K vT [])
 (br v0.fst.ended
 (K vT [])
 (br (eqi mk (6 : Int))
 (br (!give)
 (br v0.fst.commit
 (K vT [])
 (K (.one (dB v0.fst.abort)) []))
 (K vF []))
 (K vF []))))
 (br give
 (br (!v0.fst.commit)
 (br (!v6.fst.ended)
 (K vT [])
 (br v0.fst.ended
 (K vT [])
 (br (eqi mk (6 : Int))
 (br (!give)
 (br v0.fst.commit
 (K vT [])
 (K (.one (dB v0.fst.abort)) []))
 (K vF []))
 (K vF []))))
 (K vF []))
 (K vF [])))))))
 (br v6.fst.commit
 (br v6.fst.abort
 (K vF [])
 (br v6.fst.commit
 (br (!v0.fst.commit)
 (br give
 (K vF [])
 (br (!(eqi mk (3 : Int)))
 (K vF [])
 (br (!my)
 (K vF [])
 (br (!(eqi mn v0.fst.n))
 (K vF [])
 (br v0.fst.abort
 (K vF [])
 (br (lti mu (0 : Int))
 (K vF [])
 (br (lei (((len vo) : Nat) : Int) mu)
 (K vF [])
 (rec law_GateOnce_L0 (law_GateOnce_S0 (0 : Int) (((len vo) : Nat) : Int) vo false give v6.fst.n v6.fst.version v6.fst.commit v6.fst.abort v6.fst.ended v0.fst.n v0.fst.version v0.fst.commit v0.fst.abort v0.fst.ended mk mu mn ma mi mw my)))))))))
 (br (!v6.fst.abort)
 (br (!v6.fst.ended)
 (K vT [])
 (br v0.fst.ended
 (K vT [])
 (br (eqi mk (6 : Int))
 (br (!give)
 (br v0.fst.commit
 (K vT [])
 (K (.one (dB v0.fst.abort)) []))
 (K vF []))
 (K vF []))))
 (br v0.fst.abort
 (br (!v6.fst.ended)
 (K vT [])
 (br v0.fst.ended
 (K vT [])
 (br (eqi mk (6 : Int))
 (br (!give)
 (br v0.fst.commit
 (K vT [])
 (K (.one (dB v0.fst.abort)) []))
 (K vF []))
 (K vF []))))
 (br give
 (br (!v0.fst.commit)
 (br (!v6.fst.ended)
 (K vT [])
 (br v0.fst.ended
 (K vT [])
 (br (eqi mk (6 : Int))
 (br (!give)
 (br v0.fst.commit
 (K vT [])
 (K (.one (dB v0.fst.abort)) []))
 (K vF []))
 (K vF []))))
 (K vF []))
 (K vF [])))))
 (br (!v6.fst.abort)
 (br (!v6.fst.ended)
 (K vT [])
 (br v0.fst.ended
 (K vT [])
 (br (eqi mk (6 : Int))
 (br (!give)
 (br v0.fst.commit
 (K vT [])
 (K (.one (dB v0.fst.abort)) []))
 (K vF []))
 (K vF []))))
 (br v0.fst.abort
 (br (!v6.fst.ended)
 (K vT [])
 (br v0.fst.ended
 (K vT [])
 (br (eqi mk (6 : Int))
 (br (!give)
 (br v0.fst.commit
 (K vT [])
 (K (.one (dB v0.fst.abort)) []))
 (K vF []))
 (K vF []))))
 (br give
 (br (!v0.fst.commit)
 (br (!v6.fst.ended)
 (K vT [])
 (br v0.fst.ended
 (K vT [])
 (br (eqi mk (6 : Int))
 (br (!give)
 (br v0.fst.commit
 (K vT [])
 (K (.one (dB v0.fst.abort)) []))
 (K vF []))
 (K vF []))))
 (K vF []))
 (K vF []))))))
 (br v6.fst.commit
 (br (!v0.fst.commit)
 (br give
 (K vF [])
 (br (!(eqi mk (3 : Int)))
 (K vF [])
 (br (!my)
 (K vF [])
 (br (!(eqi mn v0.fst.n))
 (K vF [])
 (br v0.fst.abort
 (K vF [])
 (br (lti mu (0 : Int))
 (K vF [])
 (br (lei (((len vo) : Nat) : Int) mu)
 (K vF [])
 (rec law_GateOnce_L0 (law_GateOnce_S0 (0 : Int) (((len vo) : Nat) : Int) vo false give v6.fst.n v6.fst.version v6.fst.commit v6.fst.abort v6.fst.ended v0.fst.n v0.fst.version v0.fst.commit v0.fst.abort v0.fst.ended mk mu mn ma mi mw my)))))))))
 (br (!v6.fst.abort)
 (br (!v6.fst.ended)
 (K vT [])
 (br v0.fst.ended
 (K vT [])
 (br (eqi mk (6 : Int))
 (br (!give)
 (br v0.fst.commit
 (K vT [])
 (K (.one (dB v0.fst.abort)) []))
 (K vF []))
 (K vF []))))
 (br v0.fst.abort
 (br (!v6.fst.ended)
 (K vT [])
 (br v0.fst.ended
 (K vT [])
 (br (eqi mk (6 : Int))
 (br (!give)
 (br v0.fst.commit
 (K vT [])
 (K (.one (dB v0.fst.abort)) []))
 (K vF []))
 (K vF []))))
 (br give
 (br (!v0.fst.commit)
 (br (!v6.fst.ended)
 (K vT [])
 (br v0.fst.ended
 (K vT [])
 (br (eqi mk (6 : Int))
 (br (!give)
 (br v0.fst.commit
 (K vT [])
 (K (.one (dB v0.fst.abort)) []))
 (K vF []))
 (K vF []))))
 (K vF []))
 (K vF [])))))
 (br (!v6.fst.abort)
 (br (!v6.fst.ended)
 (K vT [])
 (br v0.fst.ended
 (K vT [])
 (br (eqi mk (6 : Int))
 (br (!give)
 (br v0.fst.commit
 (K vT [])
 (K (.one (dB v0.fst.abort)) []))
 (K vF []))
 (K vF []))))
 (br v0.fst.abort
 (br (!v6.fst.ended)
 (K vT [])
 (br v0.fst.ended
 (K vT [])
 (br (eqi mk (6 : Int))
 (br (!give)
 (br v0.fst.commit
 (K vT [])
 (K (.one (dB v0.fst.abort)) []))
 (K vF []))
 (K vF []))))
 (br give
 (br (!v0.fst.commit)
 (br (!v6.fst.ended)
 (K vT [])
 (br v0.fst.ended
 (K vT [])
 (br (eqi mk (6 : Int))
 (br (!give)
 (br v0.fst.commit
 (K vT [])
 (K (.one (dB v0.fst.abort)) []))
 (K vF []))
 (K vF []))))
 (K vF []))
 (K vF []))))))))))))))))) := by subst_vars; kernel_rfl
theorem law_GateOnce_w (m : Nat) (K : KK) (st : St) : goD Γ_law_GateOnce tab fn_law_GateOnce 0 K (m + 1) [.code (bodyOf fn_law_GateOnce)] st = segD Γ_law_GateOnce tab fn_law_GateOnce 0 K (goD Γ_law_GateOnce tab fn_law_GateOnce 0 K m) [.code (bodyOf fn_law_GateOnce)] st := rfl
theorem law_GateOnce_vc0 (x0 : Int) (x1 : Int) (x2 : (List Bool)) (x3 : Bool) (x4 : Bool) (x5 : Int) (x6 : Int) (x7 : Bool) (x8 : Bool) (x9 : Bool) (x10 : Int) (x11 : Int) (x12 : Bool) (x13 : Bool) (x14 : Bool) (x15 : Int) (x16 : Int) (x17 : Int) (x18 : Int) (x19 : Int) (x20 : (List Int)) (x21 : Bool) (rec : RK) (K : KK) : segD Γ_law_GateOnce tab fn_law_GateOnce 0 K rec (.code (Code.sub (bodyOf fn_law_GateOnce) [1, 1, 1, 1, 1, 1, 1, 1, 1, 1, 0, 1, 0, 1, 1, 0, 0]) :: law_GateOnce_L0) (law_GateOnce_S0 x0 x1 x2 x3 x4 x5 x6 x7 x8 x9 x10 x11 x12 x13 x14 x15 x16 x17 x18 x19 x20 x21) = (
 br (lti x0 x1)
 ((((0 : Int) ≤ x0) ∧ (x0 < (((len x2) : Nat) : Int))) ∧
 (br (!(nth x2 (Int.toNat x0) (Ty.dflt Ty.bool)))
 (br (!(eqi x0 x16))
 (K vF [])
 (rec law_GateOnce_L0 (law_GateOnce_S0 (w64 (x0 + (1 : Int))) x1 x2 x3 x4 x5 x6 x7 x8 x9 x10 x11 x12 x13 x14 x15 x16 x17 x18 x19 x20 x21)))
 (rec law_GateOnce_L0 (law_GateOnce_S0 (w64 (x0 + (1 : Int))) x1 x2 x3 x4 x5 x6 x7 x8 x9 x10 x11 x12 x13 x14 x15 x16 x17 x18 x19 x20 x21))))
 (br (!x8)
 (br (!x9)
 (K vT [])
 (br x14
 (K vT [])
 (br (eqi x15 (6 : Int))
 (br (!x4)
 (br x12
 (K vT [])
 (K (.one (dB x13)) []))
 (K vF []))
 (K vF []))))
 (br x13
 (br (!x9)
 (K vT [])
 (br x14
 (K vT [])
 (br (eqi x15 (6 : Int))
 (br (!x4)
 (br x12
 (K vT [])
 (K (.one (dB x13)) []))
 (K vF []))
 (K vF []))))
 (br x4
 (br (!x12)
 (br (!x9)
 (K vT [])
 (br x14
 (K vT [])
 (br (eqi x15 (6 : Int))
 (br (!x4)
 (br x12
 (K vT [])
 (K (.one (dB x13)) []))
 (K vF []))
 (K vF []))))
 (K vF []))
 (K vF []))))) := by kernel_rfl
theorem law_GateOnce_w0 (m : Nat) (K : KK) (st : St) : goD Γ_law_GateOnce tab fn_law_GateOnce 0 K (m + 1) law_GateOnce_L0 st = segD Γ_law_GateOnce tab fn_law_GateOnce 0 K (goD Γ_law_GateOnce tab fn_law_GateOnce 0 K m) (.code (Code.sub (bodyOf fn_law_GateOnce) [1, 1, 1, 1, 1, 1, 1, 1, 1, 1, 0, 1, 0, 1, 1, 0, 0]) :: law_GateOnce_L0) st := rfl

theorem loop_law_GateOnce (vo : List Bool) (mu : Int) (hvo : vo.length ≤ 1000) (h : ∀ i, i < vo.length → (i : Int) ≠ mu → nth vo i (Ty.dflt Ty.bool) = true) (x3 x4 : Bool) (x5 x6 : Int) (x7 : Bool) (x10 x11 : Int) (x12 x13 x14 : Bool) (x15 x17 x18 x19 : Int) (x20 : List Int) (x21 : Bool)
    (K : KK) (hK : K (.one (dB true)) []) :
    ∀ (d k : Nat), k + d = vo.length → goD Γ_law_GateOnce tab fn_law_GateOnce 0 K (d + 1) law_GateOnce_L0 (law_GateOnce_S0 (k : Int) (((len vo) : Nat) : Int) vo x3 x4 x5 x6 x7 false false x10 x11 x12 x13 x14 x15 mu x17 x18 x19 x20 x21)
  | 0, k, hk => by
    rw [law_GateOnce_w0, law_GateOnce_vc0 _ _ _ _ _ _ _ _ _ _ _ _ _ _ _ _ _ _ _ _ _ _ _ _]
    exact lt_f (by simp only [len]; omega) (nt_t rfl (nt_t rfl hK))
  | d + 1, k, hk => by
    have nx := loop_law_GateOnce vo mu hvo h x3 x4 x5 x6 x7 x10 x11 x12 x13 x14 x15 x17 x18 x19 x20 x21 K hK d (k + 1) (by omega)
    rw [law_GateOnce_w0, law_GateOnce_vc0 _ _ _ _ _ _ _ _ _ _ _ _ _ _ _ _ _ _ _ _ _ _ _ _, toNat_nat, w64_succ (by omega)]
    refine lt_t (by simp only [len]; omega) ⟨⟨by omega, by simp only [len]; omega⟩, ?_⟩
    by_cases c : (k : Int) = mu
    · exact nt_s (fun _ => ne_f c nx) (fun _ => nx)
    · exact nt_f (h k (by omega) c) nx
set_option maxHeartbeats 4000000 in
theorem run_law_GateOnce (ws : List Int) (fu : Int) (up : Bool) (tv : Int) (tk : List Int) (tt tn : Int) (vo di : List Bool)(mk mu mn ma mi : Int) (mw : List Int) (my : Bool) (fuel : Int) (give : Bool) (hp : I64 fuel) (K : KK) (hK : K (.one (dB true)) []) : ∃ m, goD Γ_law_GateOnce tab fn_law_GateOnce 0 K m [.code (bodyOf fn_law_GateOnce)] (initSt [.agg [dL ws, dI fu, dB up, dI tv, dL tk, dI tt, dI tn, dLb vo, dLb di], .agg [dI mk, dI mu, dI mn, dI ma, dI mi, dL mw, dB my], .one (dI fuel), .one (dB give)] []) := by
  have f0 := Int.emod_nonneg fuel (show (60 : Int) ≠ 0 by omega)
  have f1 := Int.emod_lt_of_pos fuel (show (0 : Int) < 60 by omega)
  obtain ⟨v0, hv0⟩ : ∃ v0, v0 = readG ⟨⟨ws, fuel % 60⟩, up, ⟨⟨tv, tk, tt⟩, tn⟩, vo, di⟩ := ⟨_, rfl⟩
  obtain ⟨v1, hv1⟩ : ∃ v1, v1 = hearG ⟨⟨ws, fuel % 60⟩, up, ⟨⟨tv, tk, tt⟩, tn⟩, vo, di⟩ ⟨mk, mu, mn, ma, mi, mw, my⟩ := ⟨_, rfl⟩
  obtain ⟨v2, hv2⟩ : ∃ v2, v2 = bootG v1.1.1 := ⟨_, rfl⟩
  obtain ⟨v3, hv3⟩ : ∃ v3, v3 = readG v2.1 := ⟨_, rfl⟩
  obtain ⟨v4, hv4⟩ : ∃ v4, v4 = giveG ⟨⟨ws, fuel % 60⟩, up, ⟨⟨tv, tk, tt⟩, tn⟩, vo, di⟩ := ⟨_, rfl⟩
  obtain ⟨v5, hv5⟩ : ∃ v5, v5 = bootG v4.1 := ⟨_, rfl⟩
  obtain ⟨v6, hv6⟩ : ∃ v6, v6 = readG v5.1 := ⟨_, rfl⟩
  refine ⟨vo.length + 2, ?_⟩
  rw [law_GateOnce_w, law_GateOnce_vc _ _ _ _ _ _ _ _ _ _ _ _ _ _ _ _ _ _ _ _ v0 hv0 v1 hv1 v2 hv2 v3 hv3 v4 hv4 v5 hv5 v6 hv6]
  refine ⟨by omega, ?_⟩
  by_cases g0 : v0.2 = 0
  case neg => exact ne_t g0 hK
  have cg : checkG ⟨⟨ws, fuel % 60⟩, up, ⟨⟨tv, tk, tt⟩, tn⟩, vo, di⟩ = 0 := readG_inv (by rw [← hv0]; exact g0)
  rw [readG_ok cg] at hv0
  obtain ⟨g, hg⟩ : ∃ g : Vm.Gate, (⟨⟨ws, fuel % 60⟩, up, ⟨⟨tv, tk, tt⟩, tn⟩, vo, di⟩ : Vm.Gate) = g := ⟨_, rfl⟩
  have gv : g.voted = vo := by rw [← hg]
  have gf : (⟨ws, fuel % 60⟩ : Vm.Flash) = g.f := by rw [← hg]
  rw [hg] at cg hv1 hv4
  simp only [gf] at hv0
  have vl := (checkG_ok cg).2.2.1
  rw [gv] at vl
  have os := ofG_ok g.f
  have boot : ∀ x : Vm.Gate, checkG x = 0 → ∀ v2 v3, v2 = bootG x → v3 = readG v2.1 → v2.2 = 0 ∧ v3 = (ofG x.f, 0) := fun x hx v2 v3 e2 e3 => by
    have cl := (checkG_ok hx).1
    rw [bootG_ok hx] at e2
    subst e2
    have cb : checkG ⟨⟨x.f.words, -1⟩, true, x.t, zeros x.voted.length false, zeros x.did.length false⟩ = 0 := checkG_like hx (checkLog_free cl) rfl (by simp [zeros]) (by simp [zeros])
    rw [readG_ok cb] at e3
    rw [e3]
    exact ⟨rfl, by simp only [ofG_free cl]⟩
  obtain ⟨n, v, co, ab, en, hofs⟩ : ∃ n v co ab en, ofG g.f = ⟨n, v, co, ab, en⟩ := ⟨_, _, _, _, _, rfl⟩
  rw [hofs] at hv0 os
  have o1 := os.one
  have o2 := os.fin
  simp only at o1 o2
  subst hv0
  refine ne_f rfl ?_
  cases give
  · refine nt_t rfl (ne_s (fun _ => hK) (fun g1 => ?_))
    rw [hv1] at g1 hv2
    obtain ⟨_, cm, g2⟩ := hearG_ok g1
    simp only at cm
    rw [g2] at hv2
    obtain ⟨cx, hall⟩ := hearsG_all (m := ⟨mk, mu, mn, ma, mi, mw, my⟩) cg cm.2.2.1
    obtain ⟨b1, b2⟩ := boot _ cx v2 v3 hv2 hv3
    rw [hofs] at hall
    simp only at hall
    rw [gv] at hall cm
    refine ne_f b1 ?_
    have fin : ∀ (co' ab' en' : Bool), v3 = (⟨n, v, co', ab', en'⟩, 0) → True := fun _ _ _ _ => trivial
    rcases hall with e | ⟨k3, ky, kn, ke, kc, ka, kv, e⟩ | ⟨k6, kn, kd, e⟩
    · rw [e] at b2
      subst b2
      refine ne_f rfl (ne_f rfl (ne_f rfl ?_))
      cases co <;> cases ab <;> cases en <;> first | exact (o1 rfl rfl).elim | (exfalso; simp at o2; done) | (repeat' first | exact hK | refine br_t rfl ?_ | refine br_f rfl ?_)
    · rw [e] at b2
      subst b2 ke kc ka
      refine ne_f rfl (ne_f rfl (ne_f rfl ?_))
      have hl := loop_law_GateOnce vo mu (by omega) (voted_all kv cm.1) false false n v true n v false false false mk mn ma mi mw my K hK vo.length 0 (by omega)
      repeat' first | exact hl | refine br_t rfl ?_ | refine br_f rfl ?_ | refine ne_f k3 ?_ | refine nt_f ky ?_ | refine ne_f kn ?_ | refine lt_f cm.1 ?_ | refine br_f (lei_false.2 (by simp only [len]; omega)) ?_
    · rw [e] at b2
      subst b2
      refine ne_f rfl (ne_f rfl (ne_f rfl ?_))
      cases co <;> cases ab <;> cases en <;> first | exact (o1 rfl rfl).elim | (exfalso; simp at o2; done) | (exfalso; simp at kd; done) | (repeat' first | exact hK | refine br_t rfl ?_ | refine br_f rfl ?_ | refine eq_t k6 ?_)
  · refine nt_f rfl (ne_s (fun _ => hK) (fun g1 => ?_))
    rw [hv4] at g1 hv5
    obtain ⟨_, c1, c2, c3, g2⟩ := giveG_ok g1
    rw [hofs] at c1 c2 c3
    simp only at c1 c2 c3
    rw [g2] at hv5
    obtain ⟨_, _, _, _, n5, _⟩ := note_allG (r := [3, (ofG g.f).n]) (checkG_ok cg).1
    obtain ⟨b1, b2⟩ := boot _ (checkG_note cg) v5 v6 hv5 hv6
    refine ne_f b1 ?_
    subst c2 c3
    rcases n5 with e | e
    · rw [e, hofs] at b2
      subst b2
      refine ne_f rfl (ne_f rfl (ne_f rfl ?_))
      cases en <;> first | (exfalso; simp at o2; done) | (repeat' first | exact hK | refine br_t rfl ?_ | refine br_f rfl ?_)
    · rw [e, hofs, stepGt_abort (s := ⟨n, v, false, false, en⟩) c1 rfl] at b2
      subst b2
      refine ne_f rfl (ne_f rfl (ne_f rfl ?_))
      cases en <;> first | (exfalso; simp at o2; done) | (repeat' first | exact hK | refine br_t rfl ?_ | refine br_f rfl ?_)
theorem sound_law_GateOnce : SoundC Tryd.prog tab n_law_GateOnce c_law_GateOnce := soundC_of ok_law_GateOnce hf_law_GateOnce hB_law_GateOnce (by
  intro vs bs p v bs' h hp
  unfold c_law_GateOnce at h
  split at h
  · cases h
    exact ⟨by kernel_rfl, rfl, .inl (run_law_GateOnce _ _ _ _ _ _ _ _ _ _ _ _ _ _ _ _ _ _ hp.1 _ ⟨rfl, rfl⟩)⟩
  · cases h)
end Go.Proofs.YtlbppjmekiemiacDoor
