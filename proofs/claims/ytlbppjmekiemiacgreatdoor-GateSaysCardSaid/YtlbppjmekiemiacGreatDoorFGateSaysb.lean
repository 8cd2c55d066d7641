/- What the functions of GateSays compute (part 2 of 3). No condition. -/
import Derived.Test.YtlbppjmekiemiacGreatDoorFGateSaysa
import Derived.KernelRfl
namespace Go.Proofs.YtlbppjmekiemiacGreatDoor
open Vm
def c_log_Append : Contract := fun vs bs => match vs, bs with
  | [.agg [.dat (.list .int) ws, .dat .int fu], .one (.dat (.list .int) r), .one (.dat (.list (.list .int)) keep)], [] => some (some (Sm r ∧ len keep * 24 ≤ 140737488351232 ∧ smR keep = true), .tup [.agg [.dat (.list .int) (appendF ⟨ws, fu⟩ r keep).1.words, .dat .int (appendF ⟨ws, fu⟩ r keep).1.fuel], .one (.dat .int (appendF ⟨ws, fu⟩ r keep).2)], [])
  | _, _ => none
def Γ_log_Append : Ctx := [(n_log_Check, c_log_Check), (n_log_check, c_log_check), (n_slices_Clone_LRecord, c_slices_Clone_LRecord), (n_log_words, c_log_words), (n_log_live, c_log_live), (n_flash_Copy, c_flash_Copy), (n_log_scan, (weakC c_log_scan)), (n_flash_Burn, (orC c_flash_Burn c_flash_Burn_b)), (n_flash_Wipe, c_flash_Wipe)]
theorem ok_log_Append : Ok Tryz.prog tab Γ_log_Append := (((((((((ok_nil.consC hf_flash_Wipe hB_flash_Wipe sound_flash_Wipe).consC hf_flash_Burn hB_flash_Burn (soundC_or sound_flash_Burn sound_flash_Burn_b)).consC hf_log_scan hB_log_scan (soundC_weak sound_log_scan)).consC hf_flash_Copy hB_flash_Copy sound_flash_Copy).consC hf_log_live hB_log_live sound_log_live).consC hf_log_words hB_log_words sound_log_words).consC hf_slices_Clone_LRecord hB_slices_Clone_LRecord sound_slices_Clone_LRecord).consC hf_log_check hB_log_check sound_log_check).consC hf_log_Check hB_log_Check sound_log_Check)
noncomputable def log_Append_L0 : List It := [.inLoop [40, 39, 38, 10, 7, 6, 3, 1] (Code.sub (bodyOf fn_log_Append) [1, 1, 1, 1, 0, 1, 0, 0]), .inBlock 0, .code (Code.sub (bodyOf fn_log_Append) [1, 1, 1, 1, 1])]
def log_Append_S0 (x0 : Int) (x1 : Int) (x2 : Int) (x3 : (List Int)) (x4 : (List (List Int))) (x5 : (List Int)) (x6 : Int) (x7 : (List Int)) (x8 : Int) (x9 : (List Int)) : St := ⟨[(40, .one (dI x0)), (39, .one (dI x1)), (38, .one (.own 0)), (10, .one (.own 1)), (7, .one (dI x2)), (6, .one (.ptr 2 0)), (3, .one (.ptr 3 0)), (1, .one (dL x3))], [(0, .arr (Ty.list Ty.int) x4), (1, .arr Ty.int x5), (2, .box [.own 4, dI x6]), (3, .box [dL x7, dI x8]), (4, .arr Ty.int x9)], 5⟩
theorem log_Append_vc (ws : List Int) (fu : Int) (r : List Int) (keep : List (List Int)) (rec : RK) (K : KK) v0 (hv0 : v0 = (checkLog (⟨ws, fu⟩ : Flash))) v1 (hv1 : v1 = (checkRec r)) : segD Γ_log_Append tab fn_log_Append 0 K rec [.code (bodyOf fn_log_Append)] (initSt [.agg [dL ws, dI fu], .one (dL r), .one (dR keep)] []) = (
 br (!(eqi v0 (0 : Int)))
 (K (.tup [.agg [dL [], dI (0 : Int)], .one (dI v0)]) [])
 (((List.length r) ≤ 140737488355328) ∧
 (br (!(eqi v1 (0 : Int)))
 (K (.tup [.agg [dL [], dI (0 : Int)], .one (dI v1)]) [])
 ((((len keep) * 24) ≤ 140737488355328) ∧
 (((((len keep) + (len (r :: []))) * 24) ≤ 140737488355328) ∧
 (rec log_Append_L0 (log_Append_S0 (0 : Int) (((len (cat keep (r :: []))) : Nat) : Int) (0 : Int) r (cat keep (r :: [])) [] (0 : Int) ws fu []))))))) := by subst_vars; kernel_rfl
theorem log_Append_w (m : Nat) (K : KK) (st : St) : goD Γ_log_Append tab fn_log_Append 0 K (m + 1) [.code (bodyOf fn_log_Append)] st = segD Γ_log_Append tab fn_log_Append 0 K (goD Γ_log_Append tab fn_log_Append 0 K m) [.code (bodyOf fn_log_Append)] st := rfl
theorem log_Append_vc0 (x0 : Int) (x1 : Int) (x2 : Int) (x3 : (List Int)) (x4 : (List (List Int))) (x5 : (List Int)) (x6 : Int) (x7 : (List Int)) (x8 : Int) (x9 : (List Int)) (rec : RK) (K : KK) v0 (hv0 : v0 = (checkRec (nth x4 (Int.toNat x0) (Ty.dflt (Ty.list Ty.int))))) v1 (hv1 : v1 = (recW (nth x4 (Int.toNat x0) (Ty.dflt (Ty.list Ty.int))))) v2 (hv2 : v2 = (okWords x7)) v3 (hv3 : v3 = (liveS x7)) v4 (hv4 : v4 = (scanS x7 (Int.toNat ((v3 : Nat) : Int)))) v5 (hv5 : v5 = (nextI (Int.toNat ((v3 : Nat) : Int)) v4.snd)) v6 (hv6 : v6 = (recW x3)) v7 (hv7 : v7 = (burnCh (w64 (v5 + (1 : Int))) x3)) v8 (hv8 : v8 = (doCh (⟨x7, x8⟩ : Flash) v7)) v9 (hv9 : v9 = (burnCh v5 ((nth v6 (Int.toNat (0 : Int)) (Ty.dflt Ty.int)) :: []))) v10 (hv10 : v10 = (doCh (⟨v8.fst.words, v8.fst.fuel⟩ : Flash) v9)) v11 (hv11 : v11 = (liveG x7)) v12 (hv12 : v12 = (wipeCh (w64 ((1 : Int) - ((v3 : Nat) : Int))))) v13 (hv13 : v13 = (doCh (⟨x7, x8⟩ : Flash) v12)) v14 (hv14 : v14 = (burnCh (w64 ((w64 ((w64 ((1 : Int) - ((v3 : Nat) : Int))) * (32 : Int))) + (1 : Int))) x5)) v15 (hv15 : v15 = (doCh (⟨v13.fst.words, v13.fst.fuel⟩ : Flash) v14)) v16 (hv16 : v16 = (burnCh (w64 ((w64 ((1 : Int) - ((v3 : Nat) : Int))) * (32 : Int))) ((w64 (v11 + (1 : Int))) :: []))) v17 (hv17 : v17 = (doCh (⟨v15.fst.words, v15.fst.fuel⟩ : Flash) v16)) v19 (hv19 : v19 = (K (.tup [.agg [dL [], dI (0 : Int)], .one (dI (8 : Int))]) [])) v18 (hv18 : v18 = (br (eqi v11 (60000 : Int))
 v19
 ((((-(1 : Int)) ≤ x8) ∧ ((x8 ≤ (100000 : Int)) ∧ (((0 : Int) ≤ (w64 ((1 : Int) - ((v3 : Nat) : Int)))) ∧ (((((w64 ((1 : Int) - ((v3 : Nat) : Int))) + (1 : Int)) * (32 : Int)) ≤ (((len x7) : Nat) : Int)) ∧ ((len x7) ≤ 192))))) ∧
 (br (!v13.snd)
 (K (.tup [.agg [dL v13.fst.words, dI v13.fst.fuel], .one (dI (7 : Int))]) [])
 ((((-(1 : Int)) ≤ v13.fst.fuel) ∧ ((v13.fst.fuel ≤ (100000 : Int)) ∧ (((0 : Int) ≤ (w64 ((w64 ((w64 ((1 : Int) - ((v3 : Nat) : Int))) * (32 : Int))) + (1 : Int)))) ∧ ((((w64 ((w64 ((w64 ((1 : Int) - ((v3 : Nat) : Int))) * (32 : Int))) + (1 : Int))) + (((len x5) : Nat) : Int)) ≤ (((len v13.fst.words) : Nat) : Int)) ∧ ((len v13.fst.words) ≤ 192))))) ∧
 (br (!v15.snd)
 (K (.tup [.agg [dL v15.fst.words, dI v15.fst.fuel], .one (dI (7 : Int))]) [])
 ((((-(1 : Int)) ≤ v15.fst.fuel) ∧ ((v15.fst.fuel ≤ (100000 : Int)) ∧ (((0 : Int) ≤ (w64 ((w64 ((1 : Int) - ((v3 : Nat) : Int))) * (32 : Int)))) ∧ ((((w64 ((w64 ((1 : Int) - ((v3 : Nat) : Int))) * (32 : Int))) + (((len ((w64 (v11 + (1 : Int))) :: [])) : Nat) : Int)) ≤ (((len v15.fst.words) : Nat) : Int)) ∧ ((len v15.fst.words) ≤ 192))))) ∧
 (br (!v17.snd)
 (K (.tup [.agg [dL v17.fst.words, dI v17.fst.fuel], .one (dI (7 : Int))]) [])
 (K (.tup [.agg [dL v17.fst.words, dI v17.fst.fuel], .one (dI (0 : Int))]) []))))))))) : segD Γ_log_Append tab fn_log_Append 0 K rec (.code (Code.sub (bodyOf fn_log_Append) [1, 1, 1, 1, 0, 1, 0, 0]) :: log_Append_L0) (log_Append_S0 x0 x1 x2 x3 x4 x5 x6 x7 x8 x9) = (
 br (lti x0 x1)
 ((((0 : Int) ≤ x0) ∧ (x0 < (((len x4) : Nat) : Int))) ∧
 (((Int.toNat x0) < (len x4)) ∧
 (((List.length (nth x4 (Int.toNat x0) (Ty.dflt (Ty.list Ty.int)))) ≤ 140737488355328) ∧
 (br (!(eqi v0 (0 : Int)))
 (K (.tup [.agg [dL [], dI (0 : Int)], .one (dI v0)]) [])
 (((len (nth x4 (Int.toNat x0) (Ty.dflt (Ty.list Ty.int)))) ≤ 255) ∧
 (((((len x5) + (len v1)) * 8) ≤ 140737488355328) ∧
 (br (lti (31 : Int) (((len (cat x5 v1)) : Nat) : Int))
 v19
 (rec log_Append_L0 (log_Append_S0 (w64 (x0 + (1 : Int))) x1 x2 x3 x4 (cat x5 v1) x6 x7 x8 x9)))))))))
 (((64 ≤ (len x7)) ∧ (v2 = true)) ∧
 ((((len x7) * 8) ≤ 140737488355328) ∧
 (((len x3) ≤ 255) ∧
 ((((0 : Int) ≤ ((v3 : Nat) : Int)) ∧ ((((v3 : Nat) : Int) ≤ (1 : Int)) ∧ ((64 ≤ (len x7)) ∧ (((len x7) ≤ 192) ∧ (v2 = true))))) ∧
 (br (lei (0 : Int) v5)
 (br (lei (w64 (v5 + (((len v6) : Nat) : Int))) (w64 ((w64 (((v3 : Nat) : Int) + (1 : Int))) * (32 : Int))))
 ((((-(1 : Int)) ≤ x8) ∧ ((x8 ≤ (100000 : Int)) ∧ (((0 : Int) ≤ (w64 (v5 + (1 : Int)))) ∧ ((((w64 (v5 + (1 : Int))) + (((len x3) : Nat) : Int)) ≤ (((len x7) : Nat) : Int)) ∧ ((len x7) ≤ 192))))) ∧
 (br (!v8.snd)
 (K (.tup [.agg [dL v8.fst.words, dI v8.fst.fuel], .one (dI (7 : Int))]) [])
 ((((0 : Int) ≤ (0 : Int)) ∧ ((0 : Int) < (((len v6) : Nat) : Int))) ∧
 ((((-(1 : Int)) ≤ v8.fst.fuel) ∧ ((v8.fst.fuel ≤ (100000 : Int)) ∧ (((0 : Int) ≤ v5) ∧ (((v5 + (((len ((nth v6 (Int.toNat (0 : Int)) (Ty.dflt Ty.int)) :: [])) : Nat) : Int)) ≤ (((len v8.fst.words) : Nat) : Int)) ∧ ((len v8.fst.words) ≤ 192))))) ∧
 (br (!v10.snd)
 (K (.tup [.agg [dL v10.fst.words, dI v10.fst.fuel], .one (dI (7 : Int))]) [])
 (K (.tup [.agg [dL v10.fst.words, dI v10.fst.fuel], .one (dI (0 : Int))]) []))))))
 v18)
 v18)))))) := by subst_vars; kernel_rfl
theorem log_Append_w0 (m : Nat) (K : KK) (st : St) : goD Γ_log_Append tab fn_log_Append 0 K (m + 1) log_Append_L0 st = segD Γ_log_Append tab fn_log_Append 0 K (goD Γ_log_Append tab fn_log_Append 0 K m) (.code (Code.sub (bodyOf fn_log_Append) [1, 1, 1, 1, 0, 1, 0, 0]) :: log_Append_L0) st := rfl

theorem loop_log_Append (ws r : List Int) (fu : Int) (rs : List (List Int)) (hl : rs.length ≤ 5864062014806) (hs : smR rs = true) (K : KK)
    (hbad : ∀ e, e ≠ 0 → gather 0 rs = e → K (.tup [.agg [dL [], dI 0], .one (dI e)]) [])
    (hend : ∀ M, gather 0 rs = 0 → (allW rs).length ≤ 31 → goD Γ_log_Append tab fn_log_Append 0 K (M + 1) log_Append_L0 (log_Append_S0 (rs.length : Int) (((len rs) : Nat) : Int) 0 r rs (allW rs) 0 ws fu [])) :
    ∀ (d k : Nat), rs.length ≤ k + d → k ≤ rs.length → (allW (rs.take k)).length ≤ 31 → gather 0 rs = gather (allW (rs.take k)).length (rs.drop k) →
    goD Γ_log_Append tab fn_log_Append 0 K (d + 1) log_Append_L0 (log_Append_S0 (k : Int) (((len rs) : Nat) : Int) 0 r rs (allW (rs.take k)) 0 ws fu [])
  | 0, k, hk, hk2, ha, hg => by
    have : k = rs.length := by omega
    subst this
    rw [List.take_length] at ha hg ⊢
    rw [List.drop_length] at hg
    exact hend 0 hg ha
  | d + 1, k, hk, hk2, ha, hg => by
    by_cases c : k = rs.length
    · subst c
      rw [List.take_length] at ha hg ⊢
      rw [List.drop_length] at hg
      exact hend (d + 1) hg ha
    have ht := take_step (l := rs) (k := k) (by omega) (Ty.dflt (.list .int))
    rw [drop_step (by omega) (Ty.dflt (.list .int))] at hg
    have hm : nth rs k (Ty.dflt (.list .int)) ∈ rs := by
      have : k < rs.length := by omega
      simp [nth, List.getD_eq_getElem?_getD, this]
    have hsm := List.all_eq_true.1 hs _ hm
    simp only [decide_eq_true_eq] at hsm
    rw [log_Append_w0, log_Append_vc0 _ _ _ _ _ _ _ _ _ _ _ _ _ rfl _ rfl _ rfl _ rfl _ rfl _ rfl _ rfl _ rfl _ rfl _ rfl _ rfl _ rfl _ rfl _ rfl _ rfl _ rfl _ rfl _ rfl _ rfl _ rfl, toNat_nat]
    obtain ⟨x, hx⟩ : ∃ x, nth rs k (Ty.dflt (.list .int)) = x := ⟨_, rfl⟩
    rw [hx] at ht hg hsm ⊢
    simp only [gather] at hg
    refine lt_t (by simp only [len]; omega) ⟨⟨by omega, by simp only [len]; omega⟩, by simp only [len]; omega, hsm, ne_s (fun h1 => ?_) (fun h1 => ?_)⟩
    · rw [if_neg h1] at hg
      exact hbad _ h1 hg
    · rw [if_pos h1] at hg
      obtain ⟨r1, r2, r3⟩ := checkRec_ok h1
      refine ⟨by simp only [len]; omega, by simp only [len, recW_len]; omega, lt_s (fun h2 => ?_) (fun h2 => ?_)⟩
      · simp only [len, cat, List.length_append, recW_len] at h2
        rw [if_neg (by omega)] at hg
        exact hbad 8 (by decide) hg
      · simp only [len, cat, List.length_append, recW_len] at h2
        rw [if_pos (by omega)] at hg
        rw [w64_succ (by omega)]
        have e : cat (allW (rs.take k)) (recW x) = allW (rs.take (k + 1)) := by rw [ht, allW_snoc]; rfl
        have el : (allW (rs.take (k + 1))).length = (allW (rs.take k)).length + 1 + x.length := by rw [ht, allW_snoc, List.length_append, recW_len]; omega
        rw [e]
        exact loop_log_Append ws r fu rs hl hs K hbad hend d (k + 1) (by omega) (by omega) (by rw [el]; omega) (by rw [hg, el])
theorem there_log_Append (ws al : List Int) (fu g : Int) (s : Nat) (hs : s ≤ 1) (h64 : 64 ≤ ws.length) (h192 : ws.length ≤ 192) (f1 : -1 ≤ fu) (f2 : fu ≤ 100000) (hg0 : 0 ≤ g) (hg1 : g ≤ 65535) (hal : al.length ≤ 31) (P : Flash × Int → Prop)
    (hP : P (power (doCh ⟨ws, fu⟩ (wipeCh ((1 - s : Nat) : Int) ++ burnCh (32 * ((1 - s : Nat) : Int) + 1) al ++ burnCh (32 * ((1 - s : Nat) : Int)) [g + 1])))) :
    let o := w64 (1 - (s : Int))
    let a := doCh ⟨ws, fu⟩ (wipeCh o)
    let b := doCh ⟨a.1.words, a.1.fuel⟩ (burnCh (w64 (w64 (o * 32) + 1)) al)
    let c := doCh ⟨b.1.words, b.1.fuel⟩ (burnCh (w64 (o * 32)) [w64 (g + 1)])
    (0 ≤ o ∧ (o + 1) * 32 ≤ (ws.length : Int)) ∧
    (a.2 = false → P (a.1, 7)) ∧ ((-1 ≤ a.1.fuel ∧ a.1.fuel ≤ 100000 ∧ 0 ≤ w64 (w64 (o * 32) + 1) ∧ w64 (w64 (o * 32) + 1) + (al.length : Int) ≤ (a.1.words.length : Int) ∧ a.1.words.length ≤ 192) ∧
    (a.2 = true → b.2 = false → P (b.1, 7)) ∧ ((-1 ≤ b.1.fuel ∧ b.1.fuel ≤ 100000 ∧ 0 ≤ w64 (o * 32) ∧ w64 (o * 32) + 1 ≤ (b.1.words.length : Int) ∧ b.1.words.length ≤ 192) ∧
    (a.2 = true → b.2 = true → P (c.1, powerE c.2)))) := by
  intro o a b c
  have eo : o = ((1 - s : Nat) : Int) := by show w64 (1 - (s : Int)) = _; rw [w64_id (by omega) (by omega)]; omega
  have e1 : w64 (o * 32) = 32 * ((1 - s : Nat) : Int) := by rw [eo, w64_id (by omega) (by omega)]; omega
  have e2 : w64 (w64 (o * 32) + 1) = 32 * ((1 - s : Nat) : Int) + 1 := by rw [e1, w64_id (by omega) (by omega)]
  have e3 : w64 (g + 1) = g + 1 := w64_id (by omega) (by omega)
  have fa := doCh_fuel ⟨ws, fu⟩ (wipeCh o) f1 f2
  have la : a.1.words.length = ws.length := doCh_len ⟨ws, fu⟩ (wipeCh o)
  have fb := doCh_fuel a.1 (burnCh (w64 (w64 (o * 32) + 1)) al) fa.1 fa.2
  have lb : b.1.words.length = a.1.words.length := doCh_len a.1 (burnCh (w64 (w64 (o * 32) + 1)) al)
  rw [doCh_append, doCh_append] at hP
  have ea : doCh ⟨ws, fu⟩ (wipeCh ((1 - s : Nat) : Int)) = a := by rw [← eo]
  have eb : doCh a.1 (burnCh (32 * ((1 - s : Nat) : Int) + 1) al) = b := by rw [← e2]
  have ec : doCh b.1 (burnCh (32 * ((1 - s : Nat) : Int)) [g + 1]) = c := by rw [← e1, ← e3]
  rw [ea, eb] at hP
  refine ⟨by omega, fun h => ?_, ⟨fa.1, fa.2, by omega, by omega, by omega⟩, fun h h' => ?_, ⟨fb.1, fb.2, by omega, by omega, by omega⟩, fun h h' => ?_⟩
  · rw [if_neg (by simp [h]), if_neg (by simp [h])] at hP
    simpa [power, h, powerE] using hP
  · rw [if_pos h, if_neg (by simp [h'])] at hP
    simpa [power, h', powerE] using hP
  · rw [if_pos h, if_pos h', ec] at hP
    exact hP
set_option maxHeartbeats 4000000 in
theorem run_log_Append (ws : List Int) (fu : Int) (r : List Int) (keep : List (List Int)) (hp : Sm r ∧ len keep * 24 ≤ 140737488351232 ∧ smR keep = true) (K : KK) (hK : K (.tup [.agg [dL (appendF ⟨ws, fu⟩ r keep).1.words, dI (appendF ⟨ws, fu⟩ r keep).1.fuel], .one (dI (appendF ⟨ws, fu⟩ r keep).2)]) []) : ∃ m, goD Γ_log_Append tab fn_log_Append 0 K m [.code (bodyOf fn_log_Append)] (initSt [.agg [dL ws, dI fu], .one (dL r), .one (dR keep)] []) := by
  obtain ⟨hr, hk, hsm⟩ := hp
  refine ⟨(keep ++ [r]).length + 1 + 1, ?_⟩
  rw [log_Append_w, log_Append_vc _ _ _ _ _ _ _ rfl _ rfl]
  unfold appendF appendE at hK
  simp only [len] at hk
  refine ne_s (fun h => ?_) (fun h => ?_)
  · rw [if_neg h, if_neg h] at hK; exact hK
  rw [if_pos h] at hK
  refine ⟨hr, ne_s (fun h2 => ?_) (fun h2 => ?_)⟩
  · rw [if_neg h2, if_neg h2] at hK; exact hK
  rw [if_pos h2] at hK
  obtain ⟨k1, k2, k3, k4⟩ := checkLog_ok h
  obtain ⟨c1, c2, c3, c4⟩ := checkFlash_ok k1
  obtain ⟨c5, c6⟩ := okLen_le c1
  simp only at k2 k3 k4 c2 c3 c4 c5 c6
  obtain ⟨r1, r2, r3⟩ := checkRec_ok h2
  have hlen : (keep ++ [r]).length = keep.length + 1 := by simp
  obtain ⟨rs, hrs⟩ : ∃ rs, keep ++ [r] = rs := ⟨_, rfl⟩
  have hsr : smR rs = true := by
    rw [← hrs]; unfold smR at hsm ⊢; rw [List.all_append, hsm]
    simp only [List.all_cons, List.all_nil, Bool.and_true, Bool.true_and, decide_eq_true_eq]; omega
  rw [hrs] at hlen ⊢
  refine ⟨by simp only [len]; omega, by simp only [len, List.length_cons, List.length_nil]; omega, ?_⟩
  rw [show cat keep [r] = rs from hrs]
  rw [hrs] at hK
  have e0 : allW (rs.take 0) = [] := by simp [allW]
  have l0 : (allW (rs.take 0)).length = 0 := by rw [e0]; rfl
  refine loop_log_Append ws r fu rs (by omega) hsr K (fun e he hg => ?_) (fun M hg hal => ?_) rs.length 0 (by omega) (by omega) (by omega) (by rw [l0, List.drop_zero])
  · rw [hg, if_neg he] at hK; exact hK
  rw [hg, if_pos rfl] at hK
  rw [log_Append_w0, log_Append_vc0 _ _ _ _ _ _ _ _ _ _ _ _ _ rfl _ rfl _ rfl _ rfl _ rfl _ rfl _ rfl _ rfl _ rfl _ rfl _ rfl _ rfl _ rfl _ rfl _ rfl _ rfl _ rfl _ rfl _ rfl _ rfl, toNat_nat]
  unfold appendCh at hK
  have hls := liveS_le ws
  have hgr := genOf_range c4 (liveS ws)
  have hg1 : liveG ws = genOf ws (liveS ws) := rfl
  have es : ∀ s : Nat, Int.toNat (s : Int) = s := fun _ => rfl
  simp only [hrs] at hK
  obtain ⟨s, hs⟩ : ∃ s, liveS ws = s := ⟨_, rfl⟩
  rw [hs] at hK hls ⊢
  obtain ⟨g, hgg⟩ : ∃ g, liveG ws = g := ⟨_, rfl⟩
  rw [hgg] at hK hg1 k3 k4 ⊢
  rw [w64_id (n := (s : Int) + 1) (by omega) (by omega), w64_id (n := ((s : Int) + 1) * 32) (by omega) (by omega)]
  have e6 : (((len (recW r)) : Nat) : Int) = (r.length : Int) + 1 := by simp only [len, recW_len]; omega
  have e7 : nth (recW r) (Int.toNat (0 : Int)) (Ty.dflt Ty.int) = 42240 + (r.length : Int) := rfl
  rw [e6, e7, es s]
  simp only [len]
  have hthere := fun (hP : K (.tup [.agg [dL (power (doCh ⟨ws, fu⟩ (thereCh (1 - s) rs (g + 1)))).1.words, dI (power (doCh ⟨ws, fu⟩ (thereCh (1 - s) rs (g + 1)))).1.fuel], .one (dI (power (doCh ⟨ws, fu⟩ (thereCh (1 - s) rs (g + 1)))).2)]) []) =>
    there_log_Append ws (allW rs) fu g s hls k2 c6 c2 c3 (by omega) (by omega) hal (fun x => K (.tup [.agg [dL x.1.words, dI x.1.fuel], .one (dI x.2)]) []) hP
  refine lt_f (by omega) ⟨⟨k2, c4⟩, by omega, by omega, ⟨by omega, by omega, k2, c6, c4⟩, ?_⟩
  cases hsc : (scanS ws s).2 with
  | none =>
    rw [hsc] at hK
    simp only [room, Bool.false_eq_true, if_false] at hK
    simp only [nextI]
    refine br_f (lei_false.2 (by omega)) (eq_s (fun h5 => ?_) (fun h5 => ?_))
    · rw [if_pos h5] at hK; exact hK
    · rw [if_neg h5] at hK
      obtain ⟨t1, t2, t3, t4, t5, t6⟩ := hthere hK
      refine ⟨⟨c2, c3, t1.1, t1.2, c6⟩, nt_s t2 (fun q1 => ⟨t3, nt_s (t4 q1) (fun q2 => ⟨t5, nt_s (fun q3 => ?_) (fun q3 => ?_)⟩)⟩)⟩
      · have := t6 q1 q2; rw [q3] at this; exact this
      · have := t6 q1 q2; rw [q3] at this; exact this
  | some a =>
    have ha := scanS_le (by omega) hsc
    rw [hsc] at hK
    simp only [nextI]
    rw [w64_id (n := 32 * (s : Int) + 1 + a + ((r.length : Int) + 1)) (by omega) (by omega), w64_id (n := 32 * (s : Int) + 1 + a + 1) (by omega) (by omega)]
    refine br_t (lei_true.2 (by omega)) (br_split (fun h5 => ?_) (fun h5 => ?_))
    · rw [lei_true] at h5
      rw [if_pos (show room r.length (some a) = true from by simp only [room, decide_eq_true_eq]; omega)] at hK
      simp only [Option.getD_some, hereCh] at hK
      rw [show ((32 * s + 1 + a : Nat) : Int) = 32 * (s : Int) + 1 + a by omega, doCh_append] at hK
      obtain ⟨f1, f2⟩ := doCh_fuel ⟨ws, fu⟩ (burnCh (32 * (s : Int) + 1 + a + 1) r) c2 c3
      have l1 := doCh_len ⟨ws, fu⟩ (burnCh (32 * (s : Int) + 1 + a + 1) r)
      simp only at l1
      refine ⟨⟨c2, c3, by omega, by omega, c6⟩, nt_s (fun q1 => ?_) (fun q1 => ⟨⟨by omega, by omega⟩, ⟨f1, f2, by omega, by simp only [List.length_cons, List.length_nil]; omega, by omega⟩, nt_s (fun q2 => ?_) (fun q2 => ?_)⟩)⟩
      · rw [if_neg (by simp [q1])] at hK
        simpa only [power, q1, powerE] using hK
      · rw [if_pos q1] at hK
        simp only [power] at hK
        rw [show (doCh (doCh ⟨ws, fu⟩ (burnCh (32 * (s : Int) + 1 + a + 1) r)).1 (burnCh (32 * (s : Int) + 1 + a) [42240 + (r.length : Int)])).2 = false from q2] at hK
        exact hK
      · rw [if_pos q1] at hK
        simp only [power] at hK
        rw [show (doCh (doCh ⟨ws, fu⟩ (burnCh (32 * (s : Int) + 1 + a + 1) r)).1 (burnCh (32 * (s : Int) + 1 + a) [42240 + (r.length : Int)])).2 = true from q2] at hK
        exact hK
    · rw [lei_false] at h5
      rw [if_neg (show ¬ room r.length (some a) = true from by simp only [room, decide_eq_true_eq]; omega)] at hK
      refine eq_s (fun h5 => ?_) (fun h5 => ?_)
      · rw [if_pos h5] at hK; exact hK
      · rw [if_neg h5] at hK
        obtain ⟨t1, t2, t3, t4, t5, t6⟩ := hthere hK
        refine ⟨⟨c2, c3, t1.1, t1.2, c6⟩, nt_s t2 (fun q1 => ⟨t3, nt_s (t4 q1) (fun q2 => ⟨t5, nt_s (fun q3 => ?_) (fun q3 => ?_)⟩)⟩)⟩
        · have := t6 q1 q2; rw [q3] at this; exact this
        · have := t6 q1 q2; rw [q3] at this; exact this
theorem sound_log_Append : SoundC Tryz.prog tab n_log_Append c_log_Append := soundC_of ok_log_Append hf_log_Append hB_log_Append (by
  intro vs bs p v bs' h hp
  unfold c_log_Append at h
  split at h
  · cases h
    exact ⟨by kernel_rfl, rfl, .inl (run_log_Append _ _ _ _ hp.1 _ ⟨rfl, rfl⟩)⟩
  · cases h)

def c_gate_forget : Contract := fun vs bs => match vs, bs with
  | [.one (.ptr 0 0)], [.box [.dat (.list .int) ws, .dat .int fu, .dat .bool up, .dat .int tv, .dat (.list .int) tk, .dat .int tt, .dat .int tn, .own 1, .own 2], .arr .bool vo, .arr .bool di] => some (none, .tup [], [.box [.dat (.list .int) (forgetG ⟨⟨ws, fu⟩, up, ⟨⟨tv, tk, tt⟩, tn⟩, vo, di⟩).f.words, .dat .int (forgetG ⟨⟨ws, fu⟩, up, ⟨⟨tv, tk, tt⟩, tn⟩, vo, di⟩).f.fuel, .dat .bool (forgetG ⟨⟨ws, fu⟩, up, ⟨⟨tv, tk, tt⟩, tn⟩, vo, di⟩).up, .dat .int (forgetG ⟨⟨ws, fu⟩, up, ⟨⟨tv, tk, tt⟩, tn⟩, vo, di⟩).t.r.version, .dat (.list .int) (forgetG ⟨⟨ws, fu⟩, up, ⟨⟨tv, tk, tt⟩, tn⟩, vo, di⟩).t.r.keys, .dat .int (forgetG ⟨⟨ws, fu⟩, up, ⟨⟨tv, tk, tt⟩, tn⟩, vo, di⟩).t.r.thr, .dat .int (forgetG ⟨⟨ws, fu⟩, up, ⟨⟨tv, tk, tt⟩, tn⟩, vo, di⟩).t.version, .own 1, .own 2], .arr .bool (forgetG ⟨⟨ws, fu⟩, up, ⟨⟨tv, tk, tt⟩, tn⟩, vo, di⟩).voted, .arr .bool (forgetG ⟨⟨ws, fu⟩, up, ⟨⟨tv, tk, tt⟩, tn⟩, vo, di⟩).did])
  | _, _ => none
def Γ_gate_forget : Ctx := []
theorem ok_gate_forget : Ok Tryz.prog tab Γ_gate_forget := ok_nil
theorem gate_forget_vc (ws : List Int) (fu : Int) (up : Bool) (tv : Int) (tk : List Int) (tt : Int) (tn : Int) (vo : List Bool) (di : List Bool) (rec : RK) (K : KK) : segD Γ_gate_forget tab fn_gate_forget 3 K rec [.code (bodyOf fn_gate_forget)] (initSt [.one (.ptr 0 0)] [.box [dL ws, dI fu, dB up, dI tv, dL tk, dI tt, dI tn, .own 1, .own 2], .arr Ty.bool vo, .arr Ty.bool di]) = (
 K (.tup []) [.box [dL ws, dI fu, dB up, dI tv, dL tk, dI tt, dI tn, .own 1, .own 2], .arr Ty.bool (zeros (len vo) (Ty.dflt Ty.bool)), .arr Ty.bool (zeros (len di) (Ty.dflt Ty.bool))]) := by kernel_rfl
theorem gate_forget_w (m : Nat) (K : KK) (st : St) : goD Γ_gate_forget tab fn_gate_forget 3 K (m + 1) [.code (bodyOf fn_gate_forget)] st = segD Γ_gate_forget tab fn_gate_forget 3 K (goD Γ_gate_forget tab fn_gate_forget 3 K m) [.code (bodyOf fn_gate_forget)] st := rfl

set_option maxHeartbeats 4000000 in
theorem run_gate_forget (ws : List Int) (fu : Int) (up : Bool) (tv : Int) (tk : List Int) (tt tn : Int) (vo di : List Bool) (K : KK) (hK : K (.tup []) [.box [dL (forgetG ⟨⟨ws, fu⟩, up, ⟨⟨tv, tk, tt⟩, tn⟩, vo, di⟩).f.words, dI (forgetG ⟨⟨ws, fu⟩, up, ⟨⟨tv, tk, tt⟩, tn⟩, vo, di⟩).f.fuel, dB (forgetG ⟨⟨ws, fu⟩, up, ⟨⟨tv, tk, tt⟩, tn⟩, vo, di⟩).up, dI (forgetG ⟨⟨ws, fu⟩, up, ⟨⟨tv, tk, tt⟩, tn⟩, vo, di⟩).t.r.version, dL (forgetG ⟨⟨ws, fu⟩, up, ⟨⟨tv, tk, tt⟩, tn⟩, vo, di⟩).t.r.keys, dI (forgetG ⟨⟨ws, fu⟩, up, ⟨⟨tv, tk, tt⟩, tn⟩, vo, di⟩).t.r.thr, dI (forgetG ⟨⟨ws, fu⟩, up, ⟨⟨tv, tk, tt⟩, tn⟩, vo, di⟩).t.version, .own 1, .own 2], .arr .bool (forgetG ⟨⟨ws, fu⟩, up, ⟨⟨tv, tk, tt⟩, tn⟩, vo, di⟩).voted, .arr .bool (forgetG ⟨⟨ws, fu⟩, up, ⟨⟨tv, tk, tt⟩, tn⟩, vo, di⟩).did]) : ∃ m, goD Γ_gate_forget tab fn_gate_forget 3 K m [.code (bodyOf fn_gate_forget)] (initSt [.one (.ptr 0 0)] [.box [dL ws, dI fu, dB up, dI tv, dL tk, dI tt, dI tn, .own 1, .own 2], .arr .bool vo, .arr .bool di]) := by
  refine ⟨1, ?_⟩
  rw [gate_forget_w, gate_forget_vc _ _ _ _ _ _ _ _ _ _ _]
  exact hK
theorem sound_gate_forget : SoundC Tryz.prog tab n_gate_forget c_gate_forget := soundC_of ok_gate_forget hf_gate_forget hB_gate_forget (by
  intro vs bs p v bs' h hp
  unfold c_gate_forget at h
  split at h
  · cases h
    exact ⟨by kernel_rfl, rfl, .inl (run_gate_forget _ _ _ _ _ _ _ _ _ _ ⟨rfl, rfl⟩)⟩
  · cases h)

def c_gate_note : Contract := fun vs bs => match vs, bs with
  | [.one (.ptr 0 0), .one (.dat (.list .int) r)], [.box [.dat (.list .int) ws, .dat .int fu, .dat .bool up, .dat .int tv, .dat (.list .int) tk, .dat .int tt, .dat .int tn, .own 1, .own 2], .arr .bool vo, .arr .bool di] => some (some (Sm r), .one (.dat .bool (noteG ⟨⟨ws, fu⟩, up, ⟨⟨tv, tk, tt⟩, tn⟩, vo, di⟩ r).2), [.box [.dat (.list .int) (noteG ⟨⟨ws, fu⟩, up, ⟨⟨tv, tk, tt⟩, tn⟩, vo, di⟩ r).1.f.words, .dat .int (noteG ⟨⟨ws, fu⟩, up, ⟨⟨tv, tk, tt⟩, tn⟩, vo, di⟩ r).1.f.fuel, .dat .bool (noteG ⟨⟨ws, fu⟩, up, ⟨⟨tv, tk, tt⟩, tn⟩, vo, di⟩ r).1.up, .dat .int (noteG ⟨⟨ws, fu⟩, up, ⟨⟨tv, tk, tt⟩, tn⟩, vo, di⟩ r).1.t.r.version, .dat (.list .int) (noteG ⟨⟨ws, fu⟩, up, ⟨⟨tv, tk, tt⟩, tn⟩, vo, di⟩ r).1.t.r.keys, .dat .int (noteG ⟨⟨ws, fu⟩, up, ⟨⟨tv, tk, tt⟩, tn⟩, vo, di⟩ r).1.t.r.thr, .dat .int (noteG ⟨⟨ws, fu⟩, up, ⟨⟨tv, tk, tt⟩, tn⟩, vo, di⟩ r).1.t.version, .own 1, .own 2], .arr .bool (noteG ⟨⟨ws, fu⟩, up, ⟨⟨tv, tk, tt⟩, tn⟩, vo, di⟩ r).1.voted, .arr .bool (noteG ⟨⟨ws, fu⟩, up, ⟨⟨tv, tk, tt⟩, tn⟩, vo, di⟩ r).1.did])
  | _, _ => none
def Γ_gate_note : Ctx := [(n_gate_of_o, c_gate_of_o), (n_gate_keep, c_gate_keep), (n_log_Append, c_log_Append), (n_gate_forget, c_gate_forget)]
theorem ok_gate_note : Ok Tryz.prog tab Γ_gate_note := ((((ok_nil.consC hf_gate_forget hB_gate_forget sound_gate_forget).consC hf_log_Append hB_log_Append sound_log_Append).consC hf_gate_keep hB_gate_keep sound_gate_keep).consC hf_gate_of_o hB_gate_of_o sound_gate_of_o)
theorem gate_note_vc (ws : List Int) (fu : Int) (up : Bool) (tv : Int) (tk : List Int) (tt : Int) (tn : Int) (vo : List Bool) (di : List Bool) (r : List Int) (rec : RK) (K : KK) v0 (hv0 : v0 = (ofG ⟨ws, fu⟩)) v1 (hv1 : v1 = (keepG ⟨v0.n, v0.version, v0.commit, v0.abort, v0.ended⟩)) v2 (hv2 : v2 = (smR v1)) v3 (hv3 : v3 = (appendF ⟨ws, fu⟩ r v1)) v4 (hv4 : v4 = (br (eqi v3.snd (7 : Int))
 (K (.one (dB (eqi v3.snd (0 : Int)))) [.box [dL v3.fst.words, dI v3.fst.fuel, dB false, dI tv, dL tk, dI tt, dI tn, .own 1, .own 2], .arr Ty.bool (zeros (List.length vo) false), .arr Ty.bool (zeros (List.length di) false)])
 (K (.one (dB (eqi v3.snd (0 : Int)))) [.box [dL v3.fst.words, dI v3.fst.fuel, dB up, dI tv, dL tk, dI tt, dI tn, .own 1, .own 2], .arr Ty.bool vo, .arr Ty.bool di]))) : segD Γ_gate_note tab fn_gate_note 3 K rec [.code (bodyOf fn_gate_note)] (initSt [.one (.ptr 0 0), .one (dL r)] [.box [dL ws, dI fu, dB up, dI tv, dL tk, dI tt, dI tn, .own 1, .own 2], .arr Ty.bool vo, .arr Ty.bool di]) = (
 (((List.length r) ≤ 140737488355328) ∧ ((((len v1) * 24) ≤ 140737488351232) ∧ (v2 = true))) ∧
 (br (!(eqi v3.snd (0 : Int)))
 (br (!(eqi v3.snd (7 : Int)))
 (K (.one (dB false)) [.box [dL ws, dI fu, dB up, dI tv, dL tk, dI tt, dI tn, .own 1, .own 2], .arr Ty.bool vo, .arr Ty.bool di])
 v4)
 v4)) := by subst_vars; kernel_rfl
theorem gate_note_w (m : Nat) (K : KK) (st : St) : goD Γ_gate_note tab fn_gate_note 3 K (m + 1) [.code (bodyOf fn_gate_note)] st = segD Γ_gate_note tab fn_gate_note 3 K (goD Γ_gate_note tab fn_gate_note 3 K m) [.code (bodyOf fn_gate_note)] st := rfl

set_option maxHeartbeats 4000000 in
theorem run_gate_note (ws : List Int) (fu : Int) (up : Bool) (tv : Int) (tk : List Int) (tt tn : Int) (vo di : List Bool) (r : List Int) (hp : Sm r) (K : KK) (hK : K (.one (dB (noteG ⟨⟨ws, fu⟩, up, ⟨⟨tv, tk, tt⟩, tn⟩, vo, di⟩ r).2)) [.box [dL (noteG ⟨⟨ws, fu⟩, up, ⟨⟨tv, tk, tt⟩, tn⟩, vo, di⟩ r).1.f.words, dI (noteG ⟨⟨ws, fu⟩, up, ⟨⟨tv, tk, tt⟩, tn⟩, vo, di⟩ r).1.f.fuel, dB (noteG ⟨⟨ws, fu⟩, up, ⟨⟨tv, tk, tt⟩, tn⟩, vo, di⟩ r).1.up, dI (noteG ⟨⟨ws, fu⟩, up, ⟨⟨tv, tk, tt⟩, tn⟩, vo, di⟩ r).1.t.r.version, dL (noteG ⟨⟨ws, fu⟩, up, ⟨⟨tv, tk, tt⟩, tn⟩, vo, di⟩ r).1.t.r.keys, dI (noteG ⟨⟨ws, fu⟩, up, ⟨⟨tv, tk, tt⟩, tn⟩, vo, di⟩ r).1.t.r.thr, dI (noteG ⟨⟨ws, fu⟩, up, ⟨⟨tv, tk, tt⟩, tn⟩, vo, di⟩ r).1.t.version, .own 1, .own 2], .arr .bool (noteG ⟨⟨ws, fu⟩, up, ⟨⟨tv, tk, tt⟩, tn⟩, vo, di⟩ r).1.voted, .arr .bool (noteG ⟨⟨ws, fu⟩, up, ⟨⟨tv, tk, tt⟩, tn⟩, vo, di⟩ r).1.did]) : ∃ m, goD Γ_gate_note tab fn_gate_note 3 K m [.code (bodyOf fn_gate_note)] (initSt [.one (.ptr 0 0), .one (dL r)] [.box [dL ws, dI fu, dB up, dI tv, dL tk, dI tt, dI tn, .own 1, .own 2], .arr .bool vo, .arr .bool di]) := by
  refine ⟨1, ?_⟩
  rw [gate_note_w, gate_note_vc _ _ _ _ _ _ _ _ _ _ _ _ _ rfl _ rfl _ rfl _ rfl _ rfl]
  unfold noteG changeG at hK
  simp only at hK
  have e0 : (⟨(ofG ⟨ws, fu⟩).n, (ofG ⟨ws, fu⟩).version, (ofG ⟨ws, fu⟩).commit, (ofG ⟨ws, fu⟩).abort, (ofG ⟨ws, fu⟩).ended⟩ : Vm.GState) = ofG ⟨ws, fu⟩ := rfl
  rw [e0]
  obtain ⟨k1, k2⟩ := keepG_sm (ofG ⟨ws, fu⟩)
  refine ⟨⟨hp, by simp only [len]; omega, k1⟩, ?_⟩
  obtain ⟨r', hr⟩ : ∃ r', appendF ⟨ws, fu⟩ r (keepG (ofG ⟨ws, fu⟩)) = r' := ⟨_, rfl⟩
  rw [hr] at hK ⊢
  refine ne_s (fun h => ?_) (fun h => ?_)
  · rw [if_neg h] at hK
    refine ne_s (fun h2 => ?_) (fun h2 => ?_)
    · rw [if_neg h2] at hK; exact hK
    · rw [if_pos h2] at hK
      refine eq_t h2 ?_
      rw [show eqi r'.2 0 = false from eqi_false.2 h]
      exact hK
  · rw [if_pos h] at hK
    refine eq_f (by omega) ?_
    rw [show eqi r'.2 0 = true from eqi_true.2 h]
    exact hK
theorem sound_gate_note : SoundC Tryz.prog tab n_gate_note c_gate_note := soundC_of ok_gate_note hf_gate_note hB_gate_note (by
  intro vs bs p v bs' h hp
  unfold c_gate_note at h
  split at h
  · cases h
    exact ⟨by kernel_rfl, rfl, .inl (run_gate_note _ _ _ _ _ _ _ _ _ _ hp.1 _ ⟨rfl, rfl⟩)⟩
  · cases h)

def c_gate_Begin : Contract := fun vs bs => match vs, bs with
  | [.agg [.dat (.list .str) b], .one (.dat (.list .signed) l), .agg [.dat (.list .int) ws, .dat .int fu, .dat .bool up, .dat .int tv, .dat (.list .int) tk, .dat .int tt, .dat .int tn, .dat (.list .bool) vo, .dat (.list .bool) di], .agg [.dat (.list .root) rs, .dat (.list (.list .int)) rg, .dat .int ov, .dat .int ou, .dat (.list .target) ts, .dat (.list .int) sg, .dat (.list (.list .int)) im], .one (.dat .int now)], [] => some (some (b.length ≤ 140737488355328), .tup [.agg [.dat (.list .int) (beginG b l ⟨⟨ws, fu⟩, up, ⟨⟨tv, tk, tt⟩, tn⟩, vo, di⟩ ⟨rs, rg, ⟨ov, ou, ts⟩, sg, im⟩ now).1.f.words, .dat .int (beginG b l ⟨⟨ws, fu⟩, up, ⟨⟨tv, tk, tt⟩, tn⟩, vo, di⟩ ⟨rs, rg, ⟨ov, ou, ts⟩, sg, im⟩ now).1.f.fuel, .dat .bool (beginG b l ⟨⟨ws, fu⟩, up, ⟨⟨tv, tk, tt⟩, tn⟩, vo, di⟩ ⟨rs, rg, ⟨ov, ou, ts⟩, sg, im⟩ now).1.up, .dat .int (beginG b l ⟨⟨ws, fu⟩, up, ⟨⟨tv, tk, tt⟩, tn⟩, vo, di⟩ ⟨rs, rg, ⟨ov, ou, ts⟩, sg, im⟩ now).1.t.r.version, .dat (.list .int) (beginG b l ⟨⟨ws, fu⟩, up, ⟨⟨tv, tk, tt⟩, tn⟩, vo, di⟩ ⟨rs, rg, ⟨ov, ou, ts⟩, sg, im⟩ now).1.t.r.keys, .dat .int (beginG b l ⟨⟨ws, fu⟩, up, ⟨⟨tv, tk, tt⟩, tn⟩, vo, di⟩ ⟨rs, rg, ⟨ov, ou, ts⟩, sg, im⟩ now).1.t.r.thr, .dat .int (beginG b l ⟨⟨ws, fu⟩, up, ⟨⟨tv, tk, tt⟩, tn⟩, vo, di⟩ ⟨rs, rg, ⟨ov, ou, ts⟩, sg, im⟩ now).1.t.version, .dat (.list .bool) (beginG b l ⟨⟨ws, fu⟩, up, ⟨⟨tv, tk, tt⟩, tn⟩, vo, di⟩ ⟨rs, rg, ⟨ov, ou, ts⟩, sg, im⟩ now).1.voted, .dat (.list .bool) (beginG b l ⟨⟨ws, fu⟩, up, ⟨⟨tv, tk, tt⟩, tn⟩, vo, di⟩ ⟨rs, rg, ⟨ov, ou, ts⟩, sg, im⟩ now).1.did], .one (.dat .int (beginG b l ⟨⟨ws, fu⟩, up, ⟨⟨tv, tk, tt⟩, tn⟩, vo, di⟩ ⟨rs, rg, ⟨ov, ou, ts⟩, sg, im⟩ now).2.1), .one (.dat .int (beginG b l ⟨⟨ws, fu⟩, up, ⟨⟨tv, tk, tt⟩, tn⟩, vo, di⟩ ⟨rs, rg, ⟨ov, ou, ts⟩, sg, im⟩ now).2.2)], [])
  | _, _ => none
def Γ_gate_Begin : Ctx := [(n_gate_up, c_gate_up), (n_gate_of, c_gate_of), (n_trust_Take, c_trust_Take), (n_gate_Copy, c_gate_Copy), (n_gate_note, c_gate_note), (n_gate_forget, c_gate_forget)]
theorem ok_gate_Begin : Ok Tryz.prog tab Γ_gate_Begin := ((((((ok_nil.consC hf_gate_forget hB_gate_forget sound_gate_forget).consC hf_gate_note hB_gate_note sound_gate_note).consC hf_gate_Copy hB_gate_Copy sound_gate_Copy).consC hf_trust_Take hB_trust_Take sound_trust_Take).consC hf_gate_of hB_gate_of sound_gate_of).consC hf_gate_up hB_gate_up sound_gate_up)
theorem gate_Begin_vc (b : List (List UInt8)) (l : List Signed) (ws : List Int) (fu : Int) (up : Bool) (tv : Int) (tk : List Int) (tt : Int) (tn : Int) (vo : List Bool) (di : List Bool) (rs : List Root) (rg : List (List Int)) (ov : Int) (ou : Int) (ts : List Vm.Target) (sg : List Int) (im : List (List Int)) (now : Int) (rec : RK) (K : KK) v0 (hv0 : v0 = (upG ⟨⟨ws, fu⟩, up, ⟨⟨tv, tk, tt⟩, tn⟩, vo, di⟩)) v1 (hv1 : v1 = (ofG ⟨ws, fu⟩)) v2 (hv2 : v2 = (takeT b l ⟨⟨tv, tk, tt⟩, tn⟩ ⟨rs, rg, ⟨ov, ou, ts⟩, sg, im⟩ now (((len vo) : Nat) : Int))) v3 (hv3 : v3 = (noteG ⟨⟨ws, fu⟩, up, ⟨⟨tv, tk, tt⟩, tn⟩, vo, di⟩ ((1 : Int) :: ((w64 (v1.n + (1 : Int))) :: (ov :: []))))) v4 (hv4 : v4 = (br (eqi v1.n (8 : Int))
 (K (.tup [.agg [dL [], dI (0 : Int), dB false, dI (0 : Int), dL [], dI (0 : Int), dI (0 : Int), dLb [], dLb []], .one (dI (0 : Int)), .one (dI (8 : Int))]) [])
 (((List.length b) ≤ 140737488355328) ∧
 (br (!(eqi v2.snd (0 : Int)))
 (K (.tup [.agg [dL [], dI (0 : Int), dB false, dI (0 : Int), dL [], dI (0 : Int), dI (0 : Int), dLb [], dLb []], .one (dI (0 : Int)), .one (dI v2.snd)]) [])
 (((((len ws) * 8) ≤ 140737488355328) ∧ ((((len tk) * 8) ≤ 140737488355328) ∧ (((len vo) ≤ 1000) ∧ ((len di) ≤ 1000)))) ∧
 (((List.length ((1 : Int) :: ((w64 (v1.n + (1 : Int))) :: (ov :: [])))) ≤ 140737488355328) ∧
 (br (!v3.snd)
 (K (.tup [.agg [dL v3.fst.f.words, dI v3.fst.f.fuel, dB v3.fst.up, dI v3.fst.t.r.version, dL v3.fst.t.r.keys, dI v3.fst.t.r.thr, dI v3.fst.t.version, dLb v3.fst.voted, dLb v3.fst.did], .one (dI (0 : Int)), .one (dI (0 : Int))]) [])
 (K (.tup [.agg [dL v3.fst.f.words, dI v3.fst.f.fuel, dB v3.fst.up, dI v2.fst.r.version, dL v2.fst.r.keys, dI v2.fst.r.thr, dI v2.fst.version, dLb (zeros (List.length v3.fst.voted) false), dLb (zeros (List.length v3.fst.did) false)], .one (dI (w64 (v1.n + (1 : Int)))), .one (dI (0 : Int))]) [])))))))) : segD Γ_gate_Begin tab fn_gate_Begin 0 K rec [.code (bodyOf fn_gate_Begin)] (initSt [.agg [.dat (Ty.list Ty.str) b], .one (.dat (Ty.list Ty.signed) l), .agg [dL ws, dI fu, dB up, dI tv, dL tk, dI tt, dI tn, dLb vo, dLb di], .agg [.dat (Ty.list Ty.root) rs, dR rg, dI ov, dI ou, .dat (Ty.list Ty.target) ts, dL sg, dR im], .one (dI now)] []) = (
 br (!(eqi v0 (0 : Int)))
 (K (.tup [.agg [dL [], dI (0 : Int), dB false, dI (0 : Int), dL [], dI (0 : Int), dI (0 : Int), dLb [], dLb []], .one (dI (0 : Int)), .one (dI v0)]) [])
 (br (lti (0 : Int) v1.n)
 (br (!v1.ended)
 (K (.tup [.agg [dL [], dI (0 : Int), dB false, dI (0 : Int), dL [], dI (0 : Int), dI (0 : Int), dLb [], dLb []], .one (dI (0 : Int)), .one (dI (12 : Int))]) [])
 v4)
 v4)) := by subst_vars; kernel_rfl
theorem gate_Begin_w (m : Nat) (K : KK) (st : St) : goD Γ_gate_Begin tab fn_gate_Begin 0 K (m + 1) [.code (bodyOf fn_gate_Begin)] st = segD Γ_gate_Begin tab fn_gate_Begin 0 K (goD Γ_gate_Begin tab fn_gate_Begin 0 K m) [.code (bodyOf fn_gate_Begin)] st := rfl

set_option maxHeartbeats 4000000 in
theorem run_gate_Begin (b : List (List UInt8)) (l : List Vm.Signed) (ws : List Int) (fu : Int) (up : Bool) (tv : Int) (tk : List Int) (tt tn : Int) (vo di : List Bool) (rs : List Vm.Root) (rg : List (List Int)) (ov ou : Int) (ts : List Vm.Target) (sg : List Int) (im : List (List Int)) (now : Int) (hp : b.length ≤ 140737488355328) (K : KK) (hK : K (.tup [.agg [dL (beginG b l ⟨⟨ws, fu⟩, up, ⟨⟨tv, tk, tt⟩, tn⟩, vo, di⟩ ⟨rs, rg, ⟨ov, ou, ts⟩, sg, im⟩ now).1.f.words, dI (beginG b l ⟨⟨ws, fu⟩, up, ⟨⟨tv, tk, tt⟩, tn⟩, vo, di⟩ ⟨rs, rg, ⟨ov, ou, ts⟩, sg, im⟩ now).1.f.fuel, dB (beginG b l ⟨⟨ws, fu⟩, up, ⟨⟨tv, tk, tt⟩, tn⟩, vo, di⟩ ⟨rs, rg, ⟨ov, ou, ts⟩, sg, im⟩ now).1.up, dI (beginG b l ⟨⟨ws, fu⟩, up, ⟨⟨tv, tk, tt⟩, tn⟩, vo, di⟩ ⟨rs, rg, ⟨ov, ou, ts⟩, sg, im⟩ now).1.t.r.version, dL (beginG b l ⟨⟨ws, fu⟩, up, ⟨⟨tv, tk, tt⟩, tn⟩, vo, di⟩ ⟨rs, rg, ⟨ov, ou, ts⟩, sg, im⟩ now).1.t.r.keys, dI (beginG b l ⟨⟨ws, fu⟩, up, ⟨⟨tv, tk, tt⟩, tn⟩, vo, di⟩ ⟨rs, rg, ⟨ov, ou, ts⟩, sg, im⟩ now).1.t.r.thr, dI (beginG b l ⟨⟨ws, fu⟩, up, ⟨⟨tv, tk, tt⟩, tn⟩, vo, di⟩ ⟨rs, rg, ⟨ov, ou, ts⟩, sg, im⟩ now).1.t.version, dLb (beginG b l ⟨⟨ws, fu⟩, up, ⟨⟨tv, tk, tt⟩, tn⟩, vo, di⟩ ⟨rs, rg, ⟨ov, ou, ts⟩, sg, im⟩ now).1.voted, dLb (beginG b l ⟨⟨ws, fu⟩, up, ⟨⟨tv, tk, tt⟩, tn⟩, vo, di⟩ ⟨rs, rg, ⟨ov, ou, ts⟩, sg, im⟩ now).1.did], .one (dI (beginG b l ⟨⟨ws, fu⟩, up, ⟨⟨tv, tk, tt⟩, tn⟩, vo, di⟩ ⟨rs, rg, ⟨ov, ou, ts⟩, sg, im⟩ now).2.1), .one (dI (beginG b l ⟨⟨ws, fu⟩, up, ⟨⟨tv, tk, tt⟩, tn⟩, vo, di⟩ ⟨rs, rg, ⟨ov, ou, ts⟩, sg, im⟩ now).2.2)]) []) : ∃ m, goD Γ_gate_Begin tab fn_gate_Begin 0 K m [.code (bodyOf fn_gate_Begin)] (initSt [.agg [.dat (.list .str) b], .one (.dat (.list .signed) l), .agg [dL ws, dI fu, dB up, dI tv, dL tk, dI tt, dI tn, dLb vo, dLb di], .agg [.dat (.list .root) rs, dR rg, dI ov, dI ou, .dat (.list .target) ts, dL sg, dR im], .one (dI now)] []) := by
  refine ⟨1, ?_⟩
  rw [gate_Begin_w, gate_Begin_vc _ _ _ _ _ _ _ _ _ _ _ _ _ _ _ _ _ _ _ _ _ _ rfl _ rfl _ rfl _ rfl _ rfl]
  unfold beginG beginE begunG at hK
  simp only at hK
  have hv0 := ofG_ok ⟨ws, fu⟩
  obtain ⟨s, hs⟩ : ∃ s, ofG ⟨ws, fu⟩ = s := ⟨_, rfl⟩
  rw [hs] at hK hv0 ⊢
  obtain ⟨t, ht⟩ : ∃ t, takeT b l ⟨⟨tv, tk, tt⟩, tn⟩ ⟨rs, rg, ⟨ov, ou, ts⟩, sg, im⟩ now (vo.length : Int) = t := ⟨_, rfl⟩
  rw [show ((len vo : Nat) : Int) = (vo.length : Int) from rfl]
  rw [ht] at hK ⊢
  have n0 := hv0.n0
  have n8 := hv0.n8
  have ew : w64 (s.n + 1) = s.n + 1 := w64_id (by omega) (by omega)
  rw [ew]
  refine ne_s (fun h => ?_) (fun h => ?_)
  · rw [if_neg h, if_neg h] at hK; exact hK
  have hc : checkG ⟨⟨ws, fu⟩, up, ⟨⟨tv, tk, tt⟩, tn⟩, vo, di⟩ = 0 := upG_check h
  obtain ⟨s1, s2, s3, s4⟩ := checkG_sm hc
  obtain ⟨_, _, l1, l2, _⟩ := note_allG (r := [1, s.n + 1, ov]) (checkG_ok hc).1
  rw [if_pos h] at hK
  by_cases c : 0 < s.n ∧ s.ended = false
  · rw [if_pos c, if_neg (by omega)] at hK
    exact lt_t c.1 (nt_t c.2 hK)
  rw [if_neg c] at hK
  have key : br (eqi s.n 8) (K (.tup [.agg [dL [], dI (0 : Int), dB false, dI (0 : Int), dL [], dI (0 : Int), dI (0 : Int), dLb [], dLb []], .one (dI (0 : Int)), .one (dI (8 : Int))]) []) (((List.length b) ≤ 140737488355328) ∧
      (br (!(eqi t.2 (0 : Int)))
       (K (.tup [.agg [dL [], dI (0 : Int), dB false, dI (0 : Int), dL [], dI (0 : Int), dI (0 : Int), dLb [], dLb []], .one (dI (0 : Int)), .one (dI t.2)]) [])
       (((((len ws) * 8) ≤ 140737488355328) ∧ ((((len tk) * 8) ≤ 140737488355328) ∧ (((len vo) ≤ 1000) ∧ ((len di) ≤ 1000)))) ∧
        (((List.length ((1 : Int) :: (s.n + 1) :: (ov :: []))) ≤ 140737488355328) ∧
        (br (!(noteG ⟨⟨ws, fu⟩, up, ⟨⟨tv, tk, tt⟩, tn⟩, vo, di⟩ [1, s.n + 1, ov]).2)
         (K (.tup [.agg [dL (((noteG ⟨⟨ws, fu⟩, up, ⟨⟨tv, tk, tt⟩, tn⟩, vo, di⟩ [1, s.n + 1, ov]).1).f).words, dI (((noteG ⟨⟨ws, fu⟩, up, ⟨⟨tv, tk, tt⟩, tn⟩, vo, di⟩ [1, s.n + 1, ov]).1).f).fuel, dB ((noteG ⟨⟨ws, fu⟩, up, ⟨⟨tv, tk, tt⟩, tn⟩, vo, di⟩ [1, s.n + 1, ov]).1).up, dI ((((noteG ⟨⟨ws, fu⟩, up, ⟨⟨tv, tk, tt⟩, tn⟩, vo, di⟩ [1, s.n + 1, ov]).1).t).r).version, dL ((((noteG ⟨⟨ws, fu⟩, up, ⟨⟨tv, tk, tt⟩, tn⟩, vo, di⟩ [1, s.n + 1, ov]).1).t).r).keys, dI ((((noteG ⟨⟨ws, fu⟩, up, ⟨⟨tv, tk, tt⟩, tn⟩, vo, di⟩ [1, s.n + 1, ov]).1).t).r).thr, dI (((noteG ⟨⟨ws, fu⟩, up, ⟨⟨tv, tk, tt⟩, tn⟩, vo, di⟩ [1, s.n + 1, ov]).1).t).version, dLb ((noteG ⟨⟨ws, fu⟩, up, ⟨⟨tv, tk, tt⟩, tn⟩, vo, di⟩ [1, s.n + 1, ov]).1).voted, dLb ((noteG ⟨⟨ws, fu⟩, up, ⟨⟨tv, tk, tt⟩, tn⟩, vo, di⟩ [1, s.n + 1, ov]).1).did], .one (dI (0 : Int)), .one (dI (0 : Int))]) [])
         (K (.tup [.agg [dL (((noteG ⟨⟨ws, fu⟩, up, ⟨⟨tv, tk, tt⟩, tn⟩, vo, di⟩ [1, s.n + 1, ov]).1).f).words, dI (((noteG ⟨⟨ws, fu⟩, up, ⟨⟨tv, tk, tt⟩, tn⟩, vo, di⟩ [1, s.n + 1, ov]).1).f).fuel, dB ((noteG ⟨⟨ws, fu⟩, up, ⟨⟨tv, tk, tt⟩, tn⟩, vo, di⟩ [1, s.n + 1, ov]).1).up, dI ((t.fst).r).version, dL ((t.fst).r).keys, dI ((t.fst).r).thr, dI (t.fst).version, dLb (zeros (List.length ((noteG ⟨⟨ws, fu⟩, up, ⟨⟨tv, tk, tt⟩, tn⟩, vo, di⟩ [1, s.n + 1, ov]).1).voted) false), dLb (zeros (List.length ((noteG ⟨⟨ws, fu⟩, up, ⟨⟨tv, tk, tt⟩, tn⟩, vo, di⟩ [1, s.n + 1, ov]).1).did) false)], .one (dI (s.n + 1)), .one (dI (0 : Int))]) [])))))) := by
    refine eq_s (fun c2 => ?_) (fun c2 => ?_)
    · rw [if_pos c2, if_neg (by omega)] at hK; exact hK
    rw [if_neg c2] at hK
    refine ⟨hp, ne_s (fun c3 => ?_) (fun c3 => ⟨⟨s1, s2, s3, s4⟩, by simp, ?_⟩)⟩
    · rw [if_neg c3] at hK; exact hK
    rw [if_pos c3] at hK
    rw [l1, l2]
    refine nt_s (fun c4 => ?_) (fun c4 => ?_)
    · rw [if_neg (by rw [c4]; simp)] at hK; exact hK
    · rw [if_pos c4] at hK; exact hK
  refine lt_s (fun c1 => nt_s (fun c2 => absurd ⟨c1, c2⟩ c) (fun _ => key)) (fun _ => key)
theorem sound_gate_Begin : SoundC Tryz.prog tab n_gate_Begin c_gate_Begin := soundC_of ok_gate_Begin hf_gate_Begin hB_gate_Begin (by
  intro vs bs p v bs' h hp
  unfold c_gate_Begin at h
  split at h
  · cases h
    exact ⟨by kernel_rfl, rfl, .inl (run_gate_Begin _ _ _ _ _ _ _ _ _ _ _ _ _ _ _ _ _ _ _ hp.1 _ ⟨rfl, rfl⟩)⟩
  · cases h)

def c_gate_GiveUp : Contract := fun vs bs => match vs, bs with
  | [.agg [.dat (.list .int) ws, .dat .int fu, .dat .bool up, .dat .int tv, .dat (.list .int) tk, .dat .int tt, .dat .int tn, .dat (.list .bool) vo, .dat (.list .bool) di]], [] => some (none, .tup [.agg [.dat (.list .int) (giveG ⟨⟨ws, fu⟩, up, ⟨⟨tv, tk, tt⟩, tn⟩, vo, di⟩).1.f.words, .dat .int (giveG ⟨⟨ws, fu⟩, up, ⟨⟨tv, tk, tt⟩, tn⟩, vo, di⟩).1.f.fuel, .dat .bool (giveG ⟨⟨ws, fu⟩, up, ⟨⟨tv, tk, tt⟩, tn⟩, vo, di⟩).1.up, .dat .int (giveG ⟨⟨ws, fu⟩, up, ⟨⟨tv, tk, tt⟩, tn⟩, vo, di⟩).1.t.r.version, .dat (.list .int) (giveG ⟨⟨ws, fu⟩, up, ⟨⟨tv, tk, tt⟩, tn⟩, vo, di⟩).1.t.r.keys, .dat .int (giveG ⟨⟨ws, fu⟩, up, ⟨⟨tv, tk, tt⟩, tn⟩, vo, di⟩).1.t.r.thr, .dat .int (giveG ⟨⟨ws, fu⟩, up, ⟨⟨tv, tk, tt⟩, tn⟩, vo, di⟩).1.t.version, .dat (.list .bool) (giveG ⟨⟨ws, fu⟩, up, ⟨⟨tv, tk, tt⟩, tn⟩, vo, di⟩).1.voted, .dat (.list .bool) (giveG ⟨⟨ws, fu⟩, up, ⟨⟨tv, tk, tt⟩, tn⟩, vo, di⟩).1.did], .one (.dat .int (giveG ⟨⟨ws, fu⟩, up, ⟨⟨tv, tk, tt⟩, tn⟩, vo, di⟩).2)], [])
  | _, _ => none
def Γ_gate_GiveUp : Ctx := [(n_gate_up, c_gate_up), (n_gate_of, c_gate_of), (n_gate_Copy, c_gate_Copy), (n_gate_note, c_gate_note)]
theorem ok_gate_GiveUp : Ok Tryz.prog tab Γ_gate_GiveUp := ((((ok_nil.consC hf_gate_note hB_gate_note sound_gate_note).consC hf_gate_Copy hB_gate_Copy sound_gate_Copy).consC hf_gate_of hB_gate_of sound_gate_of).consC hf_gate_up hB_gate_up sound_gate_up)
theorem gate_GiveUp_vc (ws : List Int) (fu : Int) (up : Bool) (tv : Int) (tk : List Int) (tt : Int) (tn : Int) (vo : List Bool) (di : List Bool) (rec : RK) (K : KK) v0 (hv0 : v0 = (upG ⟨⟨ws, fu⟩, up, ⟨⟨tv, tk, tt⟩, tn⟩, vo, di⟩)) v1 (hv1 : v1 = (ofG ⟨ws, fu⟩)) v2 (hv2 : v2 = (noteG ⟨⟨ws, fu⟩, up, ⟨⟨tv, tk, tt⟩, tn⟩, vo, di⟩ ((3 : Int) :: (v1.n :: [])))) v3 (hv3 : v3 = (K (.tup [.agg [dL [], dI (0 : Int), dB false, dI (0 : Int), dL [], dI (0 : Int), dI (0 : Int), dLb [], dLb []], .one (dI (12 : Int))]) [])) : segD Γ_gate_GiveUp tab fn_gate_GiveUp 0 K rec [.code (bodyOf fn_gate_GiveUp)] (initSt [.agg [dL ws, dI fu, dB up, dI tv, dL tk, dI tt, dI tn, dLb vo, dLb di]] []) = (
 br (!(eqi v0 (0 : Int)))
 (K (.tup [.agg [dL [], dI (0 : Int), dB false, dI (0 : Int), dL [], dI (0 : Int), dI (0 : Int), dLb [], dLb []], .one (dI v0)]) [])
 (br (eqi v1.n (0 : Int))
 v3
 (br v1.commit
 v3
 (br v1.abort
 v3
 (((((len ws) * 8) ≤ 140737488355328) ∧ ((((len tk) * 8) ≤ 140737488355328) ∧ (((len vo) ≤ 1000) ∧ ((len di) ≤ 1000)))) ∧
 (((List.length ((3 : Int) :: (v1.n :: []))) ≤ 140737488355328) ∧
 (K (.tup [.agg [dL v2.fst.f.words, dI v2.fst.f.fuel, dB v2.fst.up, dI v2.fst.t.r.version, dL v2.fst.t.r.keys, dI v2.fst.t.r.thr, dI v2.fst.t.version, dLb v2.fst.voted, dLb v2.fst.did], .one (dI (0 : Int))]) []))))))) := by subst_vars; kernel_rfl
theorem gate_GiveUp_w (m : Nat) (K : KK) (st : St) : goD Γ_gate_GiveUp tab fn_gate_GiveUp 0 K (m + 1) [.code (bodyOf fn_gate_GiveUp)] st = segD Γ_gate_GiveUp tab fn_gate_GiveUp 0 K (goD Γ_gate_GiveUp tab fn_gate_GiveUp 0 K m) [.code (bodyOf fn_gate_GiveUp)] st := rfl

set_option maxHeartbeats 4000000 in
theorem run_gate_GiveUp (ws : List Int) (fu : Int) (up : Bool) (tv : Int) (tk : List Int) (tt tn : Int) (vo di : List Bool) (K : KK) (hK : K (.tup [.agg [dL (giveG ⟨⟨ws, fu⟩, up, ⟨⟨tv, tk, tt⟩, tn⟩, vo, di⟩).1.f.words, dI (giveG ⟨⟨ws, fu⟩, up, ⟨⟨tv, tk, tt⟩, tn⟩, vo, di⟩).1.f.fuel, dB (giveG ⟨⟨ws, fu⟩, up, ⟨⟨tv, tk, tt⟩, tn⟩, vo, di⟩).1.up, dI (giveG ⟨⟨ws, fu⟩, up, ⟨⟨tv, tk, tt⟩, tn⟩, vo, di⟩).1.t.r.version, dL (giveG ⟨⟨ws, fu⟩, up, ⟨⟨tv, tk, tt⟩, tn⟩, vo, di⟩).1.t.r.keys, dI (giveG ⟨⟨ws, fu⟩, up, ⟨⟨tv, tk, tt⟩, tn⟩, vo, di⟩).1.t.r.thr, dI (giveG ⟨⟨ws, fu⟩, up, ⟨⟨tv, tk, tt⟩, tn⟩, vo, di⟩).1.t.version, dLb (giveG ⟨⟨ws, fu⟩, up, ⟨⟨tv, tk, tt⟩, tn⟩, vo, di⟩).1.voted, dLb (giveG ⟨⟨ws, fu⟩, up, ⟨⟨tv, tk, tt⟩, tn⟩, vo, di⟩).1.did], .one (dI (giveG ⟨⟨ws, fu⟩, up, ⟨⟨tv, tk, tt⟩, tn⟩, vo, di⟩).2)]) []) : ∃ m, goD Γ_gate_GiveUp tab fn_gate_GiveUp 0 K m [.code (bodyOf fn_gate_GiveUp)] (initSt [.agg [dL ws, dI fu, dB up, dI tv, dL tk, dI tt, dI tn, dLb vo, dLb di]] []) := by
  refine ⟨1, ?_⟩
  rw [gate_GiveUp_w, gate_GiveUp_vc _ _ _ _ _ _ _ _ _ _ _ _ rfl _ rfl _ rfl _ rfl]
  unfold giveG giveE at hK
  simp only at hK
  obtain ⟨s, hs⟩ : ∃ s, ofG ⟨ws, fu⟩ = s := ⟨_, rfl⟩
  rw [hs] at hK ⊢
  refine ne_s (fun h => ?_) (fun h => ?_)
  · rw [if_neg h, if_neg h] at hK; exact hK
  have hc : checkG ⟨⟨ws, fu⟩, up, ⟨⟨tv, tk, tt⟩, tn⟩, vo, di⟩ = 0 := upG_check h
  obtain ⟨s1, s2, s3, s4⟩ := checkG_sm hc
  rw [if_pos h] at hK
  by_cases c : s.n = 0 ∨ s.commit = true ∨ s.abort = true
  · rw [if_pos c, if_neg (by omega)] at hK
    refine eq_s (fun _ => hK) (fun c1 => br_split (fun _ => hK) (fun c2 => br_split (fun _ => hK) (fun c3 => ?_)))
    rw [c2, c3] at c
    simp [c1] at c
  · rw [if_neg c, if_pos rfl] at hK
    simp only [not_or, Bool.not_eq_true] at c
    exact eq_f c.1 (br_f c.2.1 (br_f c.2.2 ⟨⟨s1, s2, s3, s4⟩, by simp, hK⟩))
theorem sound_gate_GiveUp : SoundC Tryz.prog tab n_gate_GiveUp c_gate_GiveUp := soundC_of ok_gate_GiveUp hf_gate_GiveUp hB_gate_GiveUp (by
  intro vs bs p v bs' h hp
  unfold c_gate_GiveUp at h
  split at h
  · cases h
    exact ⟨by kernel_rfl, rfl, .inl (run_gate_GiveUp _ _ _ _ _ _ _ _ _ _ ⟨rfl, rfl⟩)⟩
  · cases h)

def c_gate_Boot : Contract := fun vs bs => match vs, bs with
  | [.agg [.dat (.list .int) ws, .dat .int fu, .dat .bool up, .dat .int tv, .dat (.list .int) tk, .dat .int tt, .dat .int tn, .dat (.list .bool) vo, .dat (.list .bool) di]], [] => some (none, .tup [.agg [.dat (.list .int) (bootG ⟨⟨ws, fu⟩, up, ⟨⟨tv, tk, tt⟩, tn⟩, vo, di⟩).1.f.words, .dat .int (bootG ⟨⟨ws, fu⟩, up, ⟨⟨tv, tk, tt⟩, tn⟩, vo, di⟩).1.f.fuel, .dat .bool (bootG ⟨⟨ws, fu⟩, up, ⟨⟨tv, tk, tt⟩, tn⟩, vo, di⟩).1.up, .dat .int (bootG ⟨⟨ws, fu⟩, up, ⟨⟨tv, tk, tt⟩, tn⟩, vo, di⟩).1.t.r.version, .dat (.list .int) (bootG ⟨⟨ws, fu⟩, up, ⟨⟨tv, tk, tt⟩, tn⟩, vo, di⟩).1.t.r.keys, .dat .int (bootG ⟨⟨ws, fu⟩, up, ⟨⟨tv, tk, tt⟩, tn⟩, vo, di⟩).1.t.r.thr, .dat .int (bootG ⟨⟨ws, fu⟩, up, ⟨⟨tv, tk, tt⟩, tn⟩, vo, di⟩).1.t.version, .dat (.list .bool) (bootG ⟨⟨ws, fu⟩, up, ⟨⟨tv, tk, tt⟩, tn⟩, vo, di⟩).1.voted, .dat (.list .bool) (bootG ⟨⟨ws, fu⟩, up, ⟨⟨tv, tk, tt⟩, tn⟩, vo, di⟩).1.did], .one (.dat .int (bootG ⟨⟨ws, fu⟩, up, ⟨⟨tv, tk, tt⟩, tn⟩, vo, di⟩).2)], [])
  | _, _ => none
def Γ_gate_Boot : Ctx := [(n_gate_Check, c_gate_Check), (n_gate_Copy, c_gate_Copy), (n_gate_forget, c_gate_forget)]
theorem ok_gate_Boot : Ok Tryz.prog tab Γ_gate_Boot := (((ok_nil.consC hf_gate_forget hB_gate_forget sound_gate_forget).consC hf_gate_Copy hB_gate_Copy sound_gate_Copy).consC hf_gate_Check hB_gate_Check sound_gate_Check)
theorem gate_Boot_vc (ws : List Int) (fu : Int) (up : Bool) (tv : Int) (tk : List Int) (tt : Int) (tn : Int) (vo : List Bool) (di : List Bool) (rec : RK) (K : KK) v0 (hv0 : v0 = (checkG ⟨⟨ws, fu⟩, up, ⟨⟨tv, tk, tt⟩, tn⟩, vo, di⟩)) : segD Γ_gate_Boot tab fn_gate_Boot 0 K rec [.code (bodyOf fn_gate_Boot)] (initSt [.agg [dL ws, dI fu, dB up, dI tv, dL tk, dI tt, dI tn, dLb vo, dLb di]] []) = (
 br (!(eqi v0 (0 : Int)))
 (K (.tup [.agg [dL [], dI (0 : Int), dB false, dI (0 : Int), dL [], dI (0 : Int), dI (0 : Int), dLb [], dLb []], .one (dI v0)]) [])
 (((((len ws) * 8) ≤ 140737488355328) ∧ ((((len tk) * 8) ≤ 140737488355328) ∧ (((len vo) ≤ 1000) ∧ ((len di) ≤ 1000)))) ∧
 (K (.tup [.agg [dL ws, dI (-(1 : Int)), dB true, dI tv, dL tk, dI tt, dI tn, dLb (zeros (List.length vo) false), dLb (zeros (List.length di) false)], .one (dI (0 : Int))]) []))) := by subst_vars; kernel_rfl
theorem gate_Boot_w (m : Nat) (K : KK) (st : St) : goD Γ_gate_Boot tab fn_gate_Boot 0 K (m + 1) [.code (bodyOf fn_gate_Boot)] st = segD Γ_gate_Boot tab fn_gate_Boot 0 K (goD Γ_gate_Boot tab fn_gate_Boot 0 K m) [.code (bodyOf fn_gate_Boot)] st := rfl

set_option maxHeartbeats 4000000 in
theorem run_gate_Boot (ws : List Int) (fu : Int) (up : Bool) (tv : Int) (tk : List Int) (tt tn : Int) (vo di : List Bool) (K : KK) (hK : K (.tup [.agg [dL (bootG ⟨⟨ws, fu⟩, up, ⟨⟨tv, tk, tt⟩, tn⟩, vo, di⟩).1.f.words, dI (bootG ⟨⟨ws, fu⟩, up, ⟨⟨tv, tk, tt⟩, tn⟩, vo, di⟩).1.f.fuel, dB (bootG ⟨⟨ws, fu⟩, up, ⟨⟨tv, tk, tt⟩, tn⟩, vo, di⟩).1.up, dI (bootG ⟨⟨ws, fu⟩, up, ⟨⟨tv, tk, tt⟩, tn⟩, vo, di⟩).1.t.r.version, dL (bootG ⟨⟨ws, fu⟩, up, ⟨⟨tv, tk, tt⟩, tn⟩, vo, di⟩).1.t.r.keys, dI (bootG ⟨⟨ws, fu⟩, up, ⟨⟨tv, tk, tt⟩, tn⟩, vo, di⟩).1.t.r.thr, dI (bootG ⟨⟨ws, fu⟩, up, ⟨⟨tv, tk, tt⟩, tn⟩, vo, di⟩).1.t.version, dLb (bootG ⟨⟨ws, fu⟩, up, ⟨⟨tv, tk, tt⟩, tn⟩, vo, di⟩).1.voted, dLb (bootG ⟨⟨ws, fu⟩, up, ⟨⟨tv, tk, tt⟩, tn⟩, vo, di⟩).1.did], .one (dI (bootG ⟨⟨ws, fu⟩, up, ⟨⟨tv, tk, tt⟩, tn⟩, vo, di⟩).2)]) []) : ∃ m, goD Γ_gate_Boot tab fn_gate_Boot 0 K m [.code (bodyOf fn_gate_Boot)] (initSt [.agg [dL ws, dI fu, dB up, dI tv, dL tk, dI tt, dI tn, dLb vo, dLb di]] []) := by
  refine ⟨1, ?_⟩
  rw [gate_Boot_w, gate_Boot_vc _ _ _ _ _ _ _ _ _ _ _ _ rfl]
  unfold bootG at hK
  refine ne_s (fun h => ?_) (fun h => ?_)
  · rw [if_neg h] at hK; exact hK
  · rw [if_pos h] at hK
    obtain ⟨s1, s2, s3, s4⟩ := checkG_sm h
    exact ⟨⟨s1, s2, s3, s4⟩, hK⟩
theorem sound_gate_Boot : SoundC Tryz.prog tab n_gate_Boot c_gate_Boot := soundC_of ok_gate_Boot hf_gate_Boot hB_gate_Boot (by
  intro vs bs p v bs' h hp
  unfold c_gate_Boot at h
  split at h
  · cases h
    exact ⟨by kernel_rfl, rfl, .inl (run_gate_Boot _ _ _ _ _ _ _ _ _ _ ⟨rfl, rfl⟩)⟩
  · cases h)

def c_gate_Read : Contract := fun vs bs => match vs, bs with
  | [.agg [.dat (.list .int) ws, .dat .int fu, .dat .bool up, .dat .int tv, .dat (.list .int) tk, .dat .int tt, .dat .int tn, .dat (.list .bool) vo, .dat (.list .bool) di]], [] => some (none, .tup [.agg [.dat .int (readG ⟨⟨ws, fu⟩, up, ⟨⟨tv, tk, tt⟩, tn⟩, vo, di⟩).1.n, .dat .int (readG ⟨⟨ws, fu⟩, up, ⟨⟨tv, tk, tt⟩, tn⟩, vo, di⟩).1.version, .dat .bool (readG ⟨⟨ws, fu⟩, up, ⟨⟨tv, tk, tt⟩, tn⟩, vo, di⟩).1.commit, .dat .bool (readG ⟨⟨ws, fu⟩, up, ⟨⟨tv, tk, tt⟩, tn⟩, vo, di⟩).1.abort, .dat .bool (readG ⟨⟨ws, fu⟩, up, ⟨⟨tv, tk, tt⟩, tn⟩, vo, di⟩).1.ended], .one (.dat .int (readG ⟨⟨ws, fu⟩, up, ⟨⟨tv, tk, tt⟩, tn⟩, vo, di⟩).2)], [])
  | _, _ => none
def Γ_gate_Read : Ctx := [(n_gate_Check, c_gate_Check), (n_gate_of, c_gate_of)]
theorem ok_gate_Read : Ok Tryz.prog tab Γ_gate_Read := ((ok_nil.consC hf_gate_of hB_gate_of sound_gate_of).consC hf_gate_Check hB_gate_Check sound_gate_Check)
theorem gate_Read_vc (ws : List Int) (fu : Int) (up : Bool) (tv : Int) (tk : List Int) (tt : Int) (tn : Int) (vo : List Bool) (di : List Bool) (rec : RK) (K : KK) v0 (hv0 : v0 = (checkG ⟨⟨ws, fu⟩, up, ⟨⟨tv, tk, tt⟩, tn⟩, vo, di⟩)) v1 (hv1 : v1 = (ofG ⟨ws, fu⟩)) : segD Γ_gate_Read tab fn_gate_Read 0 K rec [.code (bodyOf fn_gate_Read)] (initSt [.agg [dL ws, dI fu, dB up, dI tv, dL tk, dI tt, dI tn, dLb vo, dLb di]] []) = (
 br (!(eqi v0 (0 : Int)))
 (K (.tup [.agg [dI (0 : Int), dI (0 : Int), dB false, dB false, dB false], .one (dI v0)]) [])
 (K (.tup [.agg [dI v1.n, dI v1.version, dB v1.commit, dB v1.abort, dB v1.ended], .one (dI (0 : Int))]) [])) := by subst_vars; kernel_rfl
theorem gate_Read_w (m : Nat) (K : KK) (st : St) : goD Γ_gate_Read tab fn_gate_Read 0 K (m + 1) [.code (bodyOf fn_gate_Read)] st = segD Γ_gate_Read tab fn_gate_Read 0 K (goD Γ_gate_Read tab fn_gate_Read 0 K m) [.code (bodyOf fn_gate_Read)] st := rfl

set_option maxHeartbeats 4000000 in
theorem run_gate_Read (ws : List Int) (fu : Int) (up : Bool) (tv : Int) (tk : List Int) (tt tn : Int) (vo di : List Bool) (K : KK) (hK : K (.tup [.agg [dI (readG ⟨⟨ws, fu⟩, up, ⟨⟨tv, tk, tt⟩, tn⟩, vo, di⟩).1.n, dI (readG ⟨⟨ws, fu⟩, up, ⟨⟨tv, tk, tt⟩, tn⟩, vo, di⟩).1.version, dB (readG ⟨⟨ws, fu⟩, up, ⟨⟨tv, tk, tt⟩, tn⟩, vo, di⟩).1.commit, dB (readG ⟨⟨ws, fu⟩, up, ⟨⟨tv, tk, tt⟩, tn⟩, vo, di⟩).1.abort, dB (readG ⟨⟨ws, fu⟩, up, ⟨⟨tv, tk, tt⟩, tn⟩, vo, di⟩).1.ended], .one (dI (readG ⟨⟨ws, fu⟩, up, ⟨⟨tv, tk, tt⟩, tn⟩, vo, di⟩).2)]) []) : ∃ m, goD Γ_gate_Read tab fn_gate_Read 0 K m [.code (bodyOf fn_gate_Read)] (initSt [.agg [dL ws, dI fu, dB up, dI tv, dL tk, dI tt, dI tn, dLb vo, dLb di]] []) := by
  refine ⟨1, ?_⟩
  rw [gate_Read_w, gate_Read_vc _ _ _ _ _ _ _ _ _ _ _ _ rfl _ rfl]
  unfold readG at hK
  refine ne_s (fun h => ?_) (fun h => ?_)
  · rw [if_neg h] at hK; exact hK
  · rw [if_pos h] at hK; exact hK
theorem sound_gate_Read : SoundC Tryz.prog tab n_gate_Read c_gate_Read := soundC_of ok_gate_Read hf_gate_Read hB_gate_Read (by
  intro vs bs p v bs' h hp
  unfold c_gate_Read at h
  split at h
  · cases h
    exact ⟨by kernel_rfl, rfl, .inl (run_gate_Read _ _ _ _ _ _ _ _ _ _ ⟨rfl, rfl⟩)⟩
  · cases h)

def c_slices_Repeat_Lint : Contract := fun vs bs => match vs, bs with
  | [.one (.dat (.list .int) [x]), .one (.dat .int n)], [] => some (some (0 ≤ n ∧ n ≤ 1000000), .one (.dat (.list .int) (zeros n.toNat x)), [])
  | _, _ => none
def Γ_slices_Repeat_Lint : Ctx := [(n_math_bits_Mul, c_math_bits_Mul)]
theorem ok_slices_Repeat_Lint : Ok Tryz.prog tab Γ_slices_Repeat_Lint := (ok_nil.consC hf_math_bits_Mul hB_math_bits_Mul sound_math_bits_Mul)
noncomputable def slices_Repeat_Lint_L0 : List It := [.inLoop [8, 7, 4] (Code.sub (bodyOf fn_slices_Repeat_Lint) [1, 1, 1, 1, 1, 1, 0, 0, 0]), .inBlock 0, .code (Code.sub (bodyOf fn_slices_Repeat_Lint) [1, 1, 1, 1, 1, 1, 1])]
def slices_Repeat_Lint_S0 (x0 : Int) (x1 : (List Int)) (x2 : (List Int)) : St := ⟨[(8, .one (dI x0)), (7, .one (.own 0)), (4, .one (.own 1))], [(0, .arr Ty.int x1), (1, .arr Ty.int x2)], 2⟩
theorem slices_Repeat_Lint_vc (x : Int) (n : Int) (rec : RK) (K : KK) v0 (hv0 : v0 = (u64w (((len (x :: [])) : Nat) : Int))) v1 (hv1 : v1 = (inU64 v0)) v2 (hv2 : v2 = (u64w n)) v3 (hv3 : v3 = (inU64 v2)) : segD Γ_slices_Repeat_Lint tab fn_slices_Repeat_Lint 0 K rec [.code (bodyOf fn_slices_Repeat_Lint)] (initSt [.one (dL (x :: [])), .one (dI n)] []) = (
 br (lti n (0 : Int))
 (False)
 (((v1 = true) ∧ (v3 = true)) ∧
 (br (lti (0 : Int) ((v0 * v2) / two64))
 (False)
 (br (lti (9223372036854775807 : Int) ((v0 * v2) % two64))
 (False)
 ((((0 : Int) ≤ (w64 ((v0 * v2) % two64))) ∧ ((((w64 ((v0 * v2) % two64)) * ((8 : Nat) : Int)) ≤ (140737488355328 : Int)) ∧ ((w64 ((v0 * v2) % two64)) ≤ (140737488355328 : Int)))) ∧
 (rec slices_Repeat_Lint_L0 (slices_Repeat_Lint_S0 (((min (len (zeros (Int.toNat (w64 ((v0 * v2) % two64))) (Ty.dflt Ty.int))) (len (x :: []))) : Nat) : Int) (put (zeros (Int.toNat (w64 ((v0 * v2) % two64))) (Ty.dflt Ty.int)) 0 (slc (x :: []) 0 (min (len (zeros (Int.toNat (w64 ((v0 * v2) % two64))) (Ty.dflt Ty.int))) (len (x :: []))))) []))))))) := by subst_vars; kernel_rfl
theorem slices_Repeat_Lint_w (m : Nat) (K : KK) (st : St) : goD Γ_slices_Repeat_Lint tab fn_slices_Repeat_Lint 0 K (m + 1) [.code (bodyOf fn_slices_Repeat_Lint)] st = segD Γ_slices_Repeat_Lint tab fn_slices_Repeat_Lint 0 K (goD Γ_slices_Repeat_Lint tab fn_slices_Repeat_Lint 0 K m) [.code (bodyOf fn_slices_Repeat_Lint)] st := rfl
theorem slices_Repeat_Lint_vc0 (x0 : Int) (x1 : (List Int)) (x2 : (List Int)) (rec : RK) (K : KK) : segD Γ_slices_Repeat_Lint tab fn_slices_Repeat_Lint 0 K rec (.code (Code.sub (bodyOf fn_slices_Repeat_Lint) [1, 1, 1, 1, 1, 1, 0, 0, 0]) :: slices_Repeat_Lint_L0) (slices_Repeat_Lint_S0 x0 x1 x2) = (
 br (lti x0 (((len x1) : Nat) : Int))
 ((((0 : Int) ≤ x0) ∧ ((x0 ≤ (((len x1) : Nat) : Int)) ∧ ((((len x1) : Nat) : Int) ≤ (((len x1) : Nat) : Int)))) ∧
 ((((0 : Int) ≤ (0 : Int)) ∧ (((0 : Int) ≤ x0) ∧ (x0 ≤ (((len x1) : Nat) : Int)))) ∧
 (((((Int.toNat (0 : Int)) + (Int.toNat (x0 - (0 : Int)))) ≤ (len x1)) ∧ (((Int.toNat x0) + (Int.toNat ((((len x1) : Nat) : Int) - x0))) ≤ (len x1))) ∧
 (rec slices_Repeat_Lint_L0 (slices_Repeat_Lint_S0 (w64 (x0 + (((min (Int.toNat ((((len x1) : Nat) : Int) - x0)) (len (slc x1 (Int.toNat (0 : Int)) ((Int.toNat (0 : Int)) + (Int.toNat (x0 - (0 : Int))))))) : Nat) : Int))) (put x1 (Int.toNat x0) (slc (slc x1 (Int.toNat (0 : Int)) ((Int.toNat (0 : Int)) + (Int.toNat (x0 - (0 : Int))))) 0 (min (Int.toNat ((((len x1) : Nat) : Int) - x0)) (len (slc x1 (Int.toNat (0 : Int)) ((Int.toNat (0 : Int)) + (Int.toNat (x0 - (0 : Int))))))))) x2)))))
 (K (.one (dL x1)) [])) := by kernel_rfl
theorem slices_Repeat_Lint_w0 (m : Nat) (K : KK) (st : St) : goD Γ_slices_Repeat_Lint tab fn_slices_Repeat_Lint 0 K (m + 1) slices_Repeat_Lint_L0 st = segD Γ_slices_Repeat_Lint tab fn_slices_Repeat_Lint 0 K (goD Γ_slices_Repeat_Lint tab fn_slices_Repeat_Lint 0 K m) (.code (Code.sub (bodyOf fn_slices_Repeat_Lint) [1, 1, 1, 1, 1, 1, 0, 0, 0]) :: slices_Repeat_Lint_L0) st := rfl

theorem u64w_id {n : Int} (h1 : 0 ≤ n) (h2 : n < 18446744073709551616) : u64w n = n := by
  unfold u64w; rw [IntKind.wrap_u64]; omega
theorem inU64_of {n : Int} (h1 : 0 ≤ n) (h2 : n < 18446744073709551616) : inU64 n = true := by simp [inU64, h1, h2]
theorem put_rep (x : Int) (n k j : Nat) : put (List.replicate k x ++ List.replicate (n - k) 0) k (List.replicate j x) = List.replicate (k + j) x ++ List.replicate (n - (k + j)) 0 := by
  unfold put
  rw [List.take_left' (by simp), List.length_replicate]
  rw [show List.drop (k + j) (List.replicate k x ++ List.replicate (n - k) (0 : Int)) = List.replicate (n - (k + j)) 0 from by
    rw [List.drop_append, List.drop_of_length_le (by simp)]
    simp
    omega]
  rw [List.replicate_append_replicate]
theorem loop_slices_Repeat_Lint (x : Int) (n : Nat) (hn : n ≤ 1000000) (K : KK) (hK : K (.one (dL (zeros n x))) []) : ∀ (d k : Nat), n ≤ k + d → k ≤ n → (0 < n → 0 < k) →
    goD Γ_slices_Repeat_Lint tab fn_slices_Repeat_Lint 0 K (d + 1) slices_Repeat_Lint_L0 (slices_Repeat_Lint_S0 (k : Int) (List.replicate k x ++ List.replicate (n - k) 0) [])
  | 0, k, hd, hk, hp => by
    rw [slices_Repeat_Lint_w0, slices_Repeat_Lint_vc0 _ _ _ _ _]
    have e : k = n := by omega
    subst e
    refine lt_f (by simp [len]) ?_
    simpa [zeros] using hK
  | d + 1, k, hd, hk, hp => by
    rw [slices_Repeat_Lint_w0, slices_Repeat_Lint_vc0 _ _ _ _ _]
    have hl : len (List.replicate k x ++ List.replicate (n - k) (0 : Int)) = n := by simp [len]; omega
    rw [hl]
    by_cases c : k < n
    · refine lt_t (by omega) ⟨⟨by omega, by omega, by omega⟩, ⟨by omega, by omega, by omega⟩, ⟨by omega, by omega⟩, ?_⟩
      have e1 : slc (List.replicate k x ++ List.replicate (n - k) (0 : Int)) (Int.toNat 0) (Int.toNat 0 + Int.toNat ((k : Int) - 0)) = List.replicate k x := by
        rw [show Int.toNat 0 + Int.toNat ((k : Int) - 0) = k by omega]
        unfold slc
        rw [List.take_left' (by simp)]
        simp
      rw [e1]
      have e2 : len (List.replicate k x) = k := by simp [len]
      rw [e2]
      generalize hj : min (Int.toNat ((n : Int) - (k : Int))) k = j
      have hj' : j = min (n - k) k := by omega
      have e3 : slc (List.replicate k x) 0 j = List.replicate j x := by
        unfold slc
        rw [List.take_replicate]
        simp
        omega
      rw [e3, toNat_nat, put_rep x n k j, w64_id (by omega) (by omega), show (k : Int) + (j : Int) = ((k + j : Nat) : Int) by omega]
      exact loop_slices_Repeat_Lint x n hn K hK d (k + j) (by have := hp (by omega); omega) (by omega) (fun h => by have := hp h; omega)
    · have e : k = n := by omega
      subst e
      refine lt_f (by omega) ?_
      simpa [zeros] using hK
set_option maxHeartbeats 4000000 in
theorem run_slices_Repeat_Lint (x n : Int) (hp : 0 ≤ n ∧ n ≤ 1000000) (K : KK) (hK : K (.one (dL (zeros n.toNat x))) []) : ∃ m, goD Γ_slices_Repeat_Lint tab fn_slices_Repeat_Lint 0 K m [.code (bodyOf fn_slices_Repeat_Lint)] (initSt [.one (dL [x]), .one (dI n)] []) := by
  obtain ⟨h1, h2⟩ := hp
  refine ⟨n.toNat + 2, ?_⟩
  rw [slices_Repeat_Lint_w, slices_Repeat_Lint_vc _ _ _ _ _ rfl _ rfl _ rfl _ rfl]
  have e1 : u64w (((len (x :: [])) : Nat) : Int) = 1 := by simp only [len, List.length_cons, List.length_nil]; exact u64w_id (by omega) (by omega)
  rw [e1, u64w_id (n := n) h1 (by omega), Int.one_mul]
  have e2 : n / two64 = 0 := by unfold two64; omega
  have e3 : n % two64 = n := by unfold two64; omega
  rw [e2, e3, w64_id (by omega) (by omega)]
  refine lt_f h1 ⟨⟨inU64_of (by omega) (by omega), inU64_of h1 (by omega)⟩, lt_f (by omega) (lt_f (by omega) ⟨⟨h1, by omega, by omega⟩, ?_⟩)⟩
  obtain ⟨k, rfl⟩ := Int.eq_ofNat_of_zero_le h1
  rw [toNat_nat] at hK ⊢
  have e4 : len (zeros k (Ty.dflt Ty.int)) = k := by simp [len, zeros]
  rw [e4]
  have := loop_slices_Repeat_Lint x k (by omega) K hK k (min k 1) (by omega) (by omega) (by omega)
  have e5 : put (zeros k (Ty.dflt Ty.int)) 0 (slc (x :: []) 0 (min k (len (x :: [])))) = List.replicate (min k 1) x ++ List.replicate (k - min k 1) 0 := by
    have h := put_rep x k 0 (min k 1)
    rw [Nat.zero_add] at h
    rw [← h]
    have : slc (x :: []) 0 (min k (len (x :: []))) = List.replicate (min k 1) x := by
      simp only [len, List.length_cons, List.length_nil, slc]
      cases k with
      | zero => simp
      | succ k => rw [show min (k + 1) (0 + 1) = 1 by omega]; rfl
    rw [this]
    rfl
  rw [e5, show min k (len (x :: [])) = min k 1 from rfl]
  exact this
theorem sound_slices_Repeat_Lint : SoundC Tryz.prog tab n_slices_Repeat_Lint c_slices_Repeat_Lint := soundC_of ok_slices_Repeat_Lint hf_slices_Repeat_Lint hB_slices_Repeat_Lint (by
  intro vs bs p v bs' h hp
  unfold c_slices_Repeat_Lint at h
  split at h
  · cases h
    exact ⟨by kernel_rfl, rfl, .inl (run_slices_Repeat_Lint _ _ hp.1 _ ⟨rfl, rfl⟩)⟩
  · cases h)

def c_flash_New : Contract := fun vs bs => match vs, bs with
  | [.one (.dat .int n)], [] => some (none, .tup [.agg [.dat (.list .int) (newFlash n).1.words, .dat .int (newFlash n).1.fuel], .one (.dat .int (newFlash n).2)], [])
  | _, _ => none
def Γ_flash_New : Ctx := [(n_slices_Repeat_Lint, c_slices_Repeat_Lint)]
theorem ok_flash_New : Ok Tryz.prog tab Γ_flash_New := (ok_nil.consC hf_slices_Repeat_Lint hB_slices_Repeat_Lint sound_slices_Repeat_Lint)
theorem flash_New_vc (n : Int) (rec : RK) (K : KK) v0 (hv0 : v0 = (K (.tup [.agg [dL [], dI (0 : Int)], .one (dI (3 : Int))]) [])) : segD Γ_flash_New tab fn_flash_New 0 K rec [.code (bodyOf fn_flash_New)] (initSt [.one (dI n)] []) = (
 br (lti n (1 : Int))
 v0
 (br (lti (6 : Int) n)
 v0
 ((((0 : Int) ≤ (w64 (n * (32 : Int)))) ∧ ((w64 (n * (32 : Int))) ≤ (1000000 : Int))) ∧
 (K (.tup [.agg [dL (zeros (Int.toNat (w64 (n * (32 : Int)))) (65535 : Int)), dI (-(1 : Int))], .one (dI (0 : Int))]) [])))) := by subst_vars; kernel_rfl
theorem flash_New_w (m : Nat) (K : KK) (st : St) : goD Γ_flash_New tab fn_flash_New 0 K (m + 1) [.code (bodyOf fn_flash_New)] st = segD Γ_flash_New tab fn_flash_New 0 K (goD Γ_flash_New tab fn_flash_New 0 K m) [.code (bodyOf fn_flash_New)] st := rfl

set_option maxHeartbeats 4000000 in
theorem run_flash_New (n : Int) (K : KK) (hK : K (.tup [.agg [dL (newFlash n).1.words, dI (newFlash n).1.fuel], .one (dI (newFlash n).2)]) []) : ∃ m, goD Γ_flash_New tab fn_flash_New 0 K m [.code (bodyOf fn_flash_New)] (initSt [.one (dI n)] []) := by
  refine ⟨1, ?_⟩
  rw [flash_New_w, flash_New_vc _ _ _ _ rfl]
  unfold newFlash at hK
  refine lt_s (fun h => ?_) (fun h => lt_s (fun h2 => ?_) (fun h2 => ?_))
  · rw [if_neg (by omega)] at hK; exact hK
  · rw [if_neg (by omega)] at hK; exact hK
  · rw [if_pos ⟨h, h2⟩] at hK
    rw [w64_id (by omega) (by omega)]
    exact ⟨⟨by omega, by omega⟩, hK⟩
theorem sound_flash_New : SoundC Tryz.prog tab n_flash_New c_flash_New := soundC_of ok_flash_New hf_flash_New hB_flash_New (by
  intro vs bs p v bs' h hp
  unfold c_flash_New at h
  split at h
  · cases h
    exact ⟨by kernel_rfl, rfl, .inl (run_flash_New _ _ ⟨rfl, rfl⟩)⟩
  · cases h)

def c_log_Format : Contract := fun vs bs => match vs, bs with
  | [.agg [.dat (.list .int) ws, .dat .int fu]], [] => some (none, .tup [.agg [.dat (.list .int) (formatF ⟨ws, fu⟩).1.words, .dat .int (formatF ⟨ws, fu⟩).1.fuel], .one (.dat .int (formatF ⟨ws, fu⟩).2)], [])
  | _, _ => none
def Γ_log_Format : Ctx := [(n_flash_Check, c_flash_Check), (n_flash_Copy, c_flash_Copy), (n_flash_Wipe, c_flash_Wipe), (n_flash_Burn, (orC c_flash_Burn c_flash_Burn_b))]
theorem ok_log_Format : Ok Tryz.prog tab Γ_log_Format := ((((ok_nil.consC hf_flash_Burn hB_flash_Burn (soundC_or sound_flash_Burn sound_flash_Burn_b)).consC hf_flash_Wipe hB_flash_Wipe sound_flash_Wipe).consC hf_flash_Copy hB_flash_Copy sound_flash_Copy).consC hf_flash_Check hB_flash_Check sound_flash_Check)
theorem log_Format_vc (ws : List Int) (fu : Int) (rec : RK) (K : KK) v0 (hv0 : v0 = (checkFlash (⟨ws, fu⟩ : Flash))) v1 (hv1 : v1 = (wipeCh (1 : Int))) v2 (hv2 : v2 = (doCh (⟨ws, fu⟩ : Flash) v1)) v3 (hv3 : v3 = (wipeCh (0 : Int))) v4 (hv4 : v4 = (doCh (⟨v2.fst.words, v2.fst.fuel⟩ : Flash) v3)) v5 (hv5 : v5 = (burnCh (0 : Int) ((1 : Int) :: []))) v6 (hv6 : v6 = (doCh (⟨v4.fst.words, v4.fst.fuel⟩ : Flash) v5)) : segD Γ_log_Format tab fn_log_Format 0 K rec [.code (bodyOf fn_log_Format)] (initSt [.agg [dL ws, dI fu]] []) = (
 br (!(eqi v0 (0 : Int)))
 (K (.tup [.agg [dL [], dI (0 : Int)], .one (dI v0)]) [])
 (br (lti (((len ws) : Nat) : Int) (64 : Int))
 (K (.tup [.agg [dL [], dI (0 : Int)], .one (dI (4 : Int))]) [])
 ((((len ws) * 8) ≤ 140737488355328) ∧
 ((((-(1 : Int)) ≤ fu) ∧ ((fu ≤ (100000 : Int)) ∧ (((0 : Int) ≤ (1 : Int)) ∧ (((((1 : Int) + (1 : Int)) * (32 : Int)) ≤ (((len ws) : Nat) : Int)) ∧ ((len ws) ≤ 192))))) ∧
 (br (!v2.snd)
 (K (.tup [.agg [dL v2.fst.words, dI v2.fst.fuel], .one (dI (7 : Int))]) [])
 ((((-(1 : Int)) ≤ v2.fst.fuel) ∧ ((v2.fst.fuel ≤ (100000 : Int)) ∧ (((0 : Int) ≤ (0 : Int)) ∧ (((((0 : Int) + (1 : Int)) * (32 : Int)) ≤ (((len v2.fst.words) : Nat) : Int)) ∧ ((len v2.fst.words) ≤ 192))))) ∧
 (br (!v4.snd)
 (K (.tup [.agg [dL v4.fst.words, dI v4.fst.fuel], .one (dI (7 : Int))]) [])
 ((((-(1 : Int)) ≤ v4.fst.fuel) ∧ ((v4.fst.fuel ≤ (100000 : Int)) ∧ (((0 : Int) ≤ (0 : Int)) ∧ ((((0 : Int) + (((len ((1 : Int) :: [])) : Nat) : Int)) ≤ (((len v4.fst.words) : Nat) : Int)) ∧ ((len v4.fst.words) ≤ 192))))) ∧
 (br (!v6.snd)
 (K (.tup [.agg [dL v6.fst.words, dI v6.fst.fuel], .one (dI (7 : Int))]) [])
 (K (.tup [.agg [dL v6.fst.words, dI v6.fst.fuel], .one (dI (0 : Int))]) [])))))))))) := by subst_vars; kernel_rfl
theorem log_Format_w (m : Nat) (K : KK) (st : St) : goD Γ_log_Format tab fn_log_Format 0 K (m + 1) [.code (bodyOf fn_log_Format)] st = segD Γ_log_Format tab fn_log_Format 0 K (goD Γ_log_Format tab fn_log_Format 0 K m) [.code (bodyOf fn_log_Format)] st := rfl

set_option maxHeartbeats 4000000 in
theorem run_log_Format (ws : List Int) (fu : Int) (K : KK) (hK : K (.tup [.agg [dL (formatF ⟨ws, fu⟩).1.words, dI (formatF ⟨ws, fu⟩).1.fuel], .one (dI (formatF ⟨ws, fu⟩).2)]) []) : ∃ m, goD Γ_log_Format tab fn_log_Format 0 K m [.code (bodyOf fn_log_Format)] (initSt [.agg [dL ws, dI fu]] []) := by
  refine ⟨1, ?_⟩
  rw [log_Format_w, log_Format_vc _ _ _ _ _ rfl _ rfl _ rfl _ rfl _ rfl _ rfl _ rfl]
  unfold formatF at hK
  refine ne_s (fun h => ?_) (fun h => ?_)
  · rw [if_neg h] at hK; exact hK
  rw [if_pos h] at hK
  obtain ⟨c1, c2, c3, c4⟩ := checkFlash_ok h
  obtain ⟨c5, c6⟩ := okLen_le c1
  simp only at c2 c3 c5 c6
  refine lt_s (fun h2 => ?_) (fun h2 => ?_)
  · rw [if_neg (by simp only [len] at h2 ⊢; omega)] at hK; exact hK
  rw [if_pos (by simp only [len] at h2 ⊢; omega)] at hK
  unfold formatCh at hK
  rw [doCh_append, doCh_append] at hK
  obtain ⟨f1, f2⟩ := doCh_fuel ⟨ws, fu⟩ (wipeCh 1) c2 c3
  have l1 := doCh_len ⟨ws, fu⟩ (wipeCh 1)
  obtain ⟨g1, g2⟩ := doCh_fuel (doCh ⟨ws, fu⟩ (wipeCh 1)).1 (wipeCh 0) f1 f2
  have l2 := doCh_len (doCh ⟨ws, fu⟩ (wipeCh 1)).1 (wipeCh 0)
  simp only [len] at h2 l1 l2 ⊢
  refine ⟨by omega, ⟨c2, c3, by omega, by omega, by omega⟩, nt_s (fun h3 => ?_) (fun h3 => ⟨⟨f1, f2, by omega, by omega, by omega⟩, nt_s (fun h4 => ?_) (fun h4 => ⟨⟨g1, g2, by omega, ?_, ?_⟩, nt_s (fun h5 => ?_) (fun h5 => ?_)⟩)⟩)⟩
  · rw [if_neg (show ¬ (doCh ⟨ws, fu⟩ (wipeCh 1)).2 = true by simp [h3]), if_neg (by simp [h3])] at hK
    simp only [power, powerE, h3] at hK; exact hK
  · rw [if_pos h3, if_neg (show ¬ (doCh (doCh ⟨ws, fu⟩ (wipeCh 1)).1 (wipeCh 0)).2 = true from by rw [show (doCh (doCh ⟨ws, fu⟩ (wipeCh 1)).1 (wipeCh 0)).2 = false from h4]; simp)] at hK
    simp only [power] at hK
    rw [show (doCh (doCh ⟨ws, fu⟩ (wipeCh 1)).1 (wipeCh 0)).2 = false from h4] at hK
    exact hK
  · show (0 : Int) + _ ≤ ((doCh (doCh ⟨ws, fu⟩ (wipeCh 1)).1 (wipeCh 0)).1.words.length : Int)
    simp only [List.length_cons, List.length_nil]; omega
  · show (doCh (doCh ⟨ws, fu⟩ (wipeCh 1)).1 (wipeCh 0)).1.words.length ≤ _
    omega
  · rw [if_pos h3, if_pos (show (doCh (doCh ⟨ws, fu⟩ (wipeCh 1)).1 (wipeCh 0)).2 = true from h4)] at hK
    simp only [power] at hK
    rw [show (doCh (doCh (doCh ⟨ws, fu⟩ (wipeCh 1)).1 (wipeCh 0)).1 (burnCh 0 [1])).2 = false from h5] at hK
    exact hK
  · rw [if_pos h3, if_pos (show (doCh (doCh ⟨ws, fu⟩ (wipeCh 1)).1 (wipeCh 0)).2 = true from h4)] at hK
    simp only [power] at hK
    rw [show (doCh (doCh (doCh ⟨ws, fu⟩ (wipeCh 1)).1 (wipeCh 0)).1 (burnCh 0 [1])).2 = true from h5] at hK
    exact hK
theorem sound_log_Format : SoundC Tryz.prog tab n_log_Format c_log_Format := soundC_of ok_log_Format hf_log_Format hB_log_Format (by
  intro vs bs p v bs' h hp
  unfold c_log_Format at h
  split at h
  · cases h
    exact ⟨by kernel_rfl, rfl, .inl (run_log_Format _ _ _ ⟨rfl, rfl⟩)⟩
  · cases h)

def c_gate_New : Contract := fun vs bs => match vs, bs with
  | [.agg [.dat .int rv, .dat (.list .int) rk, .dat .int rt], .one (.dat .int units)], [] => some (some (len rk * 8 ≤ 140737488355328), .tup [.agg [.dat (.list .int) (newG ⟨rv, rk, rt⟩ units).1.f.words, .dat .int (newG ⟨rv, rk, rt⟩ units).1.f.fuel, .dat .bool (newG ⟨rv, rk, rt⟩ units).1.up, .dat .int (newG ⟨rv, rk, rt⟩ units).1.t.r.version, .dat (.list .int) (newG ⟨rv, rk, rt⟩ units).1.t.r.keys, .dat .int (newG ⟨rv, rk, rt⟩ units).1.t.r.thr, .dat .int (newG ⟨rv, rk, rt⟩ units).1.t.version, .dat (.list .bool) (newG ⟨rv, rk, rt⟩ units).1.voted, .dat (.list .bool) (newG ⟨rv, rk, rt⟩ units).1.did], .one (.dat .int (newG ⟨rv, rk, rt⟩ units).2)], [])
  | _, _ => none
def Γ_gate_New : Ctx := [(n_flash_New, c_flash_New), (n_log_Format, c_log_Format), (n_slices_Clone_Lint_d, c_slices_Clone_Lint_d), (n_gate_Check, c_gate_Check)]
theorem ok_gate_New : Ok Tryz.prog tab Γ_gate_New := ((((ok_nil.consC hf_gate_Check hB_gate_Check sound_gate_Check).consC hf_slices_Clone_Lint_d hB_slices_Clone_Lint_d sound_slices_Clone_Lint_d).consC hf_log_Format hB_log_Format sound_log_Format).consC hf_flash_New hB_flash_New sound_flash_New)
theorem gate_New_vc (rv : Int) (rk : List Int) (rt : Int) (units : Int) (rec : RK) (K : KK) v0 (hv0 : v0 = (applyCh (zeros (Int.toNat ((2 : Int) * (32 : Int))) (65535 : Int)) formatCh)) v1 (hv1 : v1 = (checkG ⟨⟨v0, (-(1 : Int))⟩, true, ⟨⟨rv, rk, rt⟩, (0 : Int)⟩, (zeros (Int.toNat units) (Ty.dflt Ty.bool)), (zeros (Int.toNat units) (Ty.dflt Ty.bool))⟩)) v2 (hv2 : v2 = (K (.tup [.agg [dL [], dI (0 : Int), dB false, dI (0 : Int), dL [], dI (0 : Int), dI (0 : Int), dLb [], dLb []], .one (dI (3 : Int))]) [])) : segD Γ_gate_New tab fn_gate_New 0 K rec [.code (bodyOf fn_gate_New)] (initSt [.agg [dI rv, dL rk, dI rt], .one (dI units)] []) = (
 br (lti units (1 : Int))
 v2
 (br (lti (4 : Int) units)
 v2
 ((((len rk) * 8) ≤ 140737488355328) ∧
 ((((0 : Int) ≤ units) ∧ (((units * ((1 : Nat) : Int)) ≤ (140737488355328 : Int)) ∧ (units ≤ (140737488355328 : Int)))) ∧
 ((((0 : Int) ≤ units) ∧ (((units * ((1 : Nat) : Int)) ≤ (140737488355328 : Int)) ∧ (units ≤ (140737488355328 : Int)))) ∧
 (br (!(eqi v1 (0 : Int)))
 (K (.tup [.agg [dL [], dI (0 : Int), dB false, dI (0 : Int), dL [], dI (0 : Int), dI (0 : Int), dLb [], dLb []], .one (dI v1)]) [])
 (K (.tup [.agg [dL v0, dI (-(1 : Int)), dB true, dI rv, dL rk, dI rt, dI (0 : Int), dLb (zeros (Int.toNat units) (Ty.dflt Ty.bool)), dLb (zeros (Int.toNat units) (Ty.dflt Ty.bool))], .one (dI (0 : Int))]) []))))))) := by subst_vars; kernel_rfl
theorem gate_New_w (m : Nat) (K : KK) (st : St) : goD Γ_gate_New tab fn_gate_New 0 K (m + 1) [.code (bodyOf fn_gate_New)] st = segD Γ_gate_New tab fn_gate_New 0 K (goD Γ_gate_New tab fn_gate_New 0 K m) [.code (bodyOf fn_gate_New)] st := rfl

set_option maxHeartbeats 4000000 in
theorem run_gate_New (rv : Int) (rk : List Int) (rt units : Int) (hp : len rk * 8 ≤ 140737488355328) (K : KK) (hK : K (.tup [.agg [dL (newG ⟨rv, rk, rt⟩ units).1.f.words, dI (newG ⟨rv, rk, rt⟩ units).1.f.fuel, dB (newG ⟨rv, rk, rt⟩ units).1.up, dI (newG ⟨rv, rk, rt⟩ units).1.t.r.version, dL (newG ⟨rv, rk, rt⟩ units).1.t.r.keys, dI (newG ⟨rv, rk, rt⟩ units).1.t.r.thr, dI (newG ⟨rv, rk, rt⟩ units).1.t.version, dLb (newG ⟨rv, rk, rt⟩ units).1.voted, dLb (newG ⟨rv, rk, rt⟩ units).1.did], .one (dI (newG ⟨rv, rk, rt⟩ units).2)]) []) : ∃ m, goD Γ_gate_New tab fn_gate_New 0 K m [.code (bodyOf fn_gate_New)] (initSt [.agg [dI rv, dL rk, dI rt], .one (dI units)] []) := by
  refine ⟨1, ?_⟩
  rw [gate_New_w, gate_New_vc _ _ _ _ _ _ _ rfl _ rfl _ rfl]
  have e0 : (formatF (newFlash 2).1).1 = ⟨applyCh (zeros (Int.toNat ((2 : Int) * (32 : Int))) (65535 : Int)) formatCh, -1⟩ := by kernel_rfl
  unfold newG madeG at hK
  rw [e0] at hK
  by_cases c : units < 1 ∨ 4 < units
  · rw [if_pos c] at hK
    exact lt_s (fun _ => hK) (fun _ => lt_t (by omega) hK)
  rw [if_neg c] at hK
  refine lt_f (by omega) (lt_f (by omega) ⟨hp, ⟨by omega, by omega, by omega⟩, ⟨by omega, by omega, by omega⟩, ne_s (fun h => ?_) (fun h => ?_)⟩)
  · rw [if_neg (by exact h)] at hK; exact hK
  · rw [if_pos (by exact h)] at hK; exact hK
theorem sound_gate_New : SoundC Tryz.prog tab n_gate_New c_gate_New := soundC_of ok_gate_New hf_gate_New hB_gate_New (by
  intro vs bs p v bs' h hp
  unfold c_gate_New at h
  split at h
  · cases h
    exact ⟨by kernel_rfl, rfl, .inl (run_gate_New _ _ _ _ hp.1 _ ⟨rfl, rfl⟩)⟩
  · cases h)

def c_flash_Program_1 : Contract := fun vs bs => match vs, bs with
  | [.one (.dat .int w)], [] => some (none, .one (.dat .bool (!okWord w)), [])
  | _, _ => none
def Γ_flash_Program_1 : Ctx := []
theorem ok_flash_Program_1 : Ok Tryz.prog tab Γ_flash_Program_1 := ok_nil
theorem flash_Program_1_vc (w : Int) (rec : RK) (K : KK) : segD Γ_flash_Program_1 tab fn_flash_Program_1 0 K rec [.code (bodyOf fn_flash_Program_1)] (initSt [.one (dI w)] []) = (
 br (lti w (0 : Int))
 (K vT [])
 (K (.one (dB (lti (65535 : Int) w))) [])) := by kernel_rfl
theorem flash_Program_1_w (m : Nat) (K : KK) (st : St) : goD Γ_flash_Program_1 tab fn_flash_Program_1 0 K (m + 1) [.code (bodyOf fn_flash_Program_1)] st = segD Γ_flash_Program_1 tab fn_flash_Program_1 0 K (goD Γ_flash_Program_1 tab fn_flash_Program_1 0 K m) [.code (bodyOf fn_flash_Program_1)] st := rfl

set_option maxHeartbeats 4000000 in
theorem run_flash_Program_1 (w : Int) (K : KK) (hK : K (.one (dB (!okWord w))) []) : ∃ m, goD Γ_flash_Program_1 tab fn_flash_Program_1 0 K m [.code (bodyOf fn_flash_Program_1)] (initSt [.one (dI w)] []) := by
  refine ⟨1, ?_⟩
  rw [flash_Program_1_w, flash_Program_1_vc _ _ _]
  refine lt_s (fun h => ?_) (fun h => ?_)
  · rw [show (!okWord w) = true from by simp [okWord]; omega] at hK; exact hK
  · rw [show (!okWord w) = lti 65535 w from by simp [okWord, lti, h]; by_cases h2 : w ≤ 65535 <;> simp [h2] <;> omega] at hK; exact hK
theorem sound_flash_Program_1 : SoundC Tryz.prog tab n_flash_Program_1 c_flash_Program_1 := soundC_of ok_flash_Program_1 hf_flash_Program_1 hB_flash_Program_1 (by
  intro vs bs p v bs' h hp
  unfold c_flash_Program_1 at h
  split at h
  · cases h
    exact ⟨by kernel_rfl, rfl, .inl (run_flash_Program_1 _ _ ⟨rfl, rfl⟩)⟩
  · cases h)

def c_ref_IsWord : Contract := fun vs bs => match vs, bs with
  | [.one (.dat .int w)], [] => some (none, .one (.dat .bool (okWord w)), [])
  | _, _ => none
def Γ_ref_IsWord : Ctx := []
theorem ok_ref_IsWord : Ok Tryz.prog tab Γ_ref_IsWord := ok_nil
theorem ref_IsWord_vc (w : Int) (rec : RK) (K : KK) : segD Γ_ref_IsWord tab fn_ref_IsWord 0 K rec [.code (bodyOf fn_ref_IsWord)] (initSt [.one (dI w)] []) = (
 br (lei (0 : Int) w)
 (K (.one (dB (lei w (65535 : Int)))) [])
 (K vF [])) := by kernel_rfl
theorem ref_IsWord_w (m : Nat) (K : KK) (st : St) : goD Γ_ref_IsWord tab fn_ref_IsWord 0 K (m + 1) [.code (bodyOf fn_ref_IsWord)] st = segD Γ_ref_IsWord tab fn_ref_IsWord 0 K (goD Γ_ref_IsWord tab fn_ref_IsWord 0 K m) [.code (bodyOf fn_ref_IsWord)] st := rfl

set_option maxHeartbeats 4000000 in
theorem run_ref_IsWord (w : Int) (K : KK) (hK : K (.one (dB (okWord w))) []) : ∃ m, goD Γ_ref_IsWord tab fn_ref_IsWord 0 K m [.code (bodyOf fn_ref_IsWord)] (initSt [.one (dI w)] []) := by
  refine ⟨1, ?_⟩
  rw [ref_IsWord_w, ref_IsWord_vc _ _ _]
  refine br_split (fun h => ?_) (fun h => ?_)
  · rw [show okWord w = lei w 65535 from by rw [lei_true] at h; simp [okWord, lei, h]] at hK; exact hK
  · rw [show okWord w = false from by rw [lei_false] at h; simp [okWord]; omega] at hK; exact hK
theorem sound_ref_IsWord : SoundC Tryz.prog tab n_ref_IsWord c_ref_IsWord := soundC_of ok_ref_IsWord hf_ref_IsWord hB_ref_IsWord (by
  intro vs bs p v bs' h hp
  unfold c_ref_IsWord at h
  split at h
  · cases h
    exact ⟨by kernel_rfl, rfl, .inl (run_ref_IsWord _ _ ⟨rfl, rfl⟩)⟩
  · cases h)

def c_ref_allWords_1 : Contract := fun vs bs => match vs, bs with
  | [.one (.dat .int w)], [] => some (none, .one (.dat .bool (!okWord w)), [])
  | _, _ => none
def Γ_ref_allWords_1 : Ctx := [(n_ref_IsWord, c_ref_IsWord)]
theorem ok_ref_allWords_1 : Ok Tryz.prog tab Γ_ref_allWords_1 := (ok_nil.consC hf_ref_IsWord hB_ref_IsWord sound_ref_IsWord)
theorem ref_allWords_1_vc (w : Int) (rec : RK) (K : KK) v0 (hv0 : v0 = (okWord w)) : segD Γ_ref_allWords_1 tab fn_ref_allWords_1 0 K rec [.code (bodyOf fn_ref_allWords_1)] (initSt [.one (dI w)] []) = (
 K (.one (dB (!v0))) []) := by subst_vars; kernel_rfl
theorem ref_allWords_1_w (m : Nat) (K : KK) (st : St) : goD Γ_ref_allWords_1 tab fn_ref_allWords_1 0 K (m + 1) [.code (bodyOf fn_ref_allWords_1)] st = segD Γ_ref_allWords_1 tab fn_ref_allWords_1 0 K (goD Γ_ref_allWords_1 tab fn_ref_allWords_1 0 K m) [.code (bodyOf fn_ref_allWords_1)] st := rfl

set_option maxHeartbeats 4000000 in
theorem run_ref_allWords_1 (w : Int) (K : KK) (hK : K (.one (dB (!okWord w))) []) : ∃ m, goD Γ_ref_allWords_1 tab fn_ref_allWords_1 0 K m [.code (bodyOf fn_ref_allWords_1)] (initSt [.one (dI w)] []) := by
  refine ⟨1, ?_⟩
  rw [ref_allWords_1_w, ref_allWords_1_vc _ _ _ _ rfl]
  exact hK
theorem sound_ref_allWords_1 : SoundC Tryz.prog tab n_ref_allWords_1 c_ref_allWords_1 := soundC_of ok_ref_allWords_1 hf_ref_allWords_1 hB_ref_allWords_1 (by
  intro vs bs p v bs' h hp
  unfold c_ref_allWords_1 at h
  split at h
  · cases h
    exact ⟨by kernel_rfl, rfl, .inl (run_ref_allWords_1 _ _ ⟨rfl, rfl⟩)⟩
  · cases h)

def c_unit_CheckMessage_1 : Contract := fun vs bs => match vs, bs with
  | [.one (.dat .int w)], [] => some (none, .one (.dat .bool (!okWord w)), [])
  | _, _ => none
def Γ_unit_CheckMessage_1 : Ctx := []
theorem ok_unit_CheckMessage_1 : Ok Tryz.prog tab Γ_unit_CheckMessage_1 := ok_nil
theorem unit_CheckMessage_1_vc (w : Int) (rec : RK) (K : KK) : segD Γ_unit_CheckMessage_1 tab fn_unit_CheckMessage_1 0 K rec [.code (bodyOf fn_unit_CheckMessage_1)] (initSt [.one (dI w)] []) = (
 br (lti w (0 : Int))
 (K vT [])
 (K (.one (dB (lti (65535 : Int) w))) [])) := by kernel_rfl
theorem unit_CheckMessage_1_w (m : Nat) (K : KK) (st : St) : goD Γ_unit_CheckMessage_1 tab fn_unit_CheckMessage_1 0 K (m + 1) [.code (bodyOf fn_unit_CheckMessage_1)] st = segD Γ_unit_CheckMessage_1 tab fn_unit_CheckMessage_1 0 K (goD Γ_unit_CheckMessage_1 tab fn_unit_CheckMessage_1 0 K m) [.code (bodyOf fn_unit_CheckMessage_1)] st := rfl

set_option maxHeartbeats 4000000 in
theorem run_unit_CheckMessage_1 (w : Int) (K : KK) (hK : K (.one (dB (!okWord w))) []) : ∃ m, goD Γ_unit_CheckMessage_1 tab fn_unit_CheckMessage_1 0 K m [.code (bodyOf fn_unit_CheckMessage_1)] (initSt [.one (dI w)] []) := by
  refine ⟨1, ?_⟩
  rw [unit_CheckMessage_1_w, unit_CheckMessage_1_vc _ _ _]
  refine lt_s (fun h => ?_) (fun h => ?_)
  · rw [show (!okWord w) = true from by simp [okWord]; omega] at hK; exact hK
  · rw [show (!okWord w) = lti 65535 w from by simp [okWord, lti, h]; by_cases h2 : w ≤ 65535 <;> simp [h2] <;> omega] at hK; exact hK
theorem sound_unit_CheckMessage_1 : SoundC Tryz.prog tab n_unit_CheckMessage_1 c_unit_CheckMessage_1 := soundC_of ok_unit_CheckMessage_1 hf_unit_CheckMessage_1 hB_unit_CheckMessage_1 (by
  intro vs bs p v bs' h hp
  unfold c_unit_CheckMessage_1 at h
  split at h
  · cases h
    exact ⟨by kernel_rfl, rfl, .inl (run_unit_CheckMessage_1 _ _ ⟨rfl, rfl⟩)⟩
  · cases h)

def c_slices_IndexFunc_Lint : Contract := fun vs bs => match vs, bs with
  | [.one (.dat (.list .int) l), .one (.fn f [])], [] => (match Nat.beq f n_flash_Program_1 with | true => some (some (Sm l), .one (.dat .int (firstBad l)), []) | false => (match Nat.beq f n_ref_allWords_1 with | true => some (some (Sm l), .one (.dat .int (firstBad l)), []) | false => (match Nat.beq f n_unit_CheckMessage_1 with | true => some (some (Sm l), .one (.dat .int (firstBad l)), []) | false => none)))
  | _, _ => none
def Γ_slices_IndexFunc_Lint : Ctx := [(n_flash_Program_1, c_flash_Program_1), (n_ref_allWords_1, c_ref_allWords_1), (n_unit_CheckMessage_1, c_unit_CheckMessage_1)]
theorem ok_slices_IndexFunc_Lint : Ok Tryz.prog tab Γ_slices_IndexFunc_Lint := (((ok_nil.consC hf_unit_CheckMessage_1 hB_unit_CheckMessage_1 sound_unit_CheckMessage_1).consC hf_ref_allWords_1 hB_ref_allWords_1 sound_ref_allWords_1).consC hf_flash_Program_1 hB_flash_Program_1 sound_flash_Program_1)
noncomputable def slices_IndexFunc_Lint_0_L0 : List It := [.inLoop [8, 7, 4, 0, 1] (Code.sub (bodyOf fn_slices_IndexFunc_Lint) [1, 0, 1, 0, 0]), .inBlock 0, .code (Code.sub (bodyOf fn_slices_IndexFunc_Lint) [1, 1])]
def slices_IndexFunc_Lint_0_S0 (x0 : Int) (x1 : Int) (x2 : Int) (x3 : (List Int)) : St := ⟨[(8, .one (dI x0)), (7, .one (dI x1)), (4, .one (dI x2)), (0, .one (dL x3)), (1, .one (.fn n_flash_Program_1 []))], [], 0⟩
theorem slices_IndexFunc_Lint_0_vc (l : List Int) (rec : RK) (K : KK) : segD Γ_slices_IndexFunc_Lint tab fn_slices_IndexFunc_Lint 0 K rec [.code (bodyOf fn_slices_IndexFunc_Lint)] (initSt [.one (dL l), .one (.fn n_flash_Program_1 [])] []) = (
 rec slices_IndexFunc_Lint_0_L0 (slices_IndexFunc_Lint_0_S0 (0 : Int) (((len l) : Nat) : Int) (0 : Int) l)) := by kernel_rfl
theorem slices_IndexFunc_Lint_0_w (m : Nat) (K : KK) (st : St) : goD Γ_slices_IndexFunc_Lint tab fn_slices_IndexFunc_Lint 0 K (m + 1) [.code (bodyOf fn_slices_IndexFunc_Lint)] st = segD Γ_slices_IndexFunc_Lint tab fn_slices_IndexFunc_Lint 0 K (goD Γ_slices_IndexFunc_Lint tab fn_slices_IndexFunc_Lint 0 K m) [.code (bodyOf fn_slices_IndexFunc_Lint)] st := rfl
theorem slices_IndexFunc_Lint_0_vc0 (x0 : Int) (x1 : Int) (x2 : Int) (x3 : (List Int)) (rec : RK) (K : KK) v0 (hv0 : v0 = (okWord (nth x3 (Int.toNat x0) (Ty.dflt Ty.int)))) : segD Γ_slices_IndexFunc_Lint tab fn_slices_IndexFunc_Lint 0 K rec (.code (Code.sub (bodyOf fn_slices_IndexFunc_Lint) [1, 0, 1, 0, 0]) :: slices_IndexFunc_Lint_0_L0) (slices_IndexFunc_Lint_0_S0 x0 x1 x2 x3) = (
 br (lti x0 x1)
 ((((0 : Int) ≤ x0) ∧ (x0 < (((len x3) : Nat) : Int))) ∧
 (br (!v0)
 (K (.one (dI x0)) [])
 (rec slices_IndexFunc_Lint_0_L0 (slices_IndexFunc_Lint_0_S0 (w64 (x0 + (1 : Int))) x1 x2 x3))))
 (K (.one (dI (-(1 : Int)))) [])) := by subst_vars; kernel_rfl
theorem slices_IndexFunc_Lint_0_w0 (m : Nat) (K : KK) (st : St) : goD Γ_slices_IndexFunc_Lint tab fn_slices_IndexFunc_Lint 0 K (m + 1) slices_IndexFunc_Lint_0_L0 st = segD Γ_slices_IndexFunc_Lint tab fn_slices_IndexFunc_Lint 0 K (goD Γ_slices_IndexFunc_Lint tab fn_slices_IndexFunc_Lint 0 K m) (.code (Code.sub (bodyOf fn_slices_IndexFunc_Lint) [1, 0, 1, 0, 0]) :: slices_IndexFunc_Lint_0_L0) st := rfl

noncomputable def slices_IndexFunc_Lint_1_L0 : List It := [.inLoop [8, 7, 4, 0, 1] (Code.sub (bodyOf fn_slices_IndexFunc_Lint) [1, 0, 1, 0, 0]), .inBlock 0, .code (Code.sub (bodyOf fn_slices_IndexFunc_Lint) [1, 1])]
def slices_IndexFunc_Lint_1_S0 (x0 : Int) (x1 : Int) (x2 : Int) (x3 : (List Int)) : St := ⟨[(8, .one (dI x0)), (7, .one (dI x1)), (4, .one (dI x2)), (0, .one (dL x3)), (1, .one (.fn n_ref_allWords_1 []))], [], 0⟩
theorem slices_IndexFunc_Lint_1_vc (l : List Int) (rec : RK) (K : KK) : segD Γ_slices_IndexFunc_Lint tab fn_slices_IndexFunc_Lint 0 K rec [.code (bodyOf fn_slices_IndexFunc_Lint)] (initSt [.one (dL l), .one (.fn n_ref_allWords_1 [])] []) = (
 rec slices_IndexFunc_Lint_1_L0 (slices_IndexFunc_Lint_1_S0 (0 : Int) (((len l) : Nat) : Int) (0 : Int) l)) := by kernel_rfl
theorem slices_IndexFunc_Lint_1_w (m : Nat) (K : KK) (st : St) : goD Γ_slices_IndexFunc_Lint tab fn_slices_IndexFunc_Lint 0 K (m + 1) [.code (bodyOf fn_slices_IndexFunc_Lint)] st = segD Γ_slices_IndexFunc_Lint tab fn_slices_IndexFunc_Lint 0 K (goD Γ_slices_IndexFunc_Lint tab fn_slices_IndexFunc_Lint 0 K m) [.code (bodyOf fn_slices_IndexFunc_Lint)] st := rfl
theorem slices_IndexFunc_Lint_1_vc0 (x0 : Int) (x1 : Int) (x2 : Int) (x3 : (List Int)) (rec : RK) (K : KK) v0 (hv0 : v0 = (okWord (nth x3 (Int.toNat x0) (Ty.dflt Ty.int)))) : segD Γ_slices_IndexFunc_Lint tab fn_slices_IndexFunc_Lint 0 K rec (.code (Code.sub (bodyOf fn_slices_IndexFunc_Lint) [1, 0, 1, 0, 0]) :: slices_IndexFunc_Lint_1_L0) (slices_IndexFunc_Lint_1_S0 x0 x1 x2 x3) = (
 br (lti x0 x1)
 ((((0 : Int) ≤ x0) ∧ (x0 < (((len x3) : Nat) : Int))) ∧
 (br (!v0)
 (K (.one (dI x0)) [])
 (rec slices_IndexFunc_Lint_1_L0 (slices_IndexFunc_Lint_1_S0 (w64 (x0 + (1 : Int))) x1 x2 x3))))
 (K (.one (dI (-(1 : Int)))) [])) := by subst_vars; kernel_rfl
theorem slices_IndexFunc_Lint_1_w0 (m : Nat) (K : KK) (st : St) : goD Γ_slices_IndexFunc_Lint tab fn_slices_IndexFunc_Lint 0 K (m + 1) slices_IndexFunc_Lint_1_L0 st = segD Γ_slices_IndexFunc_Lint tab fn_slices_IndexFunc_Lint 0 K (goD Γ_slices_IndexFunc_Lint tab fn_slices_IndexFunc_Lint 0 K m) (.code (Code.sub (bodyOf fn_slices_IndexFunc_Lint) [1, 0, 1, 0, 0]) :: slices_IndexFunc_Lint_1_L0) st := rfl

noncomputable def slices_IndexFunc_Lint_2_L0 : List It := [.inLoop [8, 7, 4, 0, 1] (Code.sub (bodyOf fn_slices_IndexFunc_Lint) [1, 0, 1, 0, 0]), .inBlock 0, .code (Code.sub (bodyOf fn_slices_IndexFunc_Lint) [1, 1])]
def slices_IndexFunc_Lint_2_S0 (x0 : Int) (x1 : Int) (x2 : Int) (x3 : (List Int)) : St := ⟨[(8, .one (dI x0)), (7, .one (dI x1)), (4, .one (dI x2)), (0, .one (dL x3)), (1, .one (.fn n_unit_CheckMessage_1 []))], [], 0⟩
theorem slices_IndexFunc_Lint_2_vc (l : List Int) (rec : RK) (K : KK) : segD Γ_slices_IndexFunc_Lint tab fn_slices_IndexFunc_Lint 0 K rec [.code (bodyOf fn_slices_IndexFunc_Lint)] (initSt [.one (dL l), .one (.fn n_unit_CheckMessage_1 [])] []) = (
 rec slices_IndexFunc_Lint_2_L0 (slices_IndexFunc_Lint_2_S0 (0 : Int) (((len l) : Nat) : Int) (0 : Int) l)) := by kernel_rfl
theorem slices_IndexFunc_Lint_2_w (m : Nat) (K : KK) (st : St) : goD Γ_slices_IndexFunc_Lint tab fn_slices_IndexFunc_Lint 0 K (m + 1) [.code (bodyOf fn_slices_IndexFunc_Lint)] st = segD Γ_slices_IndexFunc_Lint tab fn_slices_IndexFunc_Lint 0 K (goD Γ_slices_IndexFunc_Lint tab fn_slices_IndexFunc_Lint 0 K m) [.code (bodyOf fn_slices_IndexFunc_Lint)] st := rfl
theorem slices_IndexFunc_Lint_2_vc0 (x0 : Int) (x1 : Int) (x2 : Int) (x3 : (List Int)) (rec : RK) (K : KK) v0 (hv0 : v0 = (okWord (nth x3 (Int.toNat x0) (Ty.dflt Ty.int)))) : segD Γ_slices_IndexFunc_Lint tab fn_slices_IndexFunc_Lint 0 K rec (.code (Code.sub (bodyOf fn_slices_IndexFunc_Lint) [1, 0, 1, 0, 0]) :: slices_IndexFunc_Lint_2_L0) (slices_IndexFunc_Lint_2_S0 x0 x1 x2 x3) = (
 br (lti x0 x1)
 ((((0 : Int) ≤ x0) ∧ (x0 < (((len x3) : Nat) : Int))) ∧
 (br (!v0)
 (K (.one (dI x0)) [])
 (rec slices_IndexFunc_Lint_2_L0 (slices_IndexFunc_Lint_2_S0 (w64 (x0 + (1 : Int))) x1 x2 x3))))
 (K (.one (dI (-(1 : Int)))) [])) := by subst_vars; kernel_rfl
theorem slices_IndexFunc_Lint_2_w0 (m : Nat) (K : KK) (st : St) : goD Γ_slices_IndexFunc_Lint tab fn_slices_IndexFunc_Lint 0 K (m + 1) slices_IndexFunc_Lint_2_L0 st = segD Γ_slices_IndexFunc_Lint tab fn_slices_IndexFunc_Lint 0 K (goD Γ_slices_IndexFunc_Lint tab fn_slices_IndexFunc_Lint 0 K m) (.code (Code.sub (bodyOf fn_slices_IndexFunc_Lint) [1, 0, 1, 0, 0]) :: slices_IndexFunc_Lint_2_L0) st := rfl

theorem loop_slices_IndexFunc_Lint_0 (l : List Int) (hs : Sm l) (K : KK) : ∀ (d k : Nat), k + d = l.length → K (.one (dI (firstBadFrom k (l.drop k)))) [] →
    goD Γ_slices_IndexFunc_Lint tab fn_slices_IndexFunc_Lint 0 K (d + 1) slices_IndexFunc_Lint_0_L0 (slices_IndexFunc_Lint_0_S0 (k : Int) (((len l) : Nat) : Int) 0 l)
  | 0, k, hk, hK => by
    rw [slices_IndexFunc_Lint_0_w0, slices_IndexFunc_Lint_0_vc0 _ _ _ _ _ _ _ rfl]
    refine lt_f (by simp only [len]; omega) ?_
    rw [List.drop_of_length_le (by omega)] at hK
    exact hK
  | d + 1, k, hk, hK => by
    have hs' := hs
    unfold Sm at hs'
    rw [slices_IndexFunc_Lint_0_w0, slices_IndexFunc_Lint_0_vc0 _ _ _ _ _ _ _ rfl]
    rw [drop_step (by omega) (Ty.dflt Ty.int)] at hK
    simp only [firstBadFrom] at hK
    refine lt_t (by simp only [len]; omega) ⟨⟨by omega, by simp only [len]; omega⟩, nt_s (fun h => ?_) (fun h => ?_)⟩
    · rw [toNat_nat] at h
      rw [if_neg (by rw [h]; simp)] at hK
      exact hK
    · rw [toNat_nat] at h
      rw [if_pos h] at hK
      rw [w64_succ (by omega)]
      exact loop_slices_IndexFunc_Lint_0 l hs K d (k + 1) (by omega) hK
set_option maxHeartbeats 4000000 in
theorem run_slices_IndexFunc_Lint_0 (l : List Int) (hp : Sm l) (K : KK) (hK : K (.one (dI (firstBad l))) []) : ∃ m, goD Γ_slices_IndexFunc_Lint tab fn_slices_IndexFunc_Lint 0 K m [.code (bodyOf fn_slices_IndexFunc_Lint)] (initSt [.one (dL l), .one (.fn n_flash_Program_1 [])] []) := by
  refine ⟨l.length + 2, ?_⟩
  rw [slices_IndexFunc_Lint_0_w, slices_IndexFunc_Lint_0_vc _ _ _]
  exact loop_slices_IndexFunc_Lint_0 l hp K l.length 0 (by omega) hK
theorem loop_slices_IndexFunc_Lint_1 (l : List Int) (hs : Sm l) (K : KK) : ∀ (d k : Nat), k + d = l.length → K (.one (dI (firstBadFrom k (l.drop k)))) [] →
    goD Γ_slices_IndexFunc_Lint tab fn_slices_IndexFunc_Lint 0 K (d + 1) slices_IndexFunc_Lint_1_L0 (slices_IndexFunc_Lint_1_S0 (k : Int) (((len l) : Nat) : Int) 0 l)
  | 0, k, hk, hK => by
    rw [slices_IndexFunc_Lint_1_w0, slices_IndexFunc_Lint_1_vc0 _ _ _ _ _ _ _ rfl]
    refine lt_f (by simp only [len]; omega) ?_
    rw [List.drop_of_length_le (by omega)] at hK
    exact hK
  | d + 1, k, hk, hK => by
    have hs' := hs
    unfold Sm at hs'
    rw [slices_IndexFunc_Lint_1_w0, slices_IndexFunc_Lint_1_vc0 _ _ _ _ _ _ _ rfl]
    rw [drop_step (by omega) (Ty.dflt Ty.int)] at hK
    simp only [firstBadFrom] at hK
    refine lt_t (by simp only [len]; omega) ⟨⟨by omega, by simp only [len]; omega⟩, nt_s (fun h => ?_) (fun h => ?_)⟩
    · rw [toNat_nat] at h
      rw [if_neg (by rw [h]; simp)] at hK
      exact hK
    · rw [toNat_nat] at h
      rw [if_pos h] at hK
      rw [w64_succ (by omega)]
      exact loop_slices_IndexFunc_Lint_1 l hs K d (k + 1) (by omega) hK
set_option maxHeartbeats 4000000 in
theorem run_slices_IndexFunc_Lint_1 (l : List Int) (hp : Sm l) (K : KK) (hK : K (.one (dI (firstBad l))) []) : ∃ m, goD Γ_slices_IndexFunc_Lint tab fn_slices_IndexFunc_Lint 0 K m [.code (bodyOf fn_slices_IndexFunc_Lint)] (initSt [.one (dL l), .one (.fn n_ref_allWords_1 [])] []) := by
  refine ⟨l.length + 2, ?_⟩
  rw [slices_IndexFunc_Lint_1_w, slices_IndexFunc_Lint_1_vc _ _ _]
  exact loop_slices_IndexFunc_Lint_1 l hp K l.length 0 (by omega) hK
theorem loop_slices_IndexFunc_Lint_2 (l : List Int) (hs : Sm l) (K : KK) : ∀ (d k : Nat), k + d = l.length → K (.one (dI (firstBadFrom k (l.drop k)))) [] →
    goD Γ_slices_IndexFunc_Lint tab fn_slices_IndexFunc_Lint 0 K (d + 1) slices_IndexFunc_Lint_2_L0 (slices_IndexFunc_Lint_2_S0 (k : Int) (((len l) : Nat) : Int) 0 l)
  | 0, k, hk, hK => by
    rw [slices_IndexFunc_Lint_2_w0, slices_IndexFunc_Lint_2_vc0 _ _ _ _ _ _ _ rfl]
    refine lt_f (by simp only [len]; omega) ?_
    rw [List.drop_of_length_le (by omega)] at hK
    exact hK
  | d + 1, k, hk, hK => by
    have hs' := hs
    unfold Sm at hs'
    rw [slices_IndexFunc_Lint_2_w0, slices_IndexFunc_Lint_2_vc0 _ _ _ _ _ _ _ rfl]
    rw [drop_step (by omega) (Ty.dflt Ty.int)] at hK
    simp only [firstBadFrom] at hK
    refine lt_t (by simp only [len]; omega) ⟨⟨by omega, by simp only [len]; omega⟩, nt_s (fun h => ?_) (fun h => ?_)⟩
    · rw [toNat_nat] at h
      rw [if_neg (by rw [h]; simp)] at hK
      exact hK
    · rw [toNat_nat] at h
      rw [if_pos h] at hK
      rw [w64_succ (by omega)]
      exact loop_slices_IndexFunc_Lint_2 l hs K d (k + 1) (by omega) hK
set_option maxHeartbeats 4000000 in
theorem run_slices_IndexFunc_Lint_2 (l : List Int) (hp : Sm l) (K : KK) (hK : K (.one (dI (firstBad l))) []) : ∃ m, goD Γ_slices_IndexFunc_Lint tab fn_slices_IndexFunc_Lint 0 K m [.code (bodyOf fn_slices_IndexFunc_Lint)] (initSt [.one (dL l), .one (.fn n_unit_CheckMessage_1 [])] []) := by
  refine ⟨l.length + 2, ?_⟩
  rw [slices_IndexFunc_Lint_2_w, slices_IndexFunc_Lint_2_vc _ _ _]
  exact loop_slices_IndexFunc_Lint_2 l hp K l.length 0 (by omega) hK
theorem sound_slices_IndexFunc_Lint : SoundC Tryz.prog tab n_slices_IndexFunc_Lint c_slices_IndexFunc_Lint := soundC_of ok_slices_IndexFunc_Lint hf_slices_IndexFunc_Lint hB_slices_IndexFunc_Lint (by
  intro vs bs p v bs' h hp
  unfold c_slices_IndexFunc_Lint at h
  split at h
  · split at h
    · rename_i hfn
      have hfn := Nat.eq_of_beq_eq_true hfn
      subst hfn
      cases h
      exact ⟨by kernel_rfl, rfl, .inl (run_slices_IndexFunc_Lint_0 _ hp.1 _ ⟨rfl, rfl⟩)⟩
    · split at h
      · rename_i hfn
        have hfn := Nat.eq_of_beq_eq_true hfn
        subst hfn
        cases h
        exact ⟨by kernel_rfl, rfl, .inl (run_slices_IndexFunc_Lint_1 _ hp.1 _ ⟨rfl, rfl⟩)⟩
      · split at h
        · rename_i hfn
          have hfn := Nat.eq_of_beq_eq_true hfn
          subst hfn
          cases h
          exact ⟨by kernel_rfl, rfl, .inl (run_slices_IndexFunc_Lint_2 _ hp.1 _ ⟨rfl, rfl⟩)⟩
        · cases h
  · cases h)

def c_slices_ContainsFunc_Lint : Contract := fun vs bs => match vs, bs with
  | [.one (.dat (.list .int) l), .one (.fn f [])], [] => (match Nat.beq f n_flash_Program_1 with | true => some (some (Sm l), .one (.dat .bool (!okWords l)), []) | false => (match Nat.beq f n_ref_allWords_1 with | true => some (some (Sm l), .one (.dat .bool (!okWords l)), []) | false => (match Nat.beq f n_unit_CheckMessage_1 with | true => some (some (Sm l), .one (.dat .bool (!okWords l)), []) | false => none)))
  | _, _ => none
def Γ_slices_ContainsFunc_Lint : Ctx := [(n_slices_IndexFunc_Lint, c_slices_IndexFunc_Lint), (n_flash_Program_1, c_flash_Program_1), (n_ref_allWords_1, c_ref_allWords_1), (n_unit_CheckMessage_1, c_unit_CheckMessage_1)]
theorem ok_slices_ContainsFunc_Lint : Ok Tryz.prog tab Γ_slices_ContainsFunc_Lint := ((((ok_nil.consC hf_unit_CheckMessage_1 hB_unit_CheckMessage_1 sound_unit_CheckMessage_1).consC hf_ref_allWords_1 hB_ref_allWords_1 sound_ref_allWords_1).consC hf_flash_Program_1 hB_flash_Program_1 sound_flash_Program_1).consC hf_slices_IndexFunc_Lint hB_slices_IndexFunc_Lint sound_slices_IndexFunc_Lint)
theorem slices_ContainsFunc_Lint_0_vc (l : List Int) (rec : RK) (K : KK) v0 (hv0 : v0 = (firstBad l)) : segD Γ_slices_ContainsFunc_Lint tab fn_slices_ContainsFunc_Lint 0 K rec [.code (bodyOf fn_slices_ContainsFunc_Lint)] (initSt [.one (dL l), .one (.fn n_flash_Program_1 [])] []) = (
 ((List.length l) ≤ 140737488355328) ∧
 (K (.one (dB (lei (0 : Int) v0))) [])) := by subst_vars; kernel_rfl
theorem slices_ContainsFunc_Lint_0_w (m : Nat) (K : KK) (st : St) : goD Γ_slices_ContainsFunc_Lint tab fn_slices_ContainsFunc_Lint 0 K (m + 1) [.code (bodyOf fn_slices_ContainsFunc_Lint)] st = segD Γ_slices_ContainsFunc_Lint tab fn_slices_ContainsFunc_Lint 0 K (goD Γ_slices_ContainsFunc_Lint tab fn_slices_ContainsFunc_Lint 0 K m) [.code (bodyOf fn_slices_ContainsFunc_Lint)] st := rfl

theorem slices_ContainsFunc_Lint_1_vc (l : List Int) (rec : RK) (K : KK) v0 (hv0 : v0 = (firstBad l)) : segD Γ_slices_ContainsFunc_Lint tab fn_slices_ContainsFunc_Lint 0 K rec [.code (bodyOf fn_slices_ContainsFunc_Lint)] (initSt [.one (dL l), .one (.fn n_ref_allWords_1 [])] []) = (
 ((List.length l) ≤ 140737488355328) ∧
 (K (.one (dB (lei (0 : Int) v0))) [])) := by subst_vars; kernel_rfl
theorem slices_ContainsFunc_Lint_1_w (m : Nat) (K : KK) (st : St) : goD Γ_slices_ContainsFunc_Lint tab fn_slices_ContainsFunc_Lint 0 K (m + 1) [.code (bodyOf fn_slices_ContainsFunc_Lint)] st = segD Γ_slices_ContainsFunc_Lint tab fn_slices_ContainsFunc_Lint 0 K (goD Γ_slices_ContainsFunc_Lint tab fn_slices_ContainsFunc_Lint 0 K m) [.code (bodyOf fn_slices_ContainsFunc_Lint)] st := rfl

theorem slices_ContainsFunc_Lint_2_vc (l : List Int) (rec : RK) (K : KK) v0 (hv0 : v0 = (firstBad l)) : segD Γ_slices_ContainsFunc_Lint tab fn_slices_ContainsFunc_Lint 0 K rec [.code (bodyOf fn_slices_ContainsFunc_Lint)] (initSt [.one (dL l), .one (.fn n_unit_CheckMessage_1 [])] []) = (
 ((List.length l) ≤ 140737488355328) ∧
 (K (.one (dB (lei (0 : Int) v0))) [])) := by subst_vars; kernel_rfl
theorem slices_ContainsFunc_Lint_2_w (m : Nat) (K : KK) (st : St) : goD Γ_slices_ContainsFunc_Lint tab fn_slices_ContainsFunc_Lint 0 K (m + 1) [.code (bodyOf fn_slices_ContainsFunc_Lint)] st = segD Γ_slices_ContainsFunc_Lint tab fn_slices_ContainsFunc_Lint 0 K (goD Γ_slices_ContainsFunc_Lint tab fn_slices_ContainsFunc_Lint 0 K m) [.code (bodyOf fn_slices_ContainsFunc_Lint)] st := rfl

theorem firstBad_slices_ContainsFunc_Lint : ∀ (l : List Int) (k : Int), 0 ≤ k → lei 0 (firstBadFrom k l) = !okWords l
  | [], k, hk => by simp [firstBadFrom, okWords, lei]
  | w :: l, k, hk => by
    simp only [firstBadFrom, okWords, List.all_cons]
    cases h : okWord w with
    | true => simpa [okWords] using firstBad_slices_ContainsFunc_Lint l (k + 1) (by omega)
    | false => simp [lei, hk]
set_option maxHeartbeats 4000000 in
theorem run_slices_ContainsFunc_Lint_0 (l : List Int) (hp : Sm l) (K : KK) (hK : K (.one (dB (!okWords l))) []) : ∃ m, goD Γ_slices_ContainsFunc_Lint tab fn_slices_ContainsFunc_Lint 0 K m [.code (bodyOf fn_slices_ContainsFunc_Lint)] (initSt [.one (dL l), .one (.fn n_flash_Program_1 [])] []) := by
  refine ⟨1, ?_⟩
  rw [slices_ContainsFunc_Lint_0_w, slices_ContainsFunc_Lint_0_vc _ _ _ _ rfl]
  refine ⟨hp, ?_⟩
  rw [show lei 0 (firstBad l) = !okWords l from firstBad_slices_ContainsFunc_Lint l 0 (by omega)]
  exact hK
set_option maxHeartbeats 4000000 in
theorem run_slices_ContainsFunc_Lint_1 (l : List Int) (hp : Sm l) (K : KK) (hK : K (.one (dB (!okWords l))) []) : ∃ m, goD Γ_slices_ContainsFunc_Lint tab fn_slices_ContainsFunc_Lint 0 K m [.code (bodyOf fn_slices_ContainsFunc_Lint)] (initSt [.one (dL l), .one (.fn n_ref_allWords_1 [])] []) := by
  refine ⟨1, ?_⟩
  rw [slices_ContainsFunc_Lint_1_w, slices_ContainsFunc_Lint_1_vc _ _ _ _ rfl]
  refine ⟨hp, ?_⟩
  rw [show lei 0 (firstBad l) = !okWords l from firstBad_slices_ContainsFunc_Lint l 0 (by omega)]
  exact hK
set_option maxHeartbeats 4000000 in
theorem run_slices_ContainsFunc_Lint_2 (l : List Int) (hp : Sm l) (K : KK) (hK : K (.one (dB (!okWords l))) []) : ∃ m, goD Γ_slices_ContainsFunc_Lint tab fn_slices_ContainsFunc_Lint 0 K m [.code (bodyOf fn_slices_ContainsFunc_Lint)] (initSt [.one (dL l), .one (.fn n_unit_CheckMessage_1 [])] []) := by
  refine ⟨1, ?_⟩
  rw [slices_ContainsFunc_Lint_2_w, slices_ContainsFunc_Lint_2_vc _ _ _ _ rfl]
  refine ⟨hp, ?_⟩
  rw [show lei 0 (firstBad l) = !okWords l from firstBad_slices_ContainsFunc_Lint l 0 (by omega)]
  exact hK
theorem sound_slices_ContainsFunc_Lint : SoundC Tryz.prog tab n_slices_ContainsFunc_Lint c_slices_ContainsFunc_Lint := soundC_of ok_slices_ContainsFunc_Lint hf_slices_ContainsFunc_Lint hB_slices_ContainsFunc_Lint (by
  intro vs bs p v bs' h hp
  unfold c_slices_ContainsFunc_Lint at h
  split at h
  · split at h
    · rename_i hfn
      have hfn := Nat.eq_of_beq_eq_true hfn
      subst hfn
      cases h
      exact ⟨by kernel_rfl, rfl, .inl (run_slices_ContainsFunc_Lint_0 _ hp.1 _ ⟨rfl, rfl⟩)⟩
    · split at h
      · rename_i hfn
        have hfn := Nat.eq_of_beq_eq_true hfn
        subst hfn
        cases h
        exact ⟨by kernel_rfl, rfl, .inl (run_slices_ContainsFunc_Lint_1 _ hp.1 _ ⟨rfl, rfl⟩)⟩
      · split at h
        · rename_i hfn
          have hfn := Nat.eq_of_beq_eq_true hfn
          subst hfn
          cases h
          exact ⟨by kernel_rfl, rfl, .inl (run_slices_ContainsFunc_Lint_2 _ hp.1 _ ⟨rfl, rfl⟩)⟩
        · cases h
  · cases h)

def c_ref_allWords : Contract := fun vs bs => match vs, bs with
  | [.one (.dat (.list .int) l)], [] => some (some (Sm l), .one (.dat .bool (okWords l)), [])
  | _, _ => none
def Γ_ref_allWords : Ctx := [(n_slices_ContainsFunc_Lint, c_slices_ContainsFunc_Lint), (n_ref_allWords_1, c_ref_allWords_1)]
theorem ok_ref_allWords : Ok Tryz.prog tab Γ_ref_allWords := ((ok_nil.consC hf_ref_allWords_1 hB_ref_allWords_1 sound_ref_allWords_1).consC hf_slices_ContainsFunc_Lint hB_slices_ContainsFunc_Lint sound_slices_ContainsFunc_Lint)
theorem ref_allWords_vc (l : List Int) (rec : RK) (K : KK) v0 (hv0 : v0 = (okWords l)) : segD Γ_ref_allWords tab fn_ref_allWords 0 K rec [.code (bodyOf fn_ref_allWords)] (initSt [.one (dL l)] []) = (
 ((List.length l) ≤ 140737488355328) ∧
 (K (.one (dB (!(!v0)))) [])) := by subst_vars; kernel_rfl
theorem ref_allWords_w (m : Nat) (K : KK) (st : St) : goD Γ_ref_allWords tab fn_ref_allWords 0 K (m + 1) [.code (bodyOf fn_ref_allWords)] st = segD Γ_ref_allWords tab fn_ref_allWords 0 K (goD Γ_ref_allWords tab fn_ref_allWords 0 K m) [.code (bodyOf fn_ref_allWords)] st := rfl

set_option maxHeartbeats 4000000 in
theorem run_ref_allWords (l : List Int) (hp : Sm l) (K : KK) (hK : K (.one (dB (okWords l))) []) : ∃ m, goD Γ_ref_allWords tab fn_ref_allWords 0 K m [.code (bodyOf fn_ref_allWords)] (initSt [.one (dL l)] []) := by
  refine ⟨1, ?_⟩
  rw [ref_allWords_w, ref_allWords_vc _ _ _ _ rfl]
  refine ⟨hp, ?_⟩
  rw [Bool.not_not]
  exact hK
theorem sound_ref_allWords : SoundC Tryz.prog tab n_ref_allWords c_ref_allWords := soundC_of ok_ref_allWords hf_ref_allWords hB_ref_allWords (by
  intro vs bs p v bs' h hp
  unfold c_ref_allWords at h
  split at h
  · cases h
    exact ⟨by kernel_rfl, rfl, .inl (run_ref_allWords _ hp.1 _ ⟨rfl, rfl⟩)⟩
  · cases h)

def c_ref_CheckFlash : Contract := fun vs bs => match vs, bs with
  | [.agg [.dat (.list .int) ws, .dat .int fu]], [] => some (some (Sm ws), .one (.dat .int (checkFlash ⟨ws, fu⟩)), [])
  | _, _ => none
def Γ_ref_CheckFlash : Ctx := [(n_ref_allWords, c_ref_allWords)]
theorem ok_ref_CheckFlash : Ok Tryz.prog tab Γ_ref_CheckFlash := (ok_nil.consC hf_ref_allWords hB_ref_allWords sound_ref_allWords)
theorem ref_CheckFlash_vc (ws : List Int) (fu : Int) (rec : RK) (K : KK) v0 (hv0 : v0 = (okWords ws)) v1 (hv1 : v1 = (br (lti fu (-(1 : Int)))
 (K (.one (dI (3 : Int))) [])
 (br (lti (100000 : Int) fu)
 (K (.one (dI (3 : Int))) [])
 (((List.length ws) ≤ 140737488355328) ∧
 (br (!v0)
 (K (.one (dI (3 : Int))) [])
 (K (.one (dI (0 : Int))) [])))))) : segD Γ_ref_CheckFlash tab fn_ref_CheckFlash 0 K rec [.code (bodyOf fn_ref_CheckFlash)] (initSt [.agg [dL ws, dI fu]] []) = (
 br (!(eqi (((len ws) : Nat) : Int) (32 : Int)))
 (br (!(eqi (((len ws) : Nat) : Int) (64 : Int)))
 (br (!(eqi (((len ws) : Nat) : Int) (96 : Int)))
 (br (!(eqi (((len ws) : Nat) : Int) (128 : Int)))
 (br (!(eqi (((len ws) : Nat) : Int) (160 : Int)))
 (br (!(eqi (((len ws) : Nat) : Int) (192 : Int)))
 (K (.one (dI (4 : Int))) [])
 v1)
 v1)
 v1)
 v1)
 v1)
 v1) := by subst_vars; kernel_rfl
theorem ref_CheckFlash_w (m : Nat) (K : KK) (st : St) : goD Γ_ref_CheckFlash tab fn_ref_CheckFlash 0 K (m + 1) [.code (bodyOf fn_ref_CheckFlash)] st = segD Γ_ref_CheckFlash tab fn_ref_CheckFlash 0 K (goD Γ_ref_CheckFlash tab fn_ref_CheckFlash 0 K m) [.code (bodyOf fn_ref_CheckFlash)] st := rfl

set_option maxHeartbeats 4000000 in
theorem run_ref_CheckFlash (ws : List Int) (fu : Int) (hp : Sm ws) (K : KK) (hK : K (.one (dI (checkFlash ⟨ws, fu⟩))) []) : ∃ m, goD Γ_ref_CheckFlash tab fn_ref_CheckFlash 0 K m [.code (bodyOf fn_ref_CheckFlash)] (initSt [.agg [dL ws, dI fu]] []) := by
  refine ⟨1, ?_⟩
  rw [ref_CheckFlash_w, ref_CheckFlash_vc _ _ _ _ _ rfl _ rfl]
  have good : okLen ws.length = true → br (lti fu (-(1 : Int))) (K (.one (dI (3 : Int))) []) (br (lti (100000 : Int) fu) (K (.one (dI (3 : Int))) []) (((List.length ws) ≤ 140737488355328) ∧ (br (!(okWords ws)) (K (.one (dI (3 : Int))) []) (K (.one (dI (0 : Int))) [])))) := fun hl => by
    have three : (decide (-1 ≤ fu) && decide (fu ≤ 100000) && okWords ws) = false → K (.one (dI 3)) [] := fun h => by
      rw [show checkFlash ⟨ws, fu⟩ = 3 from by simp [checkFlash, hl, h]] at hK; exact hK
    refine lt_s (fun h => three (by simp; omega)) (fun h => lt_s (fun h2 => three (by simp; omega)) (fun h2 => ⟨hp, nt_s (fun h3 => three (by simp [h3])) (fun h3 => ?_)⟩))
    rw [show checkFlash ⟨ws, fu⟩ = 0 from checkFlash_mk hl h h2 h3] at hK; exact hK
  simp only [len]
  refine ne_s (fun h1 => ne_s (fun h2 => ne_s (fun h3 => ne_s (fun h4 => ne_s (fun h5 => ne_s (fun h6 => ?_) (fun h => good ?_)) (fun h => good ?_)) (fun h => good ?_)) (fun h => good ?_)) (fun h => good ?_)) (fun h => good ?_)
  · rw [show checkFlash ⟨ws, fu⟩ = 4 from by
      have : okLen ws.length = false := by simp [okLen]; omega
      simp [checkFlash, this]] at hK
    exact hK
  all_goals (simp [okLen]; omega)
theorem sound_ref_CheckFlash : SoundC Tryz.prog tab n_ref_CheckFlash c_ref_CheckFlash := soundC_of ok_ref_CheckFlash hf_ref_CheckFlash hB_ref_CheckFlash (by
  intro vs bs p v bs' h hp
  unfold c_ref_CheckFlash at h
  split at h
  · cases h
    exact ⟨by kernel_rfl, rfl, .inl (run_ref_CheckFlash _ _ hp.1 _ ⟨rfl, rfl⟩)⟩
  · cases h)

def c_ref_generation : Contract := fun vs bs => match vs, bs with
  | [.agg [.dat (.list .int) ws, .dat .int _], .one (.dat .int sector)], [] => some (some (0 ≤ sector ∧ sector ≤ 1 ∧ 64 ≤ len ws), .one (.dat .int (genOf ws sector.toNat)), [])
  | _, _ => none
def Γ_ref_generation : Ctx := []
theorem ok_ref_generation : Ok Tryz.prog tab Γ_ref_generation := ok_nil
theorem ref_generation_vc (ws : List Int) (fu : Int) (sector : Int) (rec : RK) (K : KK) : segD Γ_ref_generation tab fn_ref_generation 0 K rec [.code (bodyOf fn_ref_generation)] (initSt [.agg [dL ws, dI fu], .one (dI sector)] []) = (
 (((0 : Int) ≤ (w64 ((32 : Int) * sector))) ∧ ((w64 ((32 : Int) * sector)) < (((len ws) : Nat) : Int))) ∧
 (br (!(eqi (nth ws (Int.toNat (w64 ((32 : Int) * sector))) (Ty.dflt Ty.int)) (65535 : Int)))
 (K (.one (dI (nth ws (Int.toNat (w64 ((32 : Int) * sector))) (Ty.dflt Ty.int)))) [])
 (K (.one (dI (0 : Int))) []))) := by kernel_rfl
theorem ref_generation_w (m : Nat) (K : KK) (st : St) : goD Γ_ref_generation tab fn_ref_generation 0 K (m + 1) [.code (bodyOf fn_ref_generation)] st = segD Γ_ref_generation tab fn_ref_generation 0 K (goD Γ_ref_generation tab fn_ref_generation 0 K m) [.code (bodyOf fn_ref_generation)] st := rfl

set_option maxHeartbeats 4000000 in
theorem run_ref_generation (ws : List Int) (fu sector : Int) (hp : 0 ≤ sector ∧ sector ≤ 1 ∧ 64 ≤ len ws) (K : KK) (hK : K (.one (dI (genOf ws sector.toNat))) []) : ∃ m, goD Γ_ref_generation tab fn_ref_generation 0 K m [.code (bodyOf fn_ref_generation)] (initSt [.agg [dL ws, dI fu], .one (dI sector)] []) := by
  obtain ⟨h0, h1, h2⟩ := hp
  obtain ⟨s, rfl⟩ := Int.eq_ofNat_of_zero_le h0
  refine ⟨1, ?_⟩
  rw [ref_generation_w, ref_generation_vc _ _ _ _ _, w64_id (n := 32 * (s : Int)) (by omega) (by omega), show Int.toNat (32 * (s : Int)) = 32 * s by omega]
  rw [toNat_nat] at hK
  unfold genOf at hK
  have e : nth ws (32 * s) (Ty.dflt Ty.int) = ws.getD (32 * s) 0 := rfl
  rw [e]
  refine ⟨⟨by omega, by omega⟩, ne_s (fun h => ?_) (fun h => ?_)⟩
  · rw [if_neg h] at hK; exact hK
  · rw [if_pos h] at hK; exact hK
theorem sound_ref_generation : SoundC Tryz.prog tab n_ref_generation c_ref_generation := soundC_of ok_ref_generation hf_ref_generation hB_ref_generation (by
  intro vs bs p v bs' h hp
  unfold c_ref_generation at h
  split at h
  · cases h
    exact ⟨by kernel_rfl, rfl, .inl (run_ref_generation _ _ _ hp.1 _ ⟨rfl, rfl⟩)⟩
  · cases h)

def c_ref_counts : Contract := fun vs bs => match vs, bs with
  | [.agg [.dat (.list .int) ws, .dat .int _]], [] => some (some (64 ≤ len ws), .tup [.one (.dat .int (liveS ws)), .one (.dat .int (liveG ws))], [])
  | _, _ => none
def Γ_ref_counts : Ctx := [(n_ref_generation, c_ref_generation)]
theorem ok_ref_counts : Ok Tryz.prog tab Γ_ref_counts := (ok_nil.consC hf_ref_generation hB_ref_generation sound_ref_generation)
theorem ref_counts_vc (ws : List Int) (fu : Int) (rec : RK) (K : KK) v0 (hv0 : v0 = (genOf ws (Int.toNat (1 : Int)))) v1 (hv1 : v1 = (genOf ws (Int.toNat (0 : Int)))) : segD Γ_ref_counts tab fn_ref_counts 0 K rec [.code (bodyOf fn_ref_counts)] (initSt [.agg [dL ws, dI fu]] []) = (
 (((0 : Int) ≤ (0 : Int)) ∧ (((0 : Int) ≤ (1 : Int)) ∧ (64 ≤ (len ws)))) ∧
 ((((0 : Int) ≤ (1 : Int)) ∧ (((1 : Int) ≤ (1 : Int)) ∧ (64 ≤ (len ws)))) ∧
 (br (lei v0 v1)
 (K (.tup [.one (dI (0 : Int)), .one (dI v1)]) [])
 (K (.tup [.one (dI (1 : Int)), .one (dI v0)]) [])))) := by subst_vars; kernel_rfl
theorem ref_counts_w (m : Nat) (K : KK) (st : St) : goD Γ_ref_counts tab fn_ref_counts 0 K (m + 1) [.code (bodyOf fn_ref_counts)] st = segD Γ_ref_counts tab fn_ref_counts 0 K (goD Γ_ref_counts tab fn_ref_counts 0 K m) [.code (bodyOf fn_ref_counts)] st := rfl

set_option maxHeartbeats 4000000 in
theorem run_ref_counts (ws : List Int) (fu : Int) (hp : 64 ≤ len ws) (K : KK) (hK : K (.tup [.one (dI (liveS ws)), .one (dI (liveG ws))]) []) : ∃ m, goD Γ_ref_counts tab fn_ref_counts 0 K m [.code (bodyOf fn_ref_counts)] (initSt [.agg [dL ws, dI fu]] []) := by
  refine ⟨1, ?_⟩
  rw [ref_counts_w, ref_counts_vc _ _ _ _ _ rfl _ rfl]
  have e0 : genOf ws (Int.toNat (0 : Int)) = genOf ws 0 := rfl
  have e1 : genOf ws (Int.toNat (1 : Int)) = genOf ws 1 := rfl
  rw [e0, e1]
  unfold liveG liveS at hK
  refine ⟨⟨by omega, by omega, hp⟩, ⟨by omega, by omega, hp⟩, br_split (fun h => ?_) (fun h => ?_)⟩
  · rw [lei_true] at h
    rw [if_neg (by omega)] at hK; exact hK
  · rw [lei_false] at h
    rw [if_pos h] at hK; exact hK
theorem sound_ref_counts : SoundC Tryz.prog tab n_ref_counts c_ref_counts := soundC_of ok_ref_counts hf_ref_counts hB_ref_counts (by
  intro vs bs p v bs' h hp
  unfold c_ref_counts at h
  split at h
  · cases h
    exact ⟨by kernel_rfl, rfl, .inl (run_ref_counts _ _ hp.1 _ ⟨rfl, rfl⟩)⟩
  · cases h)

def c_ref_CheckLog : Contract := fun vs bs => match vs, bs with
  | [.agg [.dat (.list .int) ws, .dat .int fu]], [] => some (some (Sm ws), .one (.dat .int (checkLog ⟨ws, fu⟩)), [])
  | _, _ => none
def Γ_ref_CheckLog : Ctx := [(n_ref_CheckFlash, c_ref_CheckFlash), (n_ref_counts, c_ref_counts)]
theorem ok_ref_CheckLog : Ok Tryz.prog tab Γ_ref_CheckLog := ((ok_nil.consC hf_ref_counts hB_ref_counts sound_ref_counts).consC hf_ref_CheckFlash hB_ref_CheckFlash sound_ref_CheckFlash)
theorem ref_CheckLog_vc (ws : List Int) (fu : Int) (rec : RK) (K : KK) v0 (hv0 : v0 = (checkFlash (⟨ws, fu⟩ : Flash))) v1 (hv1 : v1 = (liveG ws)) : segD Γ_ref_CheckLog tab fn_ref_CheckLog 0 K rec [.code (bodyOf fn_ref_CheckLog)] (initSt [.agg [dL ws, dI fu]] []) = (
 ((List.length ws) ≤ 140737488355328) ∧
 (br (!(eqi v0 (0 : Int)))
 (K (.one (dI v0)) [])
 (br (eqi (((len ws) : Nat) : Int) (32 : Int))
 (K (.one (dI (4 : Int))) [])
 ((64 ≤ (len ws)) ∧
 (br (eqi v1 (0 : Int))
 (K (.one (dI (5 : Int))) [])
 (br (lti (60000 : Int) v1)
 (K (.one (dI (5 : Int))) [])
 (K (.one (dI (0 : Int))) []))))))) := by subst_vars; kernel_rfl
theorem ref_CheckLog_w (m : Nat) (K : KK) (st : St) : goD Γ_ref_CheckLog tab fn_ref_CheckLog 0 K (m + 1) [.code (bodyOf fn_ref_CheckLog)] st = segD Γ_ref_CheckLog tab fn_ref_CheckLog 0 K (goD Γ_ref_CheckLog tab fn_ref_CheckLog 0 K m) [.code (bodyOf fn_ref_CheckLog)] st := rfl

set_option maxHeartbeats 4000000 in
theorem run_ref_CheckLog (ws : List Int) (fu : Int) (hp : Sm ws) (K : KK) (hK : K (.one (dI (checkLog ⟨ws, fu⟩))) []) : ∃ m, goD Γ_ref_CheckLog tab fn_ref_CheckLog 0 K m [.code (bodyOf fn_ref_CheckLog)] (initSt [.agg [dL ws, dI fu]] []) := by
  refine ⟨1, ?_⟩
  rw [ref_CheckLog_w, ref_CheckLog_vc _ _ _ _ _ rfl _ rfl]
  unfold checkLog at hK
  refine ⟨hp, ne_s (fun h => ?_) (fun h => ?_)⟩
  · rw [if_neg h] at hK; exact hK
  rw [if_pos h] at hK
  obtain ⟨c1, _, _, c4⟩ := checkFlash_ok h
  simp only at c1 c4 hK
  have hn : ws.length = 32 ∨ 64 ≤ ws.length := by simp [okLen] at c1; omega
  have gr := genOf_range c4 (liveS ws)
  have gg : liveG ws = genOf ws (liveS ws) := rfl
  refine eq_s (fun h2 => ?_) (fun h2 => ?_)
  · rw [if_neg (by simp only [len] at h2; omega)] at hK; exact hK
  have h64 : 64 ≤ ws.length := by simp only [len] at h2; omega
  rw [if_pos h64] at hK
  refine ⟨h64, eq_s (fun h3 => ?_) (fun h3 => lt_s (fun h4 => ?_) (fun h4 => ?_))⟩
  · rw [if_neg (by omega)] at hK; exact hK
  · rw [if_neg (by omega)] at hK; exact hK
  · rw [if_pos (by omega)] at hK; exact hK
theorem sound_ref_CheckLog : SoundC Tryz.prog tab n_ref_CheckLog c_ref_CheckLog := soundC_of ok_ref_CheckLog hf_ref_CheckLog hB_ref_CheckLog (by
  intro vs bs p v bs' h hp
  unfold c_ref_CheckLog at h
  split at h
  · cases h
    exact ⟨by kernel_rfl, rfl, .inl (run_ref_CheckLog _ _ hp.1 _ ⟨rfl, rfl⟩)⟩
  · cases h)

def c_ref_CheckRoot : Contract := fun vs bs => match vs, bs with
  | [.agg [.dat .int v, .dat (.list .int) ks, .dat .int t]], [] => some (none, .one (.dat .int (checkRoot v ks t)), [])
  | _, _ => none
def Γ_ref_CheckRoot : Ctx := []
theorem ok_ref_CheckRoot : Ok Tryz.prog tab Γ_ref_CheckRoot := ok_nil
noncomputable def ref_CheckRoot_L0 : List It := [.inLoop [27, 26, 25, 4, 2, 1] (Code.sub (bodyOf fn_ref_CheckRoot) [1, 1, 1, 1, 0, 1, 0, 0]), .inBlock 0, .code (Code.sub (bodyOf fn_ref_CheckRoot) [1, 1, 1, 1, 1])]
def ref_CheckRoot_S0 (x0 : Int) (x1 : Int) (x2 : (List Int)) (x3 : Int) (x4 : Int) (x5 : Int) (x6 : (List Int)) (x7 : Int) : St := ⟨[(27, .one (dI x0)), (26, .one (dI x1)), (25, .one (dL x2)), (4, .one (dI x3)), (2, .one (dI x4)), (1, .one (.ptr 0 0))], [(0, .box [dI x5, dL x6, dI x7])], 1⟩
theorem ref_CheckRoot_vc (v : Int) (ks : List Int) (t : Int) (rec : RK) (K : KK) : segD Γ_ref_CheckRoot tab fn_ref_CheckRoot 0 K rec [.code (bodyOf fn_ref_CheckRoot)] (initSt [.agg [dI v, dL ks, dI t]] []) = (
 br (lti v (1 : Int))
 (K (.one (dI (3 : Int))) [])
 (br (lti (1000 : Int) v)
 (K (.one (dI (3 : Int))) [])
 (br (lti (((len ks) : Nat) : Int) (1 : Int))
 (K (.one (dI (2 : Int))) [])
 (br (lti (6 : Int) (((len ks) : Nat) : Int))
 (K (.one (dI (2 : Int))) [])
 (rec ref_CheckRoot_L0 (ref_CheckRoot_S0 (0 : Int) (((len ks) : Nat) : Int) ks (0 : Int) (0 : Int) v ks t)))))) := by kernel_rfl
theorem ref_CheckRoot_w (m : Nat) (K : KK) (st : St) : goD Γ_ref_CheckRoot tab fn_ref_CheckRoot 0 K (m + 1) [.code (bodyOf fn_ref_CheckRoot)] st = segD Γ_ref_CheckRoot tab fn_ref_CheckRoot 0 K (goD Γ_ref_CheckRoot tab fn_ref_CheckRoot 0 K m) [.code (bodyOf fn_ref_CheckRoot)] st := rfl
theorem ref_CheckRoot_vc0 (x0 : Int) (x1 : Int) (x2 : (List Int)) (x3 : Int) (x4 : Int) (x5 : Int) (x6 : (List Int)) (x7 : Int) (rec : RK) (K : KK) v0 (hv0 : v0 = (rec ref_CheckRoot_L0 (ref_CheckRoot_S0 (w64 (x0 + (1 : Int))) x1 x2 (nth x2 (Int.toNat x0) (Ty.dflt Ty.int)) x4 x5 x6 x7))) : segD Γ_ref_CheckRoot tab fn_ref_CheckRoot 0 K rec (.code (Code.sub (bodyOf fn_ref_CheckRoot) [1, 1, 1, 1, 0, 1, 0, 0]) :: ref_CheckRoot_L0) (ref_CheckRoot_S0 x0 x1 x2 x3 x4 x5 x6 x7) = (
 br (lti x0 x1)
 ((((0 : Int) ≤ x0) ∧ (x0 < (((len x2) : Nat) : Int))) ∧
 (br (lti (nth x2 (Int.toNat x0) (Ty.dflt Ty.int)) (1 : Int))
 (K (.one (dI (3 : Int))) [])
 (br (lti (50 : Int) (nth x2 (Int.toNat x0) (Ty.dflt Ty.int)))
 (K (.one (dI (3 : Int))) [])
 (br (lti (0 : Int) x0)
 (br (lei (nth x2 (Int.toNat x0) (Ty.dflt Ty.int)) x3)
 (K (.one (dI (6 : Int))) [])
 v0)
 v0))))
 (br (lti x7 (1 : Int))
 (K (.one (dI (4 : Int))) [])
 (br (lti (((len x6) : Nat) : Int) x7)
 (K (.one (dI (4 : Int))) [])
 (K (.one (dI (0 : Int))) [])))) := by subst_vars; kernel_rfl
theorem ref_CheckRoot_w0 (m : Nat) (K : KK) (st : St) : goD Γ_ref_CheckRoot tab fn_ref_CheckRoot 0 K (m + 1) ref_CheckRoot_L0 st = segD Γ_ref_CheckRoot tab fn_ref_CheckRoot 0 K (goD Γ_ref_CheckRoot tab fn_ref_CheckRoot 0 K m) (.code (Code.sub (bodyOf fn_ref_CheckRoot) [1, 1, 1, 1, 0, 1, 0, 0]) :: ref_CheckRoot_L0) st := rfl

theorem loop_ref_CheckRoot (ks : List Int) (v t : Int) (hl : ks.length ≤ 6) (K : KK) : ∀ (d k : Nat) (last : Option Int) (x3 : Int), k + d = ks.length → ((k = 0 ∧ last = none) ∨ (0 < k ∧ last = some x3)) →
    K (.one (dI (rootEnd (keysFrom last (ks.drop k)) t ks.length))) [] →
    goD Γ_ref_CheckRoot tab fn_ref_CheckRoot 0 K (d + 1) ref_CheckRoot_L0 (ref_CheckRoot_S0 (k : Int) (((len ks) : Nat) : Int) ks x3 0 v ks t)
  | 0, k, last, x3, hk, hla, hK => by
    rw [ref_CheckRoot_w0, ref_CheckRoot_vc0 _ _ _ _ _ _ _ _ _ _ _ rfl]
    rw [List.drop_of_length_le (by omega)] at hK
    rw [show rootEnd (keysFrom last []) t ks.length = if t < 1 ∨ (ks.length : Int) < t then 4 else 0 from rfl] at hK
    refine lt_f (by simp only [len]; omega) (lt_s (fun h => ?_) (fun h => lt_s (fun h2 => ?_) (fun h2 => ?_)))
    · rw [if_pos (.inl h)] at hK; exact hK
    · rw [if_pos (.inr h2)] at hK; exact hK
    · rw [if_neg (by simp only [len] at h2; omega)] at hK; exact hK
  | d + 1, k, last, x3, hk, hla, hK => by
    rw [ref_CheckRoot_w0, ref_CheckRoot_vc0 _ _ _ _ _ _ _ _ _ _ _ rfl, toNat_nat]
    rw [drop_step (by omega) (Ty.dflt Ty.int)] at hK
    obtain ⟨x, hx⟩ : ∃ x, nth ks k (Ty.dflt Ty.int) = x := ⟨_, rfl⟩
    rw [hx] at hK ⊢
    have ek : w64 ((k : Int) + 1) = ((k + 1 : Nat) : Int) := w64_succ (by omega)
    rw [ek]
    refine lt_t (by simp only [len]; omega) ⟨⟨by omega, by simp only [len]; omega⟩, lt_s (fun h => ?_) (fun h => lt_s (fun h2 => ?_) (fun h2 => ?_))⟩
    · rw [show keysFrom last (x :: ks.drop (k + 1)) = 3 from if_pos (.inl h)] at hK; exact hK
    · rw [show keysFrom last (x :: ks.drop (k + 1)) = 3 from if_pos (.inr h2)] at hK; exact hK
    · rw [show keysFrom last (x :: ks.drop (k + 1)) = if notBehind last x then 6 else keysFrom (some x) (ks.drop (k + 1)) from if_neg (by omega)] at hK
      refine lt_s (fun h3 => ?_) (fun h3 => ?_)
      · obtain ⟨_, rfl⟩ := hla.resolve_left (fun g => by omega)
        refine br_split (fun h4 => ?_) (fun h4 => ?_)
        · rw [lei_true] at h4
          rw [if_pos (show notBehind (some x3) x = true from decide_eq_true h4)] at hK; exact hK
        · rw [lei_false] at h4
          rw [if_neg (show ¬ notBehind (some x3) x = true from by simp only [notBehind, decide_eq_true_eq]; omega)] at hK
          exact loop_ref_CheckRoot ks v t hl K d (k + 1) (some x) x (by omega) (.inr ⟨by omega, rfl⟩) hK
      · obtain ⟨_, rfl⟩ := hla.resolve_right (fun g => by omega)
        rw [if_neg (show ¬ notBehind none x = true from by simp [notBehind])] at hK
        exact loop_ref_CheckRoot ks v t hl K d (k + 1) (some x) x (by omega) (.inr ⟨by omega, rfl⟩) hK
set_option maxHeartbeats 4000000 in
theorem run_ref_CheckRoot (v : Int) (ks : List Int) (t : Int) (K : KK) (hK : K (.one (dI (checkRoot v ks t))) []) : ∃ m, goD Γ_ref_CheckRoot tab fn_ref_CheckRoot 0 K m [.code (bodyOf fn_ref_CheckRoot)] (initSt [.agg [dI v, dL ks, dI t]] []) := by
  refine ⟨ks.length + 2, ?_⟩
  rw [ref_CheckRoot_w, ref_CheckRoot_vc _ _ _ _ _]
  unfold checkRoot at hK
  refine lt_s (fun h => ?_) (fun h => lt_s (fun h2 => ?_) (fun h2 => lt_s (fun h3 => ?_) (fun h3 => lt_s (fun h4 => ?_) (fun h4 => ?_))))
  · rw [if_pos (.inl h)] at hK; exact hK
  · rw [if_pos (.inr h2)] at hK; exact hK
  · rw [if_neg (by omega), if_pos (by simp only [len] at h3; omega)] at hK; exact hK
  · rw [if_neg (by omega), if_pos (by simp only [len] at h4; omega)] at hK; exact hK
  · rw [if_neg (by omega), if_neg (by simp only [len] at h3 h4; omega)] at hK
    exact loop_ref_CheckRoot ks v t (by simp only [len] at h4; omega) K ks.length 0 none 0 (by omega) (.inl ⟨rfl, rfl⟩) hK
theorem sound_ref_CheckRoot : SoundC Tryz.prog tab n_ref_CheckRoot c_ref_CheckRoot := soundC_of ok_ref_CheckRoot hf_ref_CheckRoot hB_ref_CheckRoot (by
  intro vs bs p v bs' h hp
  unfold c_ref_CheckRoot at h
  split at h
  · cases h
    exact ⟨by kernel_rfl, rfl, .inl (run_ref_CheckRoot _ _ _ _ ⟨rfl, rfl⟩)⟩
  · cases h)

def c_ref_CheckTrust : Contract := fun vs bs => match vs, bs with
  | [.agg [.dat .int v, .dat (.list .int) ks, .dat .int t, .dat .int n]], [] => some (none, .one (.dat .int (checkTrust ⟨⟨v, ks, t⟩, n⟩)), [])
  | _, _ => none
def Γ_ref_CheckTrust : Ctx := [(n_ref_CheckRoot, c_ref_CheckRoot)]
theorem ok_ref_CheckTrust : Ok Tryz.prog tab Γ_ref_CheckTrust := (ok_nil.consC hf_ref_CheckRoot hB_ref_CheckRoot sound_ref_CheckRoot)
theorem ref_CheckTrust_vc (v : Int) (ks : List Int) (t : Int) (n : Int) (rec : RK) (K : KK) v0 (hv0 : v0 = (checkRoot v ks t)) : segD Γ_ref_CheckTrust tab fn_ref_CheckTrust 0 K rec [.code (bodyOf fn_ref_CheckTrust)] (initSt [.agg [dI v, dL ks, dI t, dI n]] []) = (
 br (lti n (0 : Int))
 (K (.one (dI (3 : Int))) [])
 (br (lti (1000 : Int) n)
 (K (.one (dI (3 : Int))) [])
 (K (.one (dI v0)) []))) := by subst_vars; kernel_rfl
theorem ref_CheckTrust_w (m : Nat) (K : KK) (st : St) : goD Γ_ref_CheckTrust tab fn_ref_CheckTrust 0 K (m + 1) [.code (bodyOf fn_ref_CheckTrust)] st = segD Γ_ref_CheckTrust tab fn_ref_CheckTrust 0 K (goD Γ_ref_CheckTrust tab fn_ref_CheckTrust 0 K m) [.code (bodyOf fn_ref_CheckTrust)] st := rfl

set_option maxHeartbeats 4000000 in
theorem run_ref_CheckTrust (v : Int) (ks : List Int) (t n : Int) (K : KK) (hK : K (.one (dI (checkTrust ⟨⟨v, ks, t⟩, n⟩))) []) : ∃ m, goD Γ_ref_CheckTrust tab fn_ref_CheckTrust 0 K m [.code (bodyOf fn_ref_CheckTrust)] (initSt [.agg [dI v, dL ks, dI t, dI n]] []) := by
  refine ⟨1, ?_⟩
  rw [ref_CheckTrust_w, ref_CheckTrust_vc _ _ _ _ _ _ _ rfl]
  unfold checkTrust at hK
  simp only at hK
  refine lt_s (fun h => ?_) (fun h => lt_s (fun h2 => ?_) (fun h2 => ?_))
  · rw [if_pos (.inl h)] at hK; exact hK
  · rw [if_pos (.inr h2)] at hK; exact hK
  · rw [if_neg (by omega)] at hK; exact hK
theorem sound_ref_CheckTrust : SoundC Tryz.prog tab n_ref_CheckTrust c_ref_CheckTrust := soundC_of ok_ref_CheckTrust hf_ref_CheckTrust hB_ref_CheckTrust (by
  intro vs bs p v bs' h hp
  unfold c_ref_CheckTrust at h
  split at h
  · cases h
    exact ⟨by kernel_rfl, rfl, .inl (run_ref_CheckTrust _ _ _ _ _ ⟨rfl, rfl⟩)⟩
  · cases h)

def c_ref_CheckGate : Contract := fun vs bs => match vs, bs with
  | [.agg [.dat (.list .int) ws, .dat .int fu, .dat .bool up, .dat .int tv, .dat (.list .int) tk, .dat .int tt, .dat .int tn, .dat (.list .bool) vo, .dat (.list .bool) di]], [] => some (some (Sm ws), .one (.dat .int (checkG ⟨⟨ws, fu⟩, up, ⟨⟨tv, tk, tt⟩, tn⟩, vo, di⟩)), [])
  | _, _ => none
def Γ_ref_CheckGate : Ctx := [(n_ref_CheckLog, c_ref_CheckLog), (n_ref_CheckTrust, c_ref_CheckTrust)]
theorem ok_ref_CheckGate : Ok Tryz.prog tab Γ_ref_CheckGate := ((ok_nil.consC hf_ref_CheckTrust hB_ref_CheckTrust sound_ref_CheckTrust).consC hf_ref_CheckLog hB_ref_CheckLog sound_ref_CheckLog)
theorem ref_CheckGate_vc (ws : List Int) (fu : Int) (up : Bool) (tv : Int) (tk : List Int) (tt : Int) (tn : Int) (vo : List Bool) (di : List Bool) (rec : RK) (K : KK) v0 (hv0 : v0 = (checkLog ⟨ws, fu⟩)) v1 (hv1 : v1 = (checkTrust ⟨⟨tv, tk, tt⟩, tn⟩)) : segD Γ_ref_CheckGate tab fn_ref_CheckGate 0 K rec [.code (bodyOf fn_ref_CheckGate)] (initSt [.agg [dL ws, dI fu, dB up, dI tv, dL tk, dI tt, dI tn, dLb vo, dLb di]] []) = (
 ((List.length ws) ≤ 140737488355328) ∧
 (br (!(eqi v0 (0 : Int)))
 (K (.one (dI v0)) [])
 (br (lti (((len vo) : Nat) : Int) (1 : Int))
 (K (.one (dI (4 : Int))) [])
 (br (lti (4 : Int) (((len vo) : Nat) : Int))
 (K (.one (dI (4 : Int))) [])
 (br (!(eqi (((len di) : Nat) : Int) (((len vo) : Nat) : Int)))
 (K (.one (dI (4 : Int))) [])
 (K (.one (dI v1)) [])))))) := by subst_vars; kernel_rfl
theorem ref_CheckGate_w (m : Nat) (K : KK) (st : St) : goD Γ_ref_CheckGate tab fn_ref_CheckGate 0 K (m + 1) [.code (bodyOf fn_ref_CheckGate)] st = segD Γ_ref_CheckGate tab fn_ref_CheckGate 0 K (goD Γ_ref_CheckGate tab fn_ref_CheckGate 0 K m) [.code (bodyOf fn_ref_CheckGate)] st := rfl

set_option maxHeartbeats 4000000 in
theorem run_ref_CheckGate (ws : List Int) (fu : Int) (up : Bool) (tv : Int) (tk : List Int) (tt tn : Int) (vo di : List Bool) (hp : Sm ws) (K : KK) (hK : K (.one (dI (checkG ⟨⟨ws, fu⟩, up, ⟨⟨tv, tk, tt⟩, tn⟩, vo, di⟩))) []) : ∃ m, goD Γ_ref_CheckGate tab fn_ref_CheckGate 0 K m [.code (bodyOf fn_ref_CheckGate)] (initSt [.agg [dL ws, dI fu, dB up, dI tv, dL tk, dI tt, dI tn, dLb vo, dLb di]] []) := by
  refine ⟨1, ?_⟩
  rw [ref_CheckGate_w, ref_CheckGate_vc _ _ _ _ _ _ _ _ _ _ _ _ rfl _ rfl]
  unfold checkG at hK
  simp only at hK
  refine ⟨hp, ne_s (fun h => ?_) (fun h => lt_s (fun h2 => ?_) (fun h2 => lt_s (fun h3 => ?_) (fun h3 => ne_s (fun h4 => ?_) (fun h4 => ?_))))⟩
  · rw [if_neg h] at hK; exact hK
  all_goals rw [if_pos h] at hK
  · rw [if_pos (by simp only [len] at h2; omega)] at hK; exact hK
  · rw [if_pos (by simp only [len] at h3; omega)] at hK; exact hK
  · rw [if_pos (by simp only [len] at h4; omega)] at hK; exact hK
  · rw [if_neg (by simp only [len] at h2 h3 h4; omega)] at hK; exact hK
theorem sound_ref_CheckGate : SoundC Tryz.prog tab n_ref_CheckGate c_ref_CheckGate := soundC_of ok_ref_CheckGate hf_ref_CheckGate hB_ref_CheckGate (by
  intro vs bs p v bs' h hp
  unfold c_ref_CheckGate at h
  split at h
  · cases h
    exact ⟨by kernel_rfl, rfl, .inl (run_ref_CheckGate _ _ _ _ _ _ _ _ _ hp.1 _ ⟨rfl, rfl⟩)⟩
  · cases h)

def c_law_simple : Contract := fun vs bs => match vs, bs with
  | [], [] => some (none, .tup [.agg [.dat (.list .str) simpleB], .one (.dat (.list .signed) simpleL), .agg [.dat .int 1, .dat (.list .int) [3], .dat .int 1, .dat .int 0], .agg [.dat (.list .root) [], .dat (.list (.list .int)) [], .dat .int 1, .dat .int 5, .dat (.list .target) [⟨0, 2, 2⟩], .dat (.list .int) [3], .dat (.list (.list .int)) [[8, 8]]]], [])
  | _, _ => none
def Γ_law_simple : Ctx := []
theorem ok_law_simple : Ok Tryz.prog tab Γ_law_simple := ok_nil
theorem law_simple_vc (rec : RK) (K : KK) : segD Γ_law_simple tab fn_law_simple 0 K rec [.code (bodyOf fn_law_simple)] (initSt [] []) = (
 K (.tup [.agg [.dat (Ty.list Ty.str) (((105 : UInt8) :: ((109 : UInt8) :: ((97 : UInt8) :: ((103 : UInt8) :: ((101 : UInt8) :: ((32 : UInt8) :: ((55 : UInt8) :: []))))))) :: (((105 : UInt8) :: ((109 : UInt8) :: ((97 : UInt8) :: ((103 : UInt8) :: ((101 : UInt8) :: ((32 : UInt8) :: ((56 : UInt8) :: ((32 : UInt8) :: ((56 : UInt8) :: []))))))))) :: (((114 : UInt8) :: ((101 : UInt8) :: ((108 : UInt8) :: ((101 : UInt8) :: ((97 : UInt8) :: ((115 : UInt8) :: ((101 : UInt8) :: ((32 : UInt8) :: ((49 : UInt8) :: ((32 : UInt8) :: ((117 : UInt8) :: ((110 : UInt8) :: ((116 : UInt8) :: ((105 : UInt8) :: ((108 : UInt8) :: ((32 : UInt8) :: ((53 : UInt8) :: ((59 : UInt8) :: ((32 : UInt8) :: ((48 : UInt8) :: ((32 : UInt8) :: ((50 : UInt8) :: ((32 : UInt8) :: ((50 : UInt8) :: [])))))))))))))))))))))))) :: (((114 : UInt8) :: ((111 : UInt8) :: ((111 : UInt8) :: ((116 : UInt8) :: ((32 : UInt8) :: ((50 : UInt8) :: ((32 : UInt8) :: ((49 : UInt8) :: ((32 : UInt8) :: ((111 : UInt8) :: ((102 : UInt8) :: ((32 : UInt8) :: ((52 : UInt8) :: []))))))))))))) :: []))))], .one (.dat (Ty.list Ty.signed) ((⟨(3 : Int), (3 : Int)⟩ : Vm.Signed) :: ((⟨(3 : Int), (4 : Int)⟩ : Vm.Signed) :: ((⟨(4 : Int), (4 : Int)⟩ : Vm.Signed) :: ((⟨(4 : Int), (3 : Int)⟩ : Vm.Signed) :: []))))), .agg [dI (1 : Int), dL ((3 : Int) :: []), dI (1 : Int), dI (0 : Int)], .agg [.dat (Ty.list Ty.root) [], dR [], dI (1 : Int), dI (5 : Int), .dat (Ty.list Ty.target) ((⟨(0 : Int), (2 : Int), (2 : Int)⟩ : Vm.Target) :: []), dL ((3 : Int) :: []), dR (((8 : Int) :: ((8 : Int) :: [])) :: [])]]) []) := by kernel_rfl
theorem law_simple_w (m : Nat) (K : KK) (st : St) : goD Γ_law_simple tab fn_law_simple 0 K (m + 1) [.code (bodyOf fn_law_simple)] st = segD Γ_law_simple tab fn_law_simple 0 K (goD Γ_law_simple tab fn_law_simple 0 K m) [.code (bodyOf fn_law_simple)] st := rfl

set_option maxHeartbeats 4000000 in
theorem run_law_simple  (K : KK) (hK : K (.tup [.agg [.dat (.list .str) simpleB], .one (.dat (.list .signed) simpleL), .agg [dI 1, dL [3], dI 1, dI 0], .agg [.dat (.list .root) [], dR [], dI 1, dI 5, .dat (.list .target) [⟨0, 2, 2⟩], dL [3], dR [[8, 8]]]]) []) : ∃ m, goD Γ_law_simple tab fn_law_simple 0 K m [.code (bodyOf fn_law_simple)] (initSt [] []) := by
  refine ⟨1, ?_⟩
  rw [law_simple_w, law_simple_vc _ _]
  exact hK
theorem sound_law_simple : SoundC Tryz.prog tab n_law_simple c_law_simple := soundC_of ok_law_simple hf_law_simple hB_law_simple (by
  intro vs bs p v bs' h hp
  unfold c_law_simple at h
  split at h
  · cases h
    exact ⟨by kernel_rfl, rfl, .inl (run_law_simple  _ ⟨rfl, rfl⟩)⟩
  · cases h)

def c_gate_decision : Contract := fun vs bs => match vs, bs with
  | [.agg [.dat .int gn, .dat .int gv, .dat .bool gc, .dat .bool ga, .dat .bool ge], .one (.dat .int u), .one (.dat .int n)], [] => some (none, .agg [.dat .int (kindG ⟨gn, gv, gc, ga, ge⟩ n), .dat .int u, .dat .int n, .dat .int 0, .dat .int 0, .dat (.list .int) [], .dat .bool false], [])
  | _, _ => none
def Γ_gate_decision : Ctx := []
theorem ok_gate_decision : Ok Tryz.prog tab Γ_gate_decision := ok_nil
theorem gate_decision_vc (gn : Int) (gv : Int) (gc : Bool) (ga : Bool) (ge : Bool) (u : Int) (n : Int) (rec : RK) (K : KK) v0 (hv0 : v0 = (K (.agg [dI (5 : Int), dI u, dI n, dI (0 : Int), dI (0 : Int), dL [], dB false]) [])) : segD Γ_gate_decision tab fn_gate_decision 0 K rec [.code (bodyOf fn_gate_decision)] (initSt [.agg [dI gn, dI gv, dB gc, dB ga, dB ge], .one (dI u), .one (dI n)] []) = (
 br gc
 (br (eqi gn n)
 (K (.agg [dI (4 : Int), dI u, dI n, dI (0 : Int), dI (0 : Int), dL [], dB false]) [])
 v0)
 v0) := by subst_vars; kernel_rfl
theorem gate_decision_w (m : Nat) (K : KK) (st : St) : goD Γ_gate_decision tab fn_gate_decision 0 K (m + 1) [.code (bodyOf fn_gate_decision)] st = segD Γ_gate_decision tab fn_gate_decision 0 K (goD Γ_gate_decision tab fn_gate_decision 0 K m) [.code (bodyOf fn_gate_decision)] st := rfl

set_option maxHeartbeats 4000000 in
theorem run_gate_decision (gn gv : Int) (gc ga ge : Bool) (u n : Int) (K : KK) (hK : K (.agg [dI (kindG ⟨gn, gv, gc, ga, ge⟩ n), dI u, dI n, dI 0, dI 0, dL [], dB false]) []) : ∃ m, goD Γ_gate_decision tab fn_gate_decision 0 K m [.code (bodyOf fn_gate_decision)] (initSt [.agg [dI gn, dI gv, dB gc, dB ga, dB ge], .one (dI u), .one (dI n)] []) := by
  refine ⟨1, ?_⟩
  rw [gate_decision_w, gate_decision_vc _ _ _ _ _ _ _ _ _ _ rfl]
  unfold kindG at hK
  cases gc
  · rw [if_neg (by simp)] at hK
    exact br_f rfl hK
  · refine br_t rfl (eq_s (fun h => ?_) (fun h => ?_))
    · rw [if_pos ⟨rfl, h⟩] at hK; exact hK
    · rw [if_neg (fun q => h q.2)] at hK; exact hK
theorem sound_gate_decision : SoundC Tryz.prog tab n_gate_decision c_gate_decision := soundC_of ok_gate_decision hf_gate_decision hB_gate_decision (by
  intro vs bs p v bs' h hp
  unfold c_gate_decision at h
  split at h
  · cases h
    exact ⟨by kernel_rfl, rfl, .inl (run_gate_decision _ _ _ _ _ _ _ _ ⟨rfl, rfl⟩)⟩
  · cases h)

def c_gate_Due : Contract := fun vs bs => match vs, bs with
  | [.agg [.dat (.list .int) ws, .dat .int fu, .dat .bool up, .dat .int tv, .dat (.list .int) tk, .dat .int tt, .dat .int tn, .dat (.list .bool) vo, .dat (.list .bool) di], .agg [.dat .int cn, .dat .int cv, .dat .int cu, .dat (.list .target) ct, .dat (.list (.list .int)) ci], .one (.dat .int u)], [] => some (some (ct.length ≤ 140737488355328 ∧ ci.length ≤ 140737488355328), .tup [.one (.dat (.list .message) (dueG ⟨⟨ws, fu⟩, up, ⟨⟨tv, tk, tt⟩, tn⟩, vo, di⟩ ⟨cn, ⟨cv, cu, ct⟩, ci⟩ u).1), .one (.dat .int (dueG ⟨⟨ws, fu⟩, up, ⟨⟨tv, tk, tt⟩, tn⟩, vo, di⟩ ⟨cn, ⟨cv, cu, ct⟩, ci⟩ u).2)], [])
  | _, _ => none
def Γ_gate_Due : Ctx := [(n_gate_up, c_gate_up), (n_gate_of, c_gate_of), (n_gate_decision, c_gate_decision), (n_slices_Clone_Lint, c_slices_Clone_Lint)]
theorem ok_gate_Due : Ok Tryz.prog tab Γ_gate_Due := ((((ok_nil.consC hf_slices_Clone_Lint hB_slices_Clone_Lint sound_slices_Clone_Lint).consC hf_gate_decision hB_gate_decision sound_gate_decision).consC hf_gate_of hB_gate_of sound_gate_of).consC hf_gate_up hB_gate_up sound_gate_up)
noncomputable def gate_Due_L0 : List It := [.inLoop [12, 11, 10, 9, 7, 6, 4, 2] (Code.sub (bodyOf fn_gate_Due) [1, 1, 1, 1, 1, 1, 1, 1, 1, 1, 0, 1, 0, 0]), .inBlock 0, .code (Code.sub (bodyOf fn_gate_Due) [1, 1, 1, 1, 1, 1, 1, 1, 1, 1, 1])]
def gate_Due_S0 (x0 : Int) (x1 : (List Int)) (x2 : Int) (x3 : Int) (x4 : (List Vm.Message)) (x5 : Int) (x6 : Int) (x7 : Bool) (x8 : Bool) (x9 : Bool) (x10 : (List Vm.Message)) (x11 : Int) (x12 : Int) (x13 : Int) (x14 : (List Vm.Target)) (x15 : (List (List Int))) : St := ⟨[(12, .one (dI x0)), (11, .one (.own 0)), (10, .one (dL x1)), (9, .one (.ptr 1 0)), (7, .one (dI x2)), (6, .one (.own 2)), (4, .one (.ptr 3 0)), (2, .one (dI x3))], [(0, .arr Ty.message x4), (1, .box [dI x5, dI x6, dB x7, dB x8, dB x9]), (2, .arr Ty.message x10), (3, .box [dI x11, dI x12, dI x13, .dat (Ty.list Ty.target) x14, dR x15])], 4⟩
theorem gate_Due_vc (ws : List Int) (fu : Int) (up : Bool) (tv : Int) (tk : List Int) (tt : Int) (tn : Int) (vo : List Bool) (di : List Bool) (cn : Int) (cv : Int) (cu : Int) (ct : List Vm.Target) (ci : List (List Int)) (u : Int) (rec : RK) (K : KK) v0 (hv0 : v0 = (upG ⟨⟨ws, fu⟩, up, ⟨⟨tv, tk, tt⟩, tn⟩, vo, di⟩)) v1 (hv1 : v1 = (ofG ⟨ws, fu⟩)) v2 (hv2 : v2 = (kindG ⟨v1.n, v1.version, v1.commit, v1.abort, v1.ended⟩ v1.n)) v3 (hv3 : v3 = (br (nth di (Int.toNat u) (Ty.dflt Ty.bool))
 (K (.tup [.one (dM []), .one (dI (0 : Int))]) [])
 (K (.tup [.one (dM ((⟨v2, u, v1.n, (0 : Int), (0 : Int), [], false⟩ : Vm.Message) :: [])), .one (dI (0 : Int))]) []))) : segD Γ_gate_Due tab fn_gate_Due 0 K rec [.code (bodyOf fn_gate_Due)] (initSt [.agg [dL ws, dI fu, dB up, dI tv, dL tk, dI tt, dI tn, dLb vo, dLb di], .agg [dI cn, dI cv, dI cu, .dat (Ty.list Ty.target) ct, dR ci], .one (dI u)] []) = (
 br (!(eqi v0 (0 : Int)))
 (K (.tup [.one (dM []), .one (dI v0)]) [])
 (br (eqi v1.n (0 : Int))
 (K (.tup [.one (dM []), .one (dI (12 : Int))]) [])
 (br v1.ended
 (K (.tup [.one (dM []), .one (dI (12 : Int))]) [])
 (br (lti u (0 : Int))
 (K (.tup [.one (dM []), .one (dI (5 : Int))]) [])
 (br (lei (((len vo) : Nat) : Int) u)
 (K (.tup [.one (dM []), .one (dI (5 : Int))]) [])
 (br (!(eqi cn v1.n))
 (K (.tup [.one (dM []), .one (dI (5 : Int))]) [])
 (br (lei (((len ci) : Nat) : Int) u)
 (K (.tup [.one (dM []), .one (dI (5 : Int))]) [])
 (br (lei (((len ct) : Nat) : Int) u)
 (K (.tup [.one (dM []), .one (dI (5 : Int))]) [])
 (br v1.commit
 ((((0 : Int) ≤ u) ∧ (u < (((len di) : Nat) : Int))) ∧
 v3)
 (br v1.abort
 ((((0 : Int) ≤ u) ∧ (u < (((len di) : Nat) : Int))) ∧
 v3)
 ((((0 : Int) ≤ u) ∧ (u < (((len vo) : Nat) : Int))) ∧
 (br (nth vo (Int.toNat u) (Ty.dflt Ty.bool))
 (K (.tup [.one (dM []), .one (dI (0 : Int))]) [])
 ((((0 : Int) ≤ u) ∧ (u < (((len ci) : Nat) : Int))) ∧
 (br (lti (40 : Int) (((len (nth ci (Int.toNat u) (Ty.dflt (Ty.list Ty.int)))) : Nat) : Int))
 (K (.tup [.one (dM []), .one (dI (2 : Int))]) [])
 (rec gate_Due_L0 (gate_Due_S0 (0 : Int) (nth ci (Int.toNat u) (Ty.dflt (Ty.list Ty.int))) (0 : Int) u [] v1.n v1.version v1.commit v1.abort v1.ended [] cn cv cu ct ci)))))))))))))))) := by subst_vars; kernel_rfl
theorem gate_Due_w (m : Nat) (K : KK) (st : St) : goD Γ_gate_Due tab fn_gate_Due 0 K (m + 1) [.code (bodyOf fn_gate_Due)] st = segD Γ_gate_Due tab fn_gate_Due 0 K (goD Γ_gate_Due tab fn_gate_Due 0 K m) [.code (bodyOf fn_gate_Due)] st := rfl
theorem gate_Due_vc0 (x0 : Int) (x1 : (List Int)) (x2 : Int) (x3 : Int) (x4 : (List Vm.Message)) (x5 : Int) (x6 : Int) (x7 : Bool) (x8 : Bool) (x9 : Bool) (x10 : (List Vm.Message)) (x11 : Int) (x12 : Int) (x13 : Int) (x14 : (List Vm.Target)) (x15 : (List (List Int))) (rec : RK) (K : KK) : segD Γ_gate_Due tab fn_gate_Due 0 K rec (.code (Code.sub (bodyOf fn_gate_Due) [1, 1, 1, 1, 1, 1, 1, 1, 1, 1, 0, 1, 0, 0]) :: gate_Due_L0) (gate_Due_S0 x0 x1 x2 x3 x4 x5 x6 x7 x8 x9 x10 x11 x12 x13 x14 x15) = (
 br (lti x0 (((len x1) : Nat) : Int))
 ((((0 : Int) ≤ x0) ∧ ((x0 ≤ (min (w64 (x0 + (8 : Int))) (((len x1) : Nat) : Int))) ∧ ((min (w64 (x0 + (8 : Int))) (((len x1) : Nat) : Int)) ≤ (((len x1) : Nat) : Int)))) ∧
 ((((len (slc x1 (Int.toNat x0) (Int.toNat (min (w64 (x0 + (8 : Int))) (((len x1) : Nat) : Int))))) * 8) ≤ 140737488355328) ∧
 (((((len x4) + (len ((⟨(1 : Int), x3, x5, x0, (0 : Int), (slc x1 (Int.toNat x0) (Int.toNat (min (w64 (x0 + (8 : Int))) (((len x1) : Nat) : Int)))), false⟩ : Vm.Message) :: []))) * 72) ≤ 140737488355328) ∧
 (rec gate_Due_L0 (gate_Due_S0 (w64 (x0 + (8 : Int))) x1 x2 x3 (cat x4 ((⟨(1 : Int), x3, x5, x0, (0 : Int), (slc x1 (Int.toNat x0) (Int.toNat (min (w64 (x0 + (8 : Int))) (((len x1) : Nat) : Int)))), false⟩ : Vm.Message) :: [])) x5 x6 x7 x8 x9 x10 x11 x12 x13 x14 x15)))))
 ((((0 : Int) ≤ x3) ∧ (x3 < (((len x14) : Nat) : Int))) ∧
 (((((len x4) + (len ((⟨(2 : Int), x3, x5, (((len x1) : Nat) : Int), ((nth x14 (Int.toNat x3) (Ty.dflt Ty.target))).image, [], false⟩ : Vm.Message) :: []))) * 72) ≤ 140737488355328) ∧
 (K (.tup [.one (dM (cat x4 ((⟨(2 : Int), x3, x5, (((len x1) : Nat) : Int), ((nth x14 (Int.toNat x3) (Ty.dflt Ty.target))).image, [], false⟩ : Vm.Message) :: []))), .one (dI (0 : Int))]) [])))) := by kernel_rfl
theorem gate_Due_w0 (m : Nat) (K : KK) (st : St) : goD Γ_gate_Due tab fn_gate_Due 0 K (m + 1) gate_Due_L0 st = segD Γ_gate_Due tab fn_gate_Due 0 K (goD Γ_gate_Due tab fn_gate_Due 0 K m) (.code (Code.sub (bodyOf fn_gate_Due) [1, 1, 1, 1, 1, 1, 1, 1, 1, 1, 0, 1, 0, 0]) :: gate_Due_L0) st := rfl

theorem loop_gate_Due (w : List Int) (u n : Int) (hw : w.length ≤ 40) (a b : Int) (c d e : Bool) (ml : List Vm.Message) (cn cv cu : Int) (ct : List Vm.Target) (ci : List (List Int)) (hu : 0 ≤ u ∧ u < (ct.length : Int)) (K : KK) :
    ∀ (f k : Nat) (acc : List Vm.Message), w.length ≤ k + 8 * f → k ≤ 48 → acc.length + f ≤ 6 → K (.tup [.one (dM (acc ++ (piecesM u n w f k ++ [⟨2, u, n, (w.length : Int), (nth ct u.toNat ⟨0, 0, 0⟩).image, [], false⟩]))), .one (dI (0 : Int))]) [] →
    goD Γ_gate_Due tab fn_gate_Due 0 K (f + 1) gate_Due_L0 (gate_Due_S0 (k : Int) w a u acc n b c d e ml cn cv cu ct ci)
  | 0, k, acc, hk, h48, ha, hK => by
    rw [gate_Due_w0, gate_Due_vc0 _ _ _ _ _ _ _ _ _ _ _ _ _ _ _ _ _ _]
    exact lt_f (by simp only [len]; omega) ⟨⟨hu.1, by simp only [len]; omega⟩, by simp only [len, List.length_cons, List.length_nil]; omega, hK⟩
  | f + 1, k, acc, hk, h48, ha, hK => by
    rw [gate_Due_w0, gate_Due_vc0 _ _ _ _ _ _ _ _ _ _ _ _ _ _ _ _ _ _]
    by_cases c : k < w.length
    · simp only [piecesM, if_pos c] at hK
      have em : min (w64 ((k : Int) + 8)) (((len w : Nat)) : Int) = ((min (k + 8) w.length : Nat) : Int) := by rw [w64_id (by omega) (by omega)]; simp only [len]; omega
      rw [em, toNat_nat, toNat_nat, show w64 ((k : Int) + 8) = ((k + 8 : Nat) : Int) by rw [w64_id (by omega) (by omega)]; omega]
      have lp : len (slc w k (min (k + 8) w.length)) ≤ 8 := by simp only [len, slc, List.length_drop, List.length_take]; omega
      refine lt_t (by simp only [len]; omega) ⟨⟨by omega, by omega, by simp only [len]; omega⟩, by omega, by simp only [len, List.length_cons, List.length_nil]; omega, ?_⟩
      refine loop_gate_Due w u n hw a b _ d e ml cn cv cu ct ci hu K f (k + 8) _ (by omega) (by omega) (by simp only [cat, List.length_append, List.length_cons, List.length_nil]; omega) ?_
      simp only [cat, List.append_assoc, List.cons_append, List.nil_append] at hK ⊢
      exact hK
    · simp only [piecesM, if_neg c] at hK
      exact lt_f (by simp only [len]; omega) ⟨⟨hu.1, by simp only [len]; omega⟩, by simp only [len, List.length_cons, List.length_nil]; omega, hK⟩
set_option maxHeartbeats 4000000 in
theorem run_gate_Due (ws : List Int) (fu : Int) (up : Bool) (tv : Int) (tk : List Int) (tt tn : Int) (vo di : List Bool)(cn cv cu : Int) (ct : List Vm.Target) (ci : List (List Int)) (u : Int) (hp : ct.length ≤ 140737488355328 ∧ ci.length ≤ 140737488355328) (K : KK) (hK : K (.tup [.one (dM (dueG ⟨⟨ws, fu⟩, up, ⟨⟨tv, tk, tt⟩, tn⟩, vo, di⟩ ⟨cn, ⟨cv, cu, ct⟩, ci⟩ u).1), .one (dI (dueG ⟨⟨ws, fu⟩, up, ⟨⟨tv, tk, tt⟩, tn⟩, vo, di⟩ ⟨cn, ⟨cv, cu, ct⟩, ci⟩ u).2)]) []) : ∃ m, goD Γ_gate_Due tab fn_gate_Due 0 K m [.code (bodyOf fn_gate_Due)] (initSt [.agg [dL ws, dI fu, dB up, dI tv, dL tk, dI tt, dI tn, dLb vo, dLb di], .agg [dI cn, dI cv, dI cu, .dat (.list .target) ct, dR ci], .one (dI u)] []) := by
  unfold dueG dueE duesG at hK
  simp only at hK
  have lv : ((len vo : Nat) : Int) = (vo.length : Int) := rfl
  have ld : ((len di : Nat) : Int) = (di.length : Int) := rfl
  have lc : ((len ci : Nat) : Int) = (ci.length : Int) := rfl
  have lt : ((len ct : Nat) : Int) = (ct.length : Int) := rfl
  obtain ⟨s, hs⟩ : ∃ s, ofG ⟨ws, fu⟩ = s := ⟨_, rfl⟩
  rw [hs] at hK
  refine ⟨7 + 1, ?_⟩
  rw [gate_Due_w, gate_Due_vc _ _ _ _ _ _ _ _ _ _ _ _ _ _ _ _ _ _ rfl _ rfl _ rfl _ rfl, hs, lv, ld, lc, lt]
  refine ne_s (fun h => ?_) (fun h => ?_)
  · rw [if_neg h, if_neg h] at hK; exact hK
  have hc : checkG ⟨⟨ws, fu⟩, up, ⟨⟨tv, tk, tt⟩, tn⟩, vo, di⟩ = 0 := upG_check h
  obtain ⟨_, v1, v2, v3, _⟩ := checkG_ok hc
  simp only at v1 v2 v3
  rw [if_pos h] at hK
  by_cases c1 : s.n = 0 ∨ s.ended = true
  · rw [if_pos c1, if_neg (by decide)] at hK
    exact eq_s (fun _ => hK) (fun q => br_t (c1.resolve_left q) hK)
  rw [if_neg c1] at hK
  simp only [not_or, Bool.not_eq_true] at c1
  refine eq_f c1.1 (br_f c1.2 ?_)
  by_cases c2 : u < 0 ∨ (vo.length : Int) ≤ u ∨ cn ≠ s.n ∨ (ci.length : Int) ≤ u ∨ (ct.length : Int) ≤ u
  · rw [if_pos c2, if_neg (by decide)] at hK
    exact lt_s (fun _ => hK) (fun q1 => br_split (fun _ => hK) (fun q2 => ne_s (fun _ => hK) (fun q3 => br_split (fun _ => hK) (fun q4 => br_t (lei_true.2 (by rw [lei_false] at q2 q4; omega)) hK))))
  rw [if_neg c2, if_pos rfl] at hK
  refine lt_f (by omega) (br_f (lei_false.2 (by omega)) (ne_f (by omega) (br_f (lei_false.2 (by omega)) (br_f (lei_false.2 (by omega)) ?_))))
  have dec : s.commit = true ∨ s.abort = true → br (nth di (Int.toNat u) (Ty.dflt Ty.bool)) (K (.tup [.one (dM []), .one (dI (0 : Int))]) [])
      (K (.tup [.one (dM ((⟨kindG s s.n, u, s.n, (0 : Int), (0 : Int), [], false⟩ : Vm.Message) :: [])), .one (dI (0 : Int))]) []) := fun hd => by
    rw [if_pos hd] at hK
    refine br_split (fun q => ?_) (fun q => ?_)
    · rw [if_pos (by exact q)] at hK; exact hK
    · rw [if_neg (by exact Bool.eq_false_iff.1 q)] at hK; exact hK
  refine br_split (fun d1 => ⟨⟨by omega, by omega⟩, dec (.inl d1)⟩) (fun d1 => br_split (fun d2 => ⟨⟨by omega, by omega⟩, dec (.inr d2)⟩) (fun d2 => ⟨⟨by omega, by omega⟩, ?_⟩))
  rw [if_neg (by rw [d1, d2]; simp)] at hK
  refine br_split (fun q => ?_) (fun q => ⟨⟨by omega, by omega⟩, ?_⟩)
  · rw [if_pos (by exact q)] at hK; exact hK
  rw [if_neg (by exact Bool.eq_false_iff.1 q)] at hK
  unfold imageM at hK
  simp only at hK
  obtain ⟨w, hw⟩ : ∃ w, nth ci (Int.toNat u) (Ty.dflt (Ty.list Ty.int)) = w := ⟨_, rfl⟩
  have hw' : nth ci (Int.toNat u) [] = w := hw
  rw [hw]
  rw [hw'] at hK
  have lw : ((len w : Nat) : Int) = (w.length : Int) := rfl
  rw [lw]
  by_cases c3 : 40 < w.length
  · rw [if_pos c3] at hK
    exact lt_t (by omega) hK
  · rw [if_neg c3] at hK
    have hl := loop_gate_Due w u s.n (by omega) 0 s.version s.commit s.abort s.ended [] cn cv cu ct ci ⟨by omega, by omega⟩ K 6 0 [] (by omega) (by omega) (by simp) (by rw [List.nil_append]; exact hK)
    exact lt_f (by omega) hl
theorem sound_gate_Due : SoundC Tryz.prog tab n_gate_Due c_gate_Due := soundC_of ok_gate_Due hf_gate_Due hB_gate_Due (by
  intro vs bs p v bs' h hp
  unfold c_gate_Due at h
  split at h
  · cases h
    exact ⟨by kernel_rfl, rfl, .inl (run_gate_Due _ _ _ _ _ _ _ _ _ _ _ _ _ _ _ hp.1 _ ⟨rfl, rfl⟩)⟩
  · cases h)

abbrev n_slices_Index_Lbool_o : Nat := n_slices_Index_Lbool
noncomputable abbrev fn_slices_Index_Lbool_o : Func := fn_slices_Index_Lbool
theorem hf_slices_Index_Lbool_o : Tryz.prog.funcs[n_slices_Index_Lbool_o]? = some fn_slices_Index_Lbool_o := hf_slices_Index_Lbool
theorem hB_slices_Index_Lbool_o : fnB fn_slices_Index_Lbool_o = true := hB_slices_Index_Lbool
def c_slices_Index_Lbool_o : Contract := fun vs bs => match vs, bs with
  | [.one (.own 0), .one (.dat .bool x)], [.arr .bool l] => some (some (len l ≤ 1000), .one (.dat .int (indexB x 0 l)), [.arr .bool l])
  | _, _ => none
def Γ_slices_Index_Lbool_o : Ctx := []
theorem ok_slices_Index_Lbool_o : Ok Tryz.prog tab Γ_slices_Index_Lbool_o := ok_nil
noncomputable def slices_Index_Lbool_o_L0 : List It := [.inLoop [8, 7, 4, 0, 1] (Code.sub (bodyOf fn_slices_Index_Lbool_o) [1, 0, 1, 0, 0]), .inBlock 0, .code (Code.sub (bodyOf fn_slices_Index_Lbool_o) [1, 1])]
def slices_Index_Lbool_o_S0 (x0 : Int) (x1 : Int) (x2 : Int) (x3 : Bool) (x4 : (List Bool)) : St := ⟨[(8, .one (dI x0)), (7, .one (dI x1)), (4, .one (dI x2)), (0, .one (.own 0)), (1, .one (dB x3))], [(0, .arr Ty.bool x4)], 1⟩
theorem slices_Index_Lbool_o_vc (l : List Bool) (x : Bool) (rec : RK) (K : KK) : segD Γ_slices_Index_Lbool_o tab fn_slices_Index_Lbool_o 1 K rec [.code (bodyOf fn_slices_Index_Lbool_o)] (initSt [.one (.own 0), .one (dB x)] [.arr Ty.bool l]) = (
 rec slices_Index_Lbool_o_L0 (slices_Index_Lbool_o_S0 (0 : Int) (((len l) : Nat) : Int) (0 : Int) x l)) := by kernel_rfl
theorem slices_Index_Lbool_o_w (m : Nat) (K : KK) (st : St) : goD Γ_slices_Index_Lbool_o tab fn_slices_Index_Lbool_o 1 K (m + 1) [.code (bodyOf fn_slices_Index_Lbool_o)] st = segD Γ_slices_Index_Lbool_o tab fn_slices_Index_Lbool_o 1 K (goD Γ_slices_Index_Lbool_o tab fn_slices_Index_Lbool_o 1 K m) [.code (bodyOf fn_slices_Index_Lbool_o)] st := rfl
theorem slices_Index_Lbool_o_vc0 (x0 : Int) (x1 : Int) (x2 : Int) (x3 : Bool) (x4 : (List Bool)) (rec : RK) (K : KK) : segD Γ_slices_Index_Lbool_o tab fn_slices_Index_Lbool_o 1 K rec (.code (Code.sub (bodyOf fn_slices_Index_Lbool_o) [1, 0, 1, 0, 0]) :: slices_Index_Lbool_o_L0) (slices_Index_Lbool_o_S0 x0 x1 x2 x3 x4) = (
 br (lti x0 x1)
 ((((0 : Int) ≤ x0) ∧ (x0 < (((len x4) : Nat) : Int))) ∧
 (((Int.toNat x0) < (len x4)) ∧
 (br (eqb x3 (nth x4 (Int.toNat x0) (Ty.dflt Ty.bool)))
 (K (.one (dI x0)) [.arr Ty.bool x4])
 (rec slices_Index_Lbool_o_L0 (slices_Index_Lbool_o_S0 (w64 (x0 + (1 : Int))) x1 x2 x3 x4)))))
 (K (.one (dI (-(1 : Int)))) [.arr Ty.bool x4])) := by kernel_rfl
theorem slices_Index_Lbool_o_w0 (m : Nat) (K : KK) (st : St) : goD Γ_slices_Index_Lbool_o tab fn_slices_Index_Lbool_o 1 K (m + 1) slices_Index_Lbool_o_L0 st = segD Γ_slices_Index_Lbool_o tab fn_slices_Index_Lbool_o 1 K (goD Γ_slices_Index_Lbool_o tab fn_slices_Index_Lbool_o 1 K m) (.code (Code.sub (bodyOf fn_slices_Index_Lbool_o) [1, 0, 1, 0, 0]) :: slices_Index_Lbool_o_L0) st := rfl

theorem loop_slices_Index_Lbool_o (l : List Bool) (s : Bool) (hl : l.length ≤ 1000) (K : KK) : ∀ (d k : Nat), k + d = l.length → K (.one (dI (indexB s k (l.drop k)))) [.arr .bool l] →
    goD Γ_slices_Index_Lbool_o tab fn_slices_Index_Lbool_o 1 K (d + 1) slices_Index_Lbool_o_L0 (slices_Index_Lbool_o_S0 (k : Int) (((len l) : Nat) : Int) 0 s l)
  | 0, k, hk, hK => by
    rw [slices_Index_Lbool_o_w0, slices_Index_Lbool_o_vc0 _ _ _ _ _ _ _]
    rw [List.drop_of_length_le (by omega)] at hK
    exact lt_f (by simp only [len]; omega) hK
  | d + 1, k, hk, hK => by
    rw [slices_Index_Lbool_o_w0, slices_Index_Lbool_o_vc0 _ _ _ _ _ _ _, toNat_nat]
    rw [drop_step (by omega) (Ty.dflt Ty.bool)] at hK
    simp only [indexB] at hK
    refine lt_t (by simp only [len]; omega) ⟨⟨by omega, by simp only [len]; omega⟩, by simp only [len]; omega, br_split (fun h => ?_) (fun h => ?_)⟩
    · rw [if_pos (of_decide_eq_true h).symm] at hK; exact hK
    · rw [if_neg (fun e => of_decide_eq_false h e.symm)] at hK
      rw [w64_succ (by omega)]
      exact loop_slices_Index_Lbool_o l s hl K d (k + 1) (by omega) hK
set_option maxHeartbeats 4000000 in
theorem run_slices_Index_Lbool_o (l : List Bool) (x : Bool) (hp : len l ≤ 1000) (K : KK) (hK : K (.one (dI (indexB x 0 l))) [.arr .bool l]) : ∃ m, goD Γ_slices_Index_Lbool_o tab fn_slices_Index_Lbool_o 1 K m [.code (bodyOf fn_slices_Index_Lbool_o)] (initSt [.one (.own 0), .one (dB x)] [.arr .bool l]) := by
  refine ⟨l.length + 2, ?_⟩
  rw [slices_Index_Lbool_o_w, slices_Index_Lbool_o_vc _ _ _ _]
  exact loop_slices_Index_Lbool_o l x hp K l.length 0 (by omega) hK
theorem sound_slices_Index_Lbool_o : SoundC Tryz.prog tab n_slices_Index_Lbool_o c_slices_Index_Lbool_o := soundC_of ok_slices_Index_Lbool_o hf_slices_Index_Lbool_o hB_slices_Index_Lbool_o (by
  intro vs bs p v bs' h hp
  unfold c_slices_Index_Lbool_o at h
  split at h
  · cases h
    exact ⟨by kernel_rfl, rfl, .inl (run_slices_Index_Lbool_o _ _ hp.1 _ ⟨rfl, rfl⟩)⟩
  · cases h)

abbrev n_slices_Contains_Lbool_o : Nat := n_slices_Contains_Lbool
noncomputable abbrev fn_slices_Contains_Lbool_o : Func := fn_slices_Contains_Lbool
theorem hf_slices_Contains_Lbool_o : Tryz.prog.funcs[n_slices_Contains_Lbool_o]? = some fn_slices_Contains_Lbool_o := hf_slices_Contains_Lbool
theorem hB_slices_Contains_Lbool_o : fnB fn_slices_Contains_Lbool_o = true := hB_slices_Contains_Lbool
def c_slices_Contains_Lbool_o : Contract := fun vs bs => match vs, bs with
  | [.one (.own 0), .one (.dat .bool x)], [.arr .bool l] => some (some (len l ≤ 1000), .one (.dat .bool (hasB x l)), [.arr .bool l])
  | _, _ => none
def Γ_slices_Contains_Lbool_o : Ctx := [(n_slices_Index_Lbool_o, c_slices_Index_Lbool_o)]
theorem ok_slices_Contains_Lbool_o : Ok Tryz.prog tab Γ_slices_Contains_Lbool_o := (ok_nil.consC hf_slices_Index_Lbool_o hB_slices_Index_Lbool_o sound_slices_Index_Lbool_o)
theorem slices_Contains_Lbool_o_vc (l : List Bool) (x : Bool) (rec : RK) (K : KK) v0 (hv0 : v0 = (indexB x 0 l)) : segD Γ_slices_Contains_Lbool_o tab fn_slices_Contains_Lbool_o 1 K rec [.code (bodyOf fn_slices_Contains_Lbool_o)] (initSt [.one (.own 0), .one (dB x)] [.arr Ty.bool l]) = (
 ((len l) ≤ 1000) ∧
 (K (.one (dB (lei (0 : Int) v0))) [.arr Ty.bool l])) := by subst_vars; kernel_rfl
theorem slices_Contains_Lbool_o_w (m : Nat) (K : KK) (st : St) : goD Γ_slices_Contains_Lbool_o tab fn_slices_Contains_Lbool_o 1 K (m + 1) [.code (bodyOf fn_slices_Contains_Lbool_o)] st = segD Γ_slices_Contains_Lbool_o tab fn_slices_Contains_Lbool_o 1 K (goD Γ_slices_Contains_Lbool_o tab fn_slices_Contains_Lbool_o 1 K m) [.code (bodyOf fn_slices_Contains_Lbool_o)] st := rfl

set_option maxHeartbeats 4000000 in
theorem run_slices_Contains_Lbool_o (l : List Bool) (x : Bool) (hp : len l ≤ 1000) (K : KK) (hK : K (.one (dB (hasB x l))) [.arr .bool l]) : ∃ m, goD Γ_slices_Contains_Lbool_o tab fn_slices_Contains_Lbool_o 1 K m [.code (bodyOf fn_slices_Contains_Lbool_o)] (initSt [.one (.own 0), .one (dB x)] [.arr .bool l]) := by
  refine ⟨1, ?_⟩
  rw [slices_Contains_Lbool_o_w, slices_Contains_Lbool_o_vc _ _ _ _ _ rfl]
  exact ⟨hp, hK⟩
theorem sound_slices_Contains_Lbool_o : SoundC Tryz.prog tab n_slices_Contains_Lbool_o c_slices_Contains_Lbool_o := soundC_of ok_slices_Contains_Lbool_o hf_slices_Contains_Lbool_o hB_slices_Contains_Lbool_o (by
  intro vs bs p v bs' h hp
  unfold c_slices_Contains_Lbool_o at h
  split at h
  · cases h
    exact ⟨by kernel_rfl, rfl, .inl (run_slices_Contains_Lbool_o _ _ hp.1 _ ⟨rfl, rfl⟩)⟩
  · cases h)

def c_gate_Hear : Contract := fun vs bs => match vs, bs with
  | [.agg [.dat (.list .int) ws, .dat .int fu, .dat .bool up, .dat .int tv, .dat (.list .int) tk, .dat .int tt, .dat .int tn, .dat (.list .bool) vo, .dat (.list .bool) di], .agg [.dat .int mk, .dat .int mu, .dat .int mn, .dat .int ma, .dat .int mi, .dat (.list .int) mw, .dat .bool my]], [] => some (none, .tup [.agg [.dat (.list .int) (hearG ⟨⟨ws, fu⟩, up, ⟨⟨tv, tk, tt⟩, tn⟩, vo, di⟩ ⟨mk, mu, mn, ma, mi, mw, my⟩).1.1.f.words, .dat .int (hearG ⟨⟨ws, fu⟩, up, ⟨⟨tv, tk, tt⟩, tn⟩, vo, di⟩ ⟨mk, mu, mn, ma, mi, mw, my⟩).1.1.f.fuel, .dat .bool (hearG ⟨⟨ws, fu⟩, up, ⟨⟨tv, tk, tt⟩, tn⟩, vo, di⟩ ⟨mk, mu, mn, ma, mi, mw, my⟩).1.1.up, .dat .int (hearG ⟨⟨ws, fu⟩, up, ⟨⟨tv, tk, tt⟩, tn⟩, vo, di⟩ ⟨mk, mu, mn, ma, mi, mw, my⟩).1.1.t.r.version, .dat (.list .int) (hearG ⟨⟨ws, fu⟩, up, ⟨⟨tv, tk, tt⟩, tn⟩, vo, di⟩ ⟨mk, mu, mn, ma, mi, mw, my⟩).1.1.t.r.keys, .dat .int (hearG ⟨⟨ws, fu⟩, up, ⟨⟨tv, tk, tt⟩, tn⟩, vo, di⟩ ⟨mk, mu, mn, ma, mi, mw, my⟩).1.1.t.r.thr, .dat .int (hearG ⟨⟨ws, fu⟩, up, ⟨⟨tv, tk, tt⟩, tn⟩, vo, di⟩ ⟨mk, mu, mn, ma, mi, mw, my⟩).1.1.t.version, .dat (.list .bool) (hearG ⟨⟨ws, fu⟩, up, ⟨⟨tv, tk, tt⟩, tn⟩, vo, di⟩ ⟨mk, mu, mn, ma, mi, mw, my⟩).1.1.voted, .dat (.list .bool) (hearG ⟨⟨ws, fu⟩, up, ⟨⟨tv, tk, tt⟩, tn⟩, vo, di⟩ ⟨mk, mu, mn, ma, mi, mw, my⟩).1.1.did], .one (.dat (.list .message) (hearG ⟨⟨ws, fu⟩, up, ⟨⟨tv, tk, tt⟩, tn⟩, vo, di⟩ ⟨mk, mu, mn, ma, mi, mw, my⟩).1.2), .one (.dat .int (hearG ⟨⟨ws, fu⟩, up, ⟨⟨tv, tk, tt⟩, tn⟩, vo, di⟩ ⟨mk, mu, mn, ma, mi, mw, my⟩).2)], [])
  | _, _ => none
def Γ_gate_Hear : Ctx := [(n_gate_Check, c_gate_Check), (n_gate_Copy, c_gate_Copy), (n_gate_of_o, c_gate_of_o), (n_slices_Contains_Lbool_o, c_slices_Contains_Lbool_o), (n_gate_note, c_gate_note), (n_gate_decision, c_gate_decision)]
theorem ok_gate_Hear : Ok Tryz.prog tab Γ_gate_Hear := ((((((ok_nil.consC hf_gate_decision hB_gate_decision sound_gate_decision).consC hf_gate_note hB_gate_note sound_gate_note).consC hf_slices_Contains_Lbool_o hB_slices_Contains_Lbool_o sound_slices_Contains_Lbool_o).consC hf_gate_of_o hB_gate_of_o sound_gate_of_o).consC hf_gate_Copy hB_gate_Copy sound_gate_Copy).consC hf_gate_Check hB_gate_Check sound_gate_Check)
theorem gate_Hear_vc (ws : List Int) (fu : Int) (up : Bool) (tv : Int) (tk : List Int) (tt : Int) (tn : Int) (vo : List Bool) (di : List Bool) (mk : Int) (mu : Int) (mn : Int) (ma : Int) (mi : Int) (mw : List Int) (my : Bool) (rec : RK) (K : KK) v0 (hv0 : v0 = (checkG ⟨⟨ws, fu⟩, up, ⟨⟨tv, tk, tt⟩, tn⟩, vo, di⟩)) v1 (hv1 : v1 = (ofG ⟨ws, fu⟩)) v2 (hv2 : v2 = (hasB false (setAt di (Int.toNat mu) true))) v3 (hv3 : v3 = (noteG ⟨⟨ws, fu⟩, up, ⟨⟨tv, tk, tt⟩, tn⟩, vo, (setAt di (Int.toNat mu) true)⟩ ((4 : Int) :: (v1.n :: [])))) v4 (hv4 : v4 = (kindG ⟨v1.n, v1.version, v1.commit, v1.abort, v1.ended⟩ mn)) v5 (hv5 : v5 = (hasB false (setAt vo (Int.toNat mu) true))) v6 (hv6 : v6 = (noteG ⟨⟨ws, fu⟩, up, ⟨⟨tv, tk, tt⟩, tn⟩, (setAt vo (Int.toNat mu) true), di⟩ ((2 : Int) :: (v1.n :: [])))) v7 (hv7 : v7 = (br (eqi mk (3 : Int))
 (K (.tup [.agg [dL ws, dI fu, dB up, dI tv, dL tk, dI tt, dI tn, dLb vo, dLb di], .one (dM []), .one (dI (0 : Int))]) [])
 (br (eqi mk (6 : Int))
 (K (.tup [.agg [dL ws, dI fu, dB up, dI tv, dL tk, dI tt, dI tn, dLb vo, dLb di], .one (dM []), .one (dI (0 : Int))]) [])
 (br (eqi mk (7 : Int))
 (K (.tup [.agg [dL ws, dI fu, dB up, dI tv, dL tk, dI tt, dI tn, dLb vo, dLb di], .one (dM ((⟨v4, mu, mn, (0 : Int), (0 : Int), [], false⟩ : Vm.Message) :: [])), .one (dI (0 : Int))]) [])
 (K (.tup [.agg [dL ws, dI fu, dB up, dI tv, dL tk, dI tt, dI tn, dLb vo, dLb di], .one (dM []), .one (dI (0 : Int))]) []))))) v8 (hv8 : v8 = (br (!v2)
 (((List.length ((4 : Int) :: (v1.n :: []))) ≤ 140737488355328) ∧
 (K (.tup [.agg [dL v3.fst.f.words, dI v3.fst.f.fuel, dB v3.fst.up, dI v3.fst.t.r.version, dL v3.fst.t.r.keys, dI v3.fst.t.r.thr, dI v3.fst.t.version, dLb v3.fst.voted, dLb v3.fst.did], .one (dM []), .one (dI (0 : Int))]) []))
 (K (.tup [.agg [dL ws, dI fu, dB up, dI tv, dL tk, dI tt, dI tn, dLb vo, dLb (setAt di (Int.toNat mu) true)], .one (dM []), .one (dI (0 : Int))]) []))) v9 (hv9 : v9 = (K (.tup [.agg [dL ws, dI fu, dB up, dI tv, dL tk, dI tt, dI tn, dLb vo, dLb di], .one (dM ((⟨v4, mu, mn, (0 : Int), (0 : Int), [], false⟩ : Vm.Message) :: [])), .one (dI (0 : Int))]) [])) v10 (hv10 : v10 = (K (.tup [.agg [dL [], dI (0 : Int), dB false, dI (0 : Int), dL [], dI (0 : Int), dI (0 : Int), dLb [], dLb []], .one (dM []), .one (dI (3 : Int))]) [])) v11 (hv11 : v11 = (K (.tup [.agg [dL ws, dI fu, dB up, dI tv, dL tk, dI tt, dI tn, dLb vo, dLb di], .one (dM []), .one (dI (0 : Int))]) [])) : segD Γ_gate_Hear tab fn_gate_Hear 0 K rec [.code (bodyOf fn_gate_Hear)] (initSt [.agg [dL ws, dI fu, dB up, dI tv, dL tk, dI tt, dI tn, dLb vo, dLb di], .agg [dI mk, dI mu, dI mn, dI ma, dI mi, dL mw, dB my]] []) = (
 br (!(eqi v0 (0 : Int)))
 (K (.tup [.agg [dL [], dI (0 : Int), dB false, dI (0 : Int), dL [], dI (0 : Int), dI (0 : Int), dLb [], dLb []], .one (dM []), .one (dI v0)]) [])
 (br (lti mu (0 : Int))
 v10
 (br (lei (((len vo) : Nat) : Int) mu)
 v10
 (br (lti mn (1 : Int))
 v10
 (br (lti (8 : Int) mn)
 v10
 (((((len ws) * 8) ≤ 140737488355328) ∧ ((((len tk) * 8) ≤ 140737488355328) ∧ (((len vo) ≤ 1000) ∧ ((len di) ≤ 1000)))) ∧
 (br (!up)
 v11
 (br (eqi v1.n mn)
 (br v1.commit
 (br (eqi mk (3 : Int))
 (br (!(!v1.ended))
 v11
 v11)
 (br (eqi mk (6 : Int))
 (br (!(!v1.ended))
 v11
 ((((0 : Int) ≤ mu) ∧ (mu < (((len di) : Nat) : Int))) ∧
 (((Int.toNat mu) < (len di)) ∧
 (((len (setAt di (Int.toNat mu) true)) ≤ 1000) ∧
 v8))))
 (br (eqi mk (7 : Int))
 (br (!(!v1.ended))
 v9
 v9)
 v11)))
 (br (eqi mk (3 : Int))
 (br (!(!v1.ended))
 v11
 (br v1.abort
 v11
 (br (!my)
 v11
 ((((0 : Int) ≤ mu) ∧ (mu < (((len vo) : Nat) : Int))) ∧
 (((Int.toNat mu) < (len vo)) ∧
 (((len (setAt vo (Int.toNat mu) true)) ≤ 1000) ∧
 (br (!v5)
 (((List.length ((2 : Int) :: (v1.n :: []))) ≤ 140737488355328) ∧
 (K (.tup [.agg [dL v6.fst.f.words, dI v6.fst.f.fuel, dB v6.fst.up, dI v6.fst.t.r.version, dL v6.fst.t.r.keys, dI v6.fst.t.r.thr, dI v6.fst.t.version, dLb v6.fst.voted, dLb v6.fst.did], .one (dM []), .one (dI (0 : Int))]) []))
 (K (.tup [.agg [dL ws, dI fu, dB up, dI tv, dL tk, dI tt, dI tn, dLb (setAt vo (Int.toNat mu) true), dLb di], .one (dM []), .one (dI (0 : Int))]) []))))))))
 (br (eqi mk (6 : Int))
 (br (!(!v1.ended))
 v11
 (br (!v1.abort)
 v11
 ((((0 : Int) ≤ mu) ∧ (mu < (((len di) : Nat) : Int))) ∧
 (((Int.toNat mu) < (len di)) ∧
 (((len (setAt di (Int.toNat mu) true)) ≤ 1000) ∧
 v8)))))
 (br (eqi mk (7 : Int))
 (br (!(!v1.ended))
 v9
 (br v1.abort
 v9
 v11))
 v11))))
 (br v1.commit
 v7
 v7))))))))) := by subst_vars; kernel_rfl
theorem gate_Hear_w (m : Nat) (K : KK) (st : St) : goD Γ_gate_Hear tab fn_gate_Hear 0 K (m + 1) [.code (bodyOf fn_gate_Hear)] st = segD Γ_gate_Hear tab fn_gate_Hear 0 K (goD Γ_gate_Hear tab fn_gate_Hear 0 K m) [.code (bodyOf fn_gate_Hear)] st := rfl

set_option maxHeartbeats 4000000 in
theorem run_gate_Hear (ws : List Int) (fu : Int) (up : Bool) (tv : Int) (tk : List Int) (tt tn : Int) (vo di : List Bool)(mk mu mn ma mi : Int) (mw : List Int) (my : Bool) (K : KK) (hK : K (.tup [.agg [dL (hearG ⟨⟨ws, fu⟩, up, ⟨⟨tv, tk, tt⟩, tn⟩, vo, di⟩ ⟨mk, mu, mn, ma, mi, mw, my⟩).1.1.f.words, dI (hearG ⟨⟨ws, fu⟩, up, ⟨⟨tv, tk, tt⟩, tn⟩, vo, di⟩ ⟨mk, mu, mn, ma, mi, mw, my⟩).1.1.f.fuel, dB (hearG ⟨⟨ws, fu⟩, up, ⟨⟨tv, tk, tt⟩, tn⟩, vo, di⟩ ⟨mk, mu, mn, ma, mi, mw, my⟩).1.1.up, dI (hearG ⟨⟨ws, fu⟩, up, ⟨⟨tv, tk, tt⟩, tn⟩, vo, di⟩ ⟨mk, mu, mn, ma, mi, mw, my⟩).1.1.t.r.version, dL (hearG ⟨⟨ws, fu⟩, up, ⟨⟨tv, tk, tt⟩, tn⟩, vo, di⟩ ⟨mk, mu, mn, ma, mi, mw, my⟩).1.1.t.r.keys, dI (hearG ⟨⟨ws, fu⟩, up, ⟨⟨tv, tk, tt⟩, tn⟩, vo, di⟩ ⟨mk, mu, mn, ma, mi, mw, my⟩).1.1.t.r.thr, dI (hearG ⟨⟨ws, fu⟩, up, ⟨⟨tv, tk, tt⟩, tn⟩, vo, di⟩ ⟨mk, mu, mn, ma, mi, mw, my⟩).1.1.t.version, dLb (hearG ⟨⟨ws, fu⟩, up, ⟨⟨tv, tk, tt⟩, tn⟩, vo, di⟩ ⟨mk, mu, mn, ma, mi, mw, my⟩).1.1.voted, dLb (hearG ⟨⟨ws, fu⟩, up, ⟨⟨tv, tk, tt⟩, tn⟩, vo, di⟩ ⟨mk, mu, mn, ma, mi, mw, my⟩).1.1.did], .one (dM (hearG ⟨⟨ws, fu⟩, up, ⟨⟨tv, tk, tt⟩, tn⟩, vo, di⟩ ⟨mk, mu, mn, ma, mi, mw, my⟩).1.2), .one (dI (hearG ⟨⟨ws, fu⟩, up, ⟨⟨tv, tk, tt⟩, tn⟩, vo, di⟩ ⟨mk, mu, mn, ma, mi, mw, my⟩).2)]) []) : ∃ m, goD Γ_gate_Hear tab fn_gate_Hear 0 K m [.code (bodyOf fn_gate_Hear)] (initSt [.agg [dL ws, dI fu, dB up, dI tv, dL tk, dI tt, dI tn, dLb vo, dLb di], .agg [dI mk, dI mu, dI mn, dI ma, dI mi, dL mw, dB my]] []) := by
  refine ⟨1, ?_⟩
  rw [gate_Hear_w, gate_Hear_vc _ _ _ _ _ _ _ _ _ _ _ _ _ _ _ _ _ _ _ rfl _ rfl _ rfl _ rfl _ rfl _ rfl _ rfl _ rfl _ rfl _ rfl _ rfl _ rfl]
  refine ne_s (fun h => ?_) (fun h => ?_)
  · rw [show hearG ⟨⟨ws, fu⟩, up, ⟨⟨tv, tk, tt⟩, tn⟩, vo, di⟩ ⟨mk, mu, mn, ma, mi, mw, my⟩ = ((noGate, []), checkG ⟨⟨ws, fu⟩, up, ⟨⟨tv, tk, tt⟩, tn⟩, vo, di⟩) from by unfold hearG hearGE; rw [if_neg h, if_neg h]] at hK
    exact hK
  have lv : ((len vo : Nat) : Int) = (vo.length : Int) := rfl
  have ld : ((len di : Nat) : Int) = (di.length : Int) := rfl
  rw [lv, ld]
  by_cases c : mu < 0 ∨ (vo.length : Int) ≤ mu ∨ mn < 1 ∨ 8 < mn
  · rw [show hearG ⟨⟨ws, fu⟩, up, ⟨⟨tv, tk, tt⟩, tn⟩, vo, di⟩ ⟨mk, mu, mn, ma, mi, mw, my⟩ = ((noGate, []), 3) from by
      have e : hearGE ⟨⟨ws, fu⟩, up, ⟨⟨tv, tk, tt⟩, tn⟩, vo, di⟩ ⟨mk, mu, mn, ma, mi, mw, my⟩ = 3 := by unfold hearGE; rw [if_pos h, if_pos (by exact c)]
      unfold hearG; rw [e, if_neg (by decide)]] at hK
    exact lt_s (fun _ => hK) (fun _ => br_split (fun _ => hK) (fun h2 => lt_s (fun _ => hK) (fun _ => lt_t (by rw [lei_false] at h2; omega) hK)))
  obtain ⟨s1, s2, s3, s4⟩ := checkG_sm h
  obtain ⟨_, v1, v2, v3, _⟩ := checkG_ok h
  simp only at v1 v2 v3
  refine lt_f (by omega) (br_f (lei_false.2 (by omega)) (lt_f (by omega) (lt_f (by omega) ⟨⟨s1, s2, s3, s4⟩, ?_⟩)))
  rw [hearG_mk h (by simp only; omega)] at hK
  have lsv : len (setAt vo (Int.toNat mu) true) ≤ 1000 := by simp only [len, setAt_len]; omega
  have lsd : len (setAt di (Int.toNat mu) true) ≤ 1000 := by simp only [len, setAt_len]; omega
  have lnv : Int.toNat mu < len vo := by simp only [len]; omega
  have lnd : Int.toNat mu < len di := by simp only [len]; omega
  unfold hearsG at hK
  cases up
  · rw [if_neg (by simp)] at hK
    exact nt_t rfl hK
  rw [if_pos rfl] at hK
  refine nt_f rfl ?_
  obtain ⟨s, hs⟩ : ∃ s, ofG ⟨ws, fu⟩ = s := ⟨_, rfl⟩
  simp only [hs] at hK ⊢
  rw [show (⟨s.n, s.version, s.commit, s.abort, s.ended⟩ : Vm.GState) = s from rfl]
  obtain ⟨g, hg⟩ : ∃ g : Vm.Gate, (⟨⟨ws, fu⟩, true, ⟨⟨tv, tk, tt⟩, tn⟩, vo, di⟩ : Vm.Gate) = g := ⟨_, rfl⟩
  have hKa : hearsS g s ⟨mk, mu, mn, ma, mi, mw, my⟩ = (g, []) → K (.tup [.agg [dL ws, dI fu, dB true, dI tv, dL tk, dI tt, dI tn, dLb vo, dLb di], .one (dM []), .one (dI (0 : Int))]) [] := fun e => by rw [hg, e, ← hg] at hK; exact hK
  have hKb : hearsS g s ⟨mk, mu, mn, ma, mi, mw, my⟩ = (g, [decisionM s mu mn]) → K (.tup [.agg [dL ws, dI fu, dB true, dI tv, dL tk, dI tt, dI tn, dLb vo, dLb di], .one (dM [⟨kindG s mn, mu, mn, 0, 0, [], false⟩]), .one (dI (0 : Int))]) [] := fun e => by rw [hg, e, ← hg] at hK; exact hK
  have hKc : hearsS g s ⟨mk, mu, mn, ma, mi, mw, my⟩ = (votedG g mu, []) → K (.tup [.agg [dL ws, dI fu, dB true, dI tv, dL tk, dI tt, dI tn, dLb (setAt vo (Int.toNat mu) true), dLb di], .one (dM []), .one (dI (0 : Int))]) [] := fun e => by rw [hg, e, ← hg] at hK; exact hK
  have hKe : hearsS g s ⟨mk, mu, mn, ma, mi, mw, my⟩ = (didG g mu, []) → K (.tup [.agg [dL ws, dI fu, dB true, dI tv, dL tk, dI tt, dI tn, dLb vo, dLb (setAt di (Int.toNat mu) true)], .one (dM []), .one (dI (0 : Int))]) [] := fun e => by rw [hg, e, ← hg] at hK; exact hK
  have hKd : hearsS g s ⟨mk, mu, mn, ma, mi, mw, my⟩ = ((noteG (votedG g mu) [2, s.n]).1, []) → K (.tup [.agg [dL (noteG ⟨⟨ws, fu⟩, true, ⟨⟨tv, tk, tt⟩, tn⟩, setAt vo (Int.toNat mu) true, di⟩ [2, s.n]).1.f.words, dI (noteG ⟨⟨ws, fu⟩, true, ⟨⟨tv, tk, tt⟩, tn⟩, setAt vo (Int.toNat mu) true, di⟩ [2, s.n]).1.f.fuel, dB (noteG ⟨⟨ws, fu⟩, true, ⟨⟨tv, tk, tt⟩, tn⟩, setAt vo (Int.toNat mu) true, di⟩ [2, s.n]).1.up, dI (noteG ⟨⟨ws, fu⟩, true, ⟨⟨tv, tk, tt⟩, tn⟩, setAt vo (Int.toNat mu) true, di⟩ [2, s.n]).1.t.r.version, dL (noteG ⟨⟨ws, fu⟩, true, ⟨⟨tv, tk, tt⟩, tn⟩, setAt vo (Int.toNat mu) true, di⟩ [2, s.n]).1.t.r.keys, dI (noteG ⟨⟨ws, fu⟩, true, ⟨⟨tv, tk, tt⟩, tn⟩, setAt vo (Int.toNat mu) true, di⟩ [2, s.n]).1.t.r.thr, dI (noteG ⟨⟨ws, fu⟩, true, ⟨⟨tv, tk, tt⟩, tn⟩, setAt vo (Int.toNat mu) true, di⟩ [2, s.n]).1.t.version, dLb (noteG ⟨⟨ws, fu⟩, true, ⟨⟨tv, tk, tt⟩, tn⟩, setAt vo (Int.toNat mu) true, di⟩ [2, s.n]).1.voted, dLb (noteG ⟨⟨ws, fu⟩, true, ⟨⟨tv, tk, tt⟩, tn⟩, setAt vo (Int.toNat mu) true, di⟩ [2, s.n]).1.did], .one (dM []), .one (dI (0 : Int))]) [] := fun e => by rw [hg, e, ← hg] at hK; exact hK
  have hKf : hearsS g s ⟨mk, mu, mn, ma, mi, mw, my⟩ = ((noteG (didG g mu) [4, s.n]).1, []) → K (.tup [.agg [dL (noteG ⟨⟨ws, fu⟩, true, ⟨⟨tv, tk, tt⟩, tn⟩, vo, setAt di (Int.toNat mu) true⟩ [4, s.n]).1.f.words, dI (noteG ⟨⟨ws, fu⟩, true, ⟨⟨tv, tk, tt⟩, tn⟩, vo, setAt di (Int.toNat mu) true⟩ [4, s.n]).1.f.fuel, dB (noteG ⟨⟨ws, fu⟩, true, ⟨⟨tv, tk, tt⟩, tn⟩, vo, setAt di (Int.toNat mu) true⟩ [4, s.n]).1.up, dI (noteG ⟨⟨ws, fu⟩, true, ⟨⟨tv, tk, tt⟩, tn⟩, vo, setAt di (Int.toNat mu) true⟩ [4, s.n]).1.t.r.version, dL (noteG ⟨⟨ws, fu⟩, true, ⟨⟨tv, tk, tt⟩, tn⟩, vo, setAt di (Int.toNat mu) true⟩ [4, s.n]).1.t.r.keys, dI (noteG ⟨⟨ws, fu⟩, true, ⟨⟨tv, tk, tt⟩, tn⟩, vo, setAt di (Int.toNat mu) true⟩ [4, s.n]).1.t.r.thr, dI (noteG ⟨⟨ws, fu⟩, true, ⟨⟨tv, tk, tt⟩, tn⟩, vo, setAt di (Int.toNat mu) true⟩ [4, s.n]).1.t.version, dLb (noteG ⟨⟨ws, fu⟩, true, ⟨⟨tv, tk, tt⟩, tn⟩, vo, setAt di (Int.toNat mu) true⟩ [4, s.n]).1.voted, dLb (noteG ⟨⟨ws, fu⟩, true, ⟨⟨tv, tk, tt⟩, tn⟩, vo, setAt di (Int.toNat mu) true⟩ [4, s.n]).1.did], .one (dM []), .one (dI (0 : Int))]) [] := fun e => by rw [hg, e, ← hg] at hK; exact hK
  clear hK
  have evo : (votedG g mu).voted = setAt vo (Int.toNat mu) true := by rw [← hg]; rfl
  have edi : (didG g mu).did = setAt di (Int.toNat mu) true := by rw [← hg]; rfl
  have h3 : mk = 3 → hearsS g s ⟨mk, mu, mn, ma, mi, mw, my⟩ = if s.n ≠ mn ∨ s.ended = true ∨ s.commit = true ∨ s.abort = true ∨ my = false then (g, []) else (voteG g s mu, []) := fun e => by unfold hearsS; rw [if_pos (by exact e)]
  have h6 : mk = 6 → hearsS g s ⟨mk, mu, mn, ma, mi, mw, my⟩ = if s.n ≠ mn ∨ s.ended = true ∨ (s.commit = false ∧ s.abort = false) then (g, []) else (doneG g s mu, []) := fun e => by unfold hearsS; rw [if_neg (by simp only; omega), if_pos (by exact e)]
  have h7 : mk = 7 → hearsS g s ⟨mk, mu, mn, ma, mi, mw, my⟩ = if s.n ≠ mn ∨ s.ended = true ∨ s.commit = true ∨ s.abort = true then (g, [decisionM s mu mn]) else (g, []) := fun e => by unfold hearsS; rw [if_neg (by simp only; omega), if_neg (by simp only; omega), if_pos (by exact e)]
  have h0 : mk ≠ 3 → mk ≠ 6 → mk ≠ 7 → hearsS g s ⟨mk, mu, mn, ma, mi, mw, my⟩ = (g, []) := fun a b c => by unfold hearsS; rw [if_neg (by exact a), if_neg (by exact b), if_neg (by exact c)]
  have hcc : (s.commit = true ∨ s.commit = false) := by cases s.commit <;> simp
  have haa : (s.abort = true ∨ s.abort = false) := by cases s.abort <;> simp
  have hee : (s.ended = true ∨ s.ended = false) := by cases s.ended <;> simp
  by_cases hn : s.n = mn
  · refine eq_t hn ?_
    rcases hcc with hc | hc <;> rcases haa with ha | ha <;> rcases hee with he | he <;> rw [hc, he] <;> rw [hc, ha, he, hn] at h3 h6 h7 <;> simp only [ne_eq, not_true_eq_false, Bool.true_eq_false, Bool.false_eq_true, true_or, or_true, false_or, or_false, and_false, false_and, and_true, true_and, and_self, if_true, if_false, Bool.not_eq_false] at h3 h6 h7
    all_goals
      try rw [ha]
      try simp only [br, Bool.not_true, Bool.not_false]
      refine eq_s (fun k => ?_) (fun k3 => eq_s (fun k => ?_) (fun k6 => eq_s (fun k => ?_) (fun k7 => hKa (h0 k3 k6 k7))))
      · first
          | exact hKa (h3 k)
          | (refine nt_s (fun q => hKa (by rw [h3 k, if_pos q])) (fun q => ⟨⟨by omega, by omega⟩, lnv, lsv, ?_⟩)
             refine nt_s (fun q2 => ⟨by simp, hKd (by rw [h3 k, if_neg (by rw [q]; simp)]; unfold voteG; rw [evo, q2]; rfl)⟩) (fun q2 => hKc (by rw [h3 k, if_neg (by rw [q]; simp)]; unfold voteG; rw [evo, q2]; rfl)))
      · first
          | exact hKa (h6 k)
          | (refine ⟨⟨by omega, by omega⟩, lnd, lsd, nt_s (fun q2 => ⟨by simp, hKf (by rw [h6 k]; unfold doneG; rw [edi, q2]; rfl)⟩) (fun q2 => hKe (by rw [h6 k]; unfold doneG; rw [edi, q2]; rfl))⟩)
      · first
          | exact hKb (h7 k)
          | exact hKa (h7 k)
  · refine eq_f hn ?_
    rw [if_pos (.inl hn)] at h3 h6 h7
    refine br_split (fun _ => ?_) (fun _ => ?_) <;> exact eq_s (fun k => hKa (h3 k)) (fun k3 => eq_s (fun k => hKa (h6 k)) (fun k6 => eq_s (fun k => hKb (h7 k)) (fun k7 => hKa (h0 k3 k6 k7))))
theorem sound_gate_Hear : SoundC Tryz.prog tab n_gate_Hear c_gate_Hear := soundC_of ok_gate_Hear hf_gate_Hear hB_gate_Hear (by
  intro vs bs p v bs' h hp
  unfold c_gate_Hear at h
  split at h
  · cases h
    exact ⟨by kernel_rfl, rfl, .inl (run_gate_Hear _ _ _ _ _ _ _ _ _ _ _ _ _ _ _ _ _ ⟨rfl, rfl⟩)⟩
  · cases h)

def c_law_gated : Contract := fun vs bs => match vs, bs with
  | [], [] => some (none, .one (.dat .bool true), [])
  | _, _ => none
def Γ_law_gated : Ctx := [(n_law_simple, c_law_simple), (n_gate_New, c_gate_New), (n_gate_Begin, c_gate_Begin), (n_gate_Due, c_gate_Due), (n_gate_Hear, c_gate_Hear), (n_gate_Read, c_gate_Read)]
theorem ok_law_gated : Ok Tryz.prog tab Γ_law_gated := ((((((ok_nil.consC hf_gate_Read hB_gate_Read sound_gate_Read).consC hf_gate_Hear hB_gate_Hear sound_gate_Hear).consC hf_gate_Due hB_gate_Due sound_gate_Due).consC hf_gate_Begin hB_gate_Begin sound_gate_Begin).consC hf_gate_New hB_gate_New sound_gate_New).consC hf_law_simple hB_law_simple sound_law_simple)

set_option maxHeartbeats 4000000 in
theorem run_law_gated  (K : KK) (hK : K (.one (dB true)) []) : ∃ m, goD Γ_law_gated tab fn_law_gated 0 K m [.code (bodyOf fn_law_gated)] (initSt [] []) := by
  refine ⟨1, ?_⟩
  have e : goD Γ_law_gated tab fn_law_gated 0 K 1 [.code (bodyOf fn_law_gated)] (initSt [] []) = ((len [(3 : Int)] * 8 ≤ 140737488355328) ∧ (simpleB.length ≤ 140737488355328) ∧ (1 ≤ 140737488355328 ∧ 1 ≤ 140737488355328) ∧ K (.one (dB true)) []) := by kernel_rfl
  rw [e]
  exact ⟨by decide, by decide, by decide, hK⟩
theorem sound_law_gated : SoundC Tryz.prog tab n_law_gated c_law_gated := soundC_of ok_law_gated hf_law_gated hB_law_gated (by
  intro vs bs p v bs' h hp
  unfold c_law_gated at h
  split at h
  · cases h
    exact ⟨by kernel_rfl, rfl, .inl (run_law_gated  _ ⟨rfl, rfl⟩)⟩
  · cases h)

def c_slices_Equal_Lint : Contract := fun vs bs => match vs, bs with
  | [.one (.dat (.list .int) a), .one (.dat (.list .int) b)], [] => some (some (Sm a), .one (.dat .bool (eqIs a b)), [])
  | _, _ => none
def Γ_slices_Equal_Lint : Ctx := []
theorem ok_slices_Equal_Lint : Ok Tryz.prog tab Γ_slices_Equal_Lint := ok_nil
noncomputable def slices_Equal_Lint_L0 : List It := [.inLoop [13, 12, 4, 0, 1] (Code.sub (bodyOf fn_slices_Equal_Lint) [1, 1, 0, 1, 0, 0]), .inBlock 0, .code (Code.sub (bodyOf fn_slices_Equal_Lint) [1, 1, 1])]
def slices_Equal_Lint_S0 (x0 : Int) (x1 : Int) (x2 : Bool) (x3 : (List Int)) (x4 : (List Int)) : St := ⟨[(13, .one (dI x0)), (12, .one (dI x1)), (4, .one (dB x2)), (0, .one (dL x3)), (1, .one (dL x4))], [], 0⟩
theorem slices_Equal_Lint_vc (a : List Int) (b : List Int) (rec : RK) (K : KK) : segD Γ_slices_Equal_Lint tab fn_slices_Equal_Lint 0 K rec [.code (bodyOf fn_slices_Equal_Lint)] (initSt [.one (dL a), .one (dL b)] []) = (
 br (!(eqi (((len a) : Nat) : Int) (((len b) : Nat) : Int)))
 (K vF [])
 (rec slices_Equal_Lint_L0 (slices_Equal_Lint_S0 (0 : Int) (((len a) : Nat) : Int) false a b))) := by kernel_rfl
theorem slices_Equal_Lint_w (m : Nat) (K : KK) (st : St) : goD Γ_slices_Equal_Lint tab fn_slices_Equal_Lint 0 K (m + 1) [.code (bodyOf fn_slices_Equal_Lint)] st = segD Γ_slices_Equal_Lint tab fn_slices_Equal_Lint 0 K (goD Γ_slices_Equal_Lint tab fn_slices_Equal_Lint 0 K m) [.code (bodyOf fn_slices_Equal_Lint)] st := rfl
theorem slices_Equal_Lint_vc0 (x0 : Int) (x1 : Int) (x2 : Bool) (x3 : (List Int)) (x4 : (List Int)) (rec : RK) (K : KK) : segD Γ_slices_Equal_Lint tab fn_slices_Equal_Lint 0 K rec (.code (Code.sub (bodyOf fn_slices_Equal_Lint) [1, 1, 0, 1, 0, 0]) :: slices_Equal_Lint_L0) (slices_Equal_Lint_S0 x0 x1 x2 x3 x4) = (
 br (lti x0 x1)
 ((((0 : Int) ≤ x0) ∧ (x0 < (((len x3) : Nat) : Int))) ∧
 ((((0 : Int) ≤ x0) ∧ (x0 < (((len x4) : Nat) : Int))) ∧
 (br (!(eqi (nth x3 (Int.toNat x0) (Ty.dflt Ty.int)) (nth x4 (Int.toNat x0) (Ty.dflt Ty.int))))
 (K vF [])
 (rec slices_Equal_Lint_L0 (slices_Equal_Lint_S0 (w64 (x0 + (1 : Int))) x1 x2 x3 x4)))))
 (K vT [])) := by kernel_rfl
theorem slices_Equal_Lint_w0 (m : Nat) (K : KK) (st : St) : goD Γ_slices_Equal_Lint tab fn_slices_Equal_Lint 0 K (m + 1) slices_Equal_Lint_L0 st = segD Γ_slices_Equal_Lint tab fn_slices_Equal_Lint 0 K (goD Γ_slices_Equal_Lint tab fn_slices_Equal_Lint 0 K m) (.code (Code.sub (bodyOf fn_slices_Equal_Lint) [1, 1, 0, 1, 0, 0]) :: slices_Equal_Lint_L0) st := rfl

theorem loop_slices_Equal_Lint (a b : List Int) (hl : a.length = b.length) (hs : Sm a) (K : KK) (hK : K (.one (dB (eqIs a b))) []) : ∀ (d k : Nat), k + d = a.length → a.take k = b.take k →
    goD Γ_slices_Equal_Lint tab fn_slices_Equal_Lint 0 K (d + 1) slices_Equal_Lint_L0 (slices_Equal_Lint_S0 (k : Int) (((len a) : Nat) : Int) false a b)
  | 0, k, hk, he => by
    rw [slices_Equal_Lint_w0, slices_Equal_Lint_vc0 _ _ _ _ _ _ _]
    refine lt_f (by simp only [len]; omega) ?_
    rw [List.take_of_length_le (by omega), List.take_of_length_le (by omega)] at he
    rw [show eqIs a b = true from by simp [eqIs, he]] at hK
    exact hK
  | d + 1, k, hk, he => by
    unfold Sm at hs
    rw [slices_Equal_Lint_w0, slices_Equal_Lint_vc0 _ _ _ _ _ _ _]
    refine lt_t (by simp only [len]; omega) ⟨⟨by omega, by simp only [len]; omega⟩, ⟨by omega, by simp only [len]; omega⟩, ne_s (fun hne => ?_) (fun heq => ?_)⟩
    · rw [show eqIs a b = false from by simp only [eqIs, decide_eq_false_iff_not]; rintro rfl; exact hne rfl] at hK
      exact hK
    · rw [w64_succ (by omega)]
      refine loop_slices_Equal_Lint a b hl ‹Sm a› K hK d (k + 1) (by omega) ?_
      rw [take_step (by omega) (Ty.dflt Ty.int), take_step (by omega) (Ty.dflt Ty.int), he]
      rw [toNat_nat] at heq
      rw [heq]
set_option maxHeartbeats 4000000 in
theorem run_slices_Equal_Lint (a b : List Int) (hp : Sm a) (K : KK) (hK : K (.one (dB (eqIs a b))) []) : ∃ m, goD Γ_slices_Equal_Lint tab fn_slices_Equal_Lint 0 K m [.code (bodyOf fn_slices_Equal_Lint)] (initSt [.one (dL a), .one (dL b)] []) := by
  refine ⟨a.length + 2, ?_⟩
  rw [slices_Equal_Lint_w, slices_Equal_Lint_vc _ _ _ _]
  refine ne_s (fun h => ?_) (fun h => ?_)
  · rw [show eqIs a b = false from by simp only [eqIs, decide_eq_false_iff_not]; rintro rfl; exact h rfl] at hK
    exact hK
  · exact loop_slices_Equal_Lint a b (by simp only [len] at h; omega) hp K hK a.length 0 (by omega) rfl
theorem sound_slices_Equal_Lint : SoundC Tryz.prog tab n_slices_Equal_Lint c_slices_Equal_Lint := soundC_of ok_slices_Equal_Lint hf_slices_Equal_Lint hB_slices_Equal_Lint (by
  intro vs bs p v bs' h hp
  unfold c_slices_Equal_Lint at h
  split at h
  · cases h
    exact ⟨by kernel_rfl, rfl, .inl (run_slices_Equal_Lint _ _ hp.1 _ ⟨rfl, rfl⟩)⟩
  · cases h)

def c_ref_SameFlash : Contract := fun vs bs => match vs, bs with
  | [.agg [.dat (.list .int) ws, .dat .int fu], .agg [.dat (.list .int) us, .dat .int fv]], [] => some (some (Sm ws), .one (.dat .bool (sameFlash ⟨ws, fu⟩ ⟨us, fv⟩)), [])
  | _, _ => none
def Γ_ref_SameFlash : Ctx := [(n_slices_Equal_Lint, c_slices_Equal_Lint)]
theorem ok_ref_SameFlash : Ok Tryz.prog tab Γ_ref_SameFlash := (ok_nil.consC hf_slices_Equal_Lint hB_slices_Equal_Lint sound_slices_Equal_Lint)
theorem ref_SameFlash_vc (ws : List Int) (fu : Int) (us : List Int) (fv : Int) (rec : RK) (K : KK) v0 (hv0 : v0 = (eqIs ws us)) : segD Γ_ref_SameFlash tab fn_ref_SameFlash 0 K rec [.code (bodyOf fn_ref_SameFlash)] (initSt [.agg [dL ws, dI fu], .agg [dL us, dI fv]] []) = (
 br (eqi fu fv)
 (((List.length ws) ≤ 140737488355328) ∧
 (K (.one (dB v0)) []))
 (K vF [])) := by subst_vars; kernel_rfl
theorem ref_SameFlash_w (m : Nat) (K : KK) (st : St) : goD Γ_ref_SameFlash tab fn_ref_SameFlash 0 K (m + 1) [.code (bodyOf fn_ref_SameFlash)] st = segD Γ_ref_SameFlash tab fn_ref_SameFlash 0 K (goD Γ_ref_SameFlash tab fn_ref_SameFlash 0 K m) [.code (bodyOf fn_ref_SameFlash)] st := rfl

set_option maxHeartbeats 4000000 in
theorem run_ref_SameFlash (ws : List Int) (fu : Int) (us : List Int) (fv : Int) (hp : Sm ws) (K : KK) (hK : K (.one (dB (sameFlash ⟨ws, fu⟩ ⟨us, fv⟩))) []) : ∃ m, goD Γ_ref_SameFlash tab fn_ref_SameFlash 0 K m [.code (bodyOf fn_ref_SameFlash)] (initSt [.agg [dL ws, dI fu], .agg [dL us, dI fv]] []) := by
  refine ⟨1, ?_⟩
  rw [ref_SameFlash_w, ref_SameFlash_vc _ _ _ _ _ _ _ rfl]
  refine eq_s (fun h => ⟨hp, ?_⟩) (fun h => ?_)
  · rw [show sameFlash ⟨ws, fu⟩ ⟨us, fv⟩ = eqIs ws us from by simp [sameFlash, h]] at hK; exact hK
  · rw [show sameFlash ⟨ws, fu⟩ ⟨us, fv⟩ = false from by simp [sameFlash, h]] at hK; exact hK
theorem sound_ref_SameFlash : SoundC Tryz.prog tab n_ref_SameFlash c_ref_SameFlash := soundC_of ok_ref_SameFlash hf_ref_SameFlash hB_ref_SameFlash (by
  intro vs bs p v bs' h hp
  unfold c_ref_SameFlash at h
  split at h
  · cases h
    exact ⟨by kernel_rfl, rfl, .inl (run_ref_SameFlash _ _ _ _ hp.1 _ ⟨rfl, rfl⟩)⟩
  · cases h)

def c_ref_SameTrust : Contract := fun vs bs => match vs, bs with
  | [.agg [.dat .int v, .dat (.list .int) ks, .dat .int t, .dat .int n], .agg [.dat .int v2, .dat (.list .int) ks2, .dat .int t2, .dat .int n2]], [] => some (some (Sm ks), .one (.dat .bool (sameTrust ⟨⟨v, ks, t⟩, n⟩ ⟨⟨v2, ks2, t2⟩, n2⟩)), [])
  | _, _ => none
def Γ_ref_SameTrust : Ctx := [(n_slices_Equal_Lint, c_slices_Equal_Lint)]
theorem ok_ref_SameTrust : Ok Tryz.prog tab Γ_ref_SameTrust := (ok_nil.consC hf_slices_Equal_Lint hB_slices_Equal_Lint sound_slices_Equal_Lint)
theorem ref_SameTrust_vc (v : Int) (ks : List Int) (t : Int) (n : Int) (v2 : Int) (ks2 : List Int) (t2 : Int) (n2 : Int) (rec : RK) (K : KK) v0 (hv0 : v0 = (eqIs ks ks2)) : segD Γ_ref_SameTrust tab fn_ref_SameTrust 0 K rec [.code (bodyOf fn_ref_SameTrust)] (initSt [.agg [dI v, dL ks, dI t, dI n], .agg [dI v2, dL ks2, dI t2, dI n2]] []) = (
 br (eqi n n2)
 (br (eqi v v2)
 (br (eqi t t2)
 (((List.length ks) ≤ 140737488355328) ∧
 (K (.one (dB v0)) []))
 (K vF []))
 (K vF []))
 (K vF [])) := by subst_vars; kernel_rfl
theorem ref_SameTrust_w (m : Nat) (K : KK) (st : St) : goD Γ_ref_SameTrust tab fn_ref_SameTrust 0 K (m + 1) [.code (bodyOf fn_ref_SameTrust)] st = segD Γ_ref_SameTrust tab fn_ref_SameTrust 0 K (goD Γ_ref_SameTrust tab fn_ref_SameTrust 0 K m) [.code (bodyOf fn_ref_SameTrust)] st := rfl

set_option maxHeartbeats 4000000 in
theorem run_ref_SameTrust (v : Int) (ks : List Int) (t n v2 : Int) (ks2 : List Int) (t2 n2 : Int) (hp : Sm ks) (K : KK) (hK : K (.one (dB (sameTrust ⟨⟨v, ks, t⟩, n⟩ ⟨⟨v2, ks2, t2⟩, n2⟩))) []) : ∃ m, goD Γ_ref_SameTrust tab fn_ref_SameTrust 0 K m [.code (bodyOf fn_ref_SameTrust)] (initSt [.agg [dI v, dL ks, dI t, dI n], .agg [dI v2, dL ks2, dI t2, dI n2]] []) := by
  refine ⟨1, ?_⟩
  rw [ref_SameTrust_w, ref_SameTrust_vc _ _ _ _ _ _ _ _ _ _ _ rfl]
  unfold sameTrust at hK
  simp only at hK
  refine br_split (fun h => br_split (fun h2 => br_split (fun h3 => ⟨hp, ?_⟩) (fun h3 => ?_)) (fun h2 => ?_)) (fun h => ?_)
  · rw [h, h2, h3] at hK; exact hK
  · rw [h, h2, h3] at hK; exact hK
  · rw [h, h2] at hK; exact hK
  · rw [h] at hK; exact hK
theorem sound_ref_SameTrust : SoundC Tryz.prog tab n_ref_SameTrust c_ref_SameTrust := soundC_of ok_ref_SameTrust hf_ref_SameTrust hB_ref_SameTrust (by
  intro vs bs p v bs' h hp
  unfold c_ref_SameTrust at h
  split at h
  · cases h
    exact ⟨by kernel_rfl, rfl, .inl (run_ref_SameTrust _ _ _ _ _ _ _ _ hp.1 _ ⟨rfl, rfl⟩)⟩
  · cases h)

def c_slices_Equal_Lbool : Contract := fun vs bs => match vs, bs with
  | [.one (.dat (.list .bool) a), .one (.dat (.list .bool) b)], [] => some (some (len a ≤ 140737488355328), .one (.dat .bool (eqBs a b)), [])
  | _, _ => none
def Γ_slices_Equal_Lbool : Ctx := []
theorem ok_slices_Equal_Lbool : Ok Tryz.prog tab Γ_slices_Equal_Lbool := ok_nil
noncomputable def slices_Equal_Lbool_L0 : List It := [.inLoop [13, 12, 4, 0, 1] (Code.sub (bodyOf fn_slices_Equal_Lbool) [1, 1, 0, 1, 0, 0]), .inBlock 0, .code (Code.sub (bodyOf fn_slices_Equal_Lbool) [1, 1, 1])]
def slices_Equal_Lbool_S0 (x0 : Int) (x1 : Int) (x2 : Bool) (x3 : (List Bool)) (x4 : (List Bool)) : St := ⟨[(13, .one (dI x0)), (12, .one (dI x1)), (4, .one (dB x2)), (0, .one (dLb x3)), (1, .one (dLb x4))], [], 0⟩
theorem slices_Equal_Lbool_vc (a : List Bool) (b : List Bool) (rec : RK) (K : KK) : segD Γ_slices_Equal_Lbool tab fn_slices_Equal_Lbool 0 K rec [.code (bodyOf fn_slices_Equal_Lbool)] (initSt [.one (dLb a), .one (dLb b)] []) = (
 br (!(eqi (((len a) : Nat) : Int) (((len b) : Nat) : Int)))
 (K vF [])
 (rec slices_Equal_Lbool_L0 (slices_Equal_Lbool_S0 (0 : Int) (((len a) : Nat) : Int) false a b))) := by kernel_rfl
theorem slices_Equal_Lbool_w (m : Nat) (K : KK) (st : St) : goD Γ_slices_Equal_Lbool tab fn_slices_Equal_Lbool 0 K (m + 1) [.code (bodyOf fn_slices_Equal_Lbool)] st = segD Γ_slices_Equal_Lbool tab fn_slices_Equal_Lbool 0 K (goD Γ_slices_Equal_Lbool tab fn_slices_Equal_Lbool 0 K m) [.code (bodyOf fn_slices_Equal_Lbool)] st := rfl
theorem slices_Equal_Lbool_vc0 (x0 : Int) (x1 : Int) (x2 : Bool) (x3 : (List Bool)) (x4 : (List Bool)) (rec : RK) (K : KK) : segD Γ_slices_Equal_Lbool tab fn_slices_Equal_Lbool 0 K rec (.code (Code.sub (bodyOf fn_slices_Equal_Lbool) [1, 1, 0, 1, 0, 0]) :: slices_Equal_Lbool_L0) (slices_Equal_Lbool_S0 x0 x1 x2 x3 x4) = (
 br (lti x0 x1)
 ((((0 : Int) ≤ x0) ∧ (x0 < (((len x3) : Nat) : Int))) ∧
 ((((0 : Int) ≤ x0) ∧ (x0 < (((len x4) : Nat) : Int))) ∧
 (br (!(eqb (nth x3 (Int.toNat x0) (Ty.dflt Ty.bool)) (nth x4 (Int.toNat x0) (Ty.dflt Ty.bool))))
 (K vF [])
 (rec slices_Equal_Lbool_L0 (slices_Equal_Lbool_S0 (w64 (x0 + (1 : Int))) x1 x2 x3 x4)))))
 (K vT [])) := by kernel_rfl
theorem slices_Equal_Lbool_w0 (m : Nat) (K : KK) (st : St) : goD Γ_slices_Equal_Lbool tab fn_slices_Equal_Lbool 0 K (m + 1) slices_Equal_Lbool_L0 st = segD Γ_slices_Equal_Lbool tab fn_slices_Equal_Lbool 0 K (goD Γ_slices_Equal_Lbool tab fn_slices_Equal_Lbool 0 K m) (.code (Code.sub (bodyOf fn_slices_Equal_Lbool) [1, 1, 0, 1, 0, 0]) :: slices_Equal_Lbool_L0) st := rfl

theorem loop_slices_Equal_Lbool (a b : List Bool) (hl : a.length = b.length) (hs : a.length ≤ 140737488355328) (K : KK) (hK : K (.one (dB (eqBs a b))) []) : ∀ (d k : Nat), k + d = a.length → a.take k = b.take k →
    goD Γ_slices_Equal_Lbool tab fn_slices_Equal_Lbool 0 K (d + 1) slices_Equal_Lbool_L0 (slices_Equal_Lbool_S0 (k : Int) (((len a) : Nat) : Int) false a b)
  | 0, k, hk, he => by
    rw [slices_Equal_Lbool_w0, slices_Equal_Lbool_vc0 _ _ _ _ _ _ _]
    refine lt_f (by simp only [len]; omega) ?_
    rw [List.take_of_length_le (by omega), List.take_of_length_le (by omega)] at he
    rw [show eqBs a b = true from decide_eq_true he] at hK
    exact hK
  | d + 1, k, hk, he => by
    rw [slices_Equal_Lbool_w0, slices_Equal_Lbool_vc0 _ _ _ _ _ _ _]
    refine lt_t (by simp only [len]; omega) ⟨⟨by omega, by simp only [len]; omega⟩, ⟨by omega, by simp only [len]; omega⟩, nt_s (fun hne => ?_) (fun heq => ?_)⟩
    · have hne := of_decide_eq_false hne
      rw [show eqBs a b = false from decide_eq_false (by rintro rfl; exact hne rfl)] at hK
      exact hK
    · have heq := of_decide_eq_true heq
      rw [w64_succ (by omega)]
      refine loop_slices_Equal_Lbool a b hl hs K hK d (k + 1) (by omega) ?_
      rw [take_step (by omega) (Ty.dflt Ty.bool), take_step (by omega) (Ty.dflt Ty.bool), he]
      rw [toNat_nat] at heq
      rw [heq]
set_option maxHeartbeats 4000000 in
theorem run_slices_Equal_Lbool (a b : List Bool) (hp : len a ≤ 140737488355328) (K : KK) (hK : K (.one (dB (eqBs a b))) []) : ∃ m, goD Γ_slices_Equal_Lbool tab fn_slices_Equal_Lbool 0 K m [.code (bodyOf fn_slices_Equal_Lbool)] (initSt [.one (dLb a), .one (dLb b)] []) := by
  refine ⟨a.length + 2, ?_⟩
  rw [slices_Equal_Lbool_w, slices_Equal_Lbool_vc _ _ _ _]
  refine ne_s (fun h => ?_) (fun h => ?_)
  · rw [show eqBs a b = false from decide_eq_false (by rintro rfl; exact h rfl)] at hK
    exact hK
  · exact loop_slices_Equal_Lbool a b (by simp only [len] at h; omega) hp K hK a.length 0 (by omega) rfl
theorem sound_slices_Equal_Lbool : SoundC Tryz.prog tab n_slices_Equal_Lbool c_slices_Equal_Lbool := soundC_of ok_slices_Equal_Lbool hf_slices_Equal_Lbool hB_slices_Equal_Lbool (by
  intro vs bs p v bs' h hp
  unfold c_slices_Equal_Lbool at h
  split at h
  · cases h
    exact ⟨by kernel_rfl, rfl, .inl (run_slices_Equal_Lbool _ _ hp.1 _ ⟨rfl, rfl⟩)⟩
  · cases h)

def c_ref_SameGate : Contract := fun vs bs => match vs, bs with
  | [.agg [.dat (.list .int) ws, .dat .int fu, .dat .bool up, .dat .int tv, .dat (.list .int) tk, .dat .int tt, .dat .int tn, .dat (.list .bool) vo, .dat (.list .bool) di], .agg [.dat (.list .int) ws2, .dat .int fu2, .dat .bool up2, .dat .int tv2, .dat (.list .int) tk2, .dat .int tt2, .dat .int tn2, .dat (.list .bool) vo2, .dat (.list .bool) di2]], [] => some (some (Sm ws ∧ Sm tk ∧ len vo ≤ 140737488355328 ∧ len di ≤ 140737488355328), .one (.dat .bool (sameGate ⟨⟨ws, fu⟩, up, ⟨⟨tv, tk, tt⟩, tn⟩, vo, di⟩ ⟨⟨ws2, fu2⟩, up2, ⟨⟨tv2, tk2, tt2⟩, tn2⟩, vo2, di2⟩)), [])
  | _, _ => none
def Γ_ref_SameGate : Ctx := [(n_ref_SameFlash, c_ref_SameFlash), (n_ref_SameTrust, c_ref_SameTrust), (n_slices_Equal_Lbool, c_slices_Equal_Lbool)]
theorem ok_ref_SameGate : Ok Tryz.prog tab Γ_ref_SameGate := (((ok_nil.consC hf_slices_Equal_Lbool hB_slices_Equal_Lbool sound_slices_Equal_Lbool).consC hf_ref_SameTrust hB_ref_SameTrust sound_ref_SameTrust).consC hf_ref_SameFlash hB_ref_SameFlash sound_ref_SameFlash)
theorem ref_SameGate_vc (ws : List Int) (fu : Int) (up : Bool) (tv : Int) (tk : List Int) (tt : Int) (tn : Int) (vo : List Bool) (di : List Bool) (ws2 : List Int) (fu2 : Int) (up2 : Bool) (tv2 : Int) (tk2 : List Int) (tt2 : Int) (tn2 : Int) (vo2 : List Bool) (di2 : List Bool) (rec : RK) (K : KK) v0 (hv0 : v0 = (sameFlash ⟨ws, fu⟩ ⟨ws2, fu2⟩)) v1 (hv1 : v1 = (sameTrust ⟨⟨tv, tk, tt⟩, tn⟩ ⟨⟨tv2, tk2, tt2⟩, tn2⟩)) v2 (hv2 : v2 = (eqBs vo vo2)) v3 (hv3 : v3 = (eqBs di di2)) : segD Γ_ref_SameGate tab fn_ref_SameGate 0 K rec [.code (bodyOf fn_ref_SameGate)] (initSt [.agg [dL ws, dI fu, dB up, dI tv, dL tk, dI tt, dI tn, dLb vo, dLb di], .agg [dL ws2, dI fu2, dB up2, dI tv2, dL tk2, dI tt2, dI tn2, dLb vo2, dLb di2]] []) = (
 ((List.length ws) ≤ 140737488355328) ∧
 (br v0
 (br (eqb up up2)
 (((List.length tk) ≤ 140737488355328) ∧
 (br v1
 (((len vo) ≤ 140737488355328) ∧
 (br v2
 (((len di) ≤ 140737488355328) ∧
 (K (.one (dB v3)) []))
 (K vF [])))
 (K vF [])))
 (K vF []))
 (K vF []))) := by subst_vars; kernel_rfl
theorem ref_SameGate_w (m : Nat) (K : KK) (st : St) : goD Γ_ref_SameGate tab fn_ref_SameGate 0 K (m + 1) [.code (bodyOf fn_ref_SameGate)] st = segD Γ_ref_SameGate tab fn_ref_SameGate 0 K (goD Γ_ref_SameGate tab fn_ref_SameGate 0 K m) [.code (bodyOf fn_ref_SameGate)] st := rfl

set_option maxHeartbeats 4000000 in
theorem run_ref_SameGate (ws : List Int) (fu : Int) (up : Bool) (tv : Int) (tk : List Int) (tt tn : Int) (vo di : List Bool)(ws2 : List Int) (fu2 : Int) (up2 : Bool) (tv2 : Int) (tk2 : List Int) (tt2 tn2 : Int) (vo2 di2 : List Bool) (hp : Sm ws ∧ Sm tk ∧ len vo ≤ 140737488355328 ∧ len di ≤ 140737488355328) (K : KK) (hK : K (.one (dB (sameGate ⟨⟨ws, fu⟩, up, ⟨⟨tv, tk, tt⟩, tn⟩, vo, di⟩ ⟨⟨ws2, fu2⟩, up2, ⟨⟨tv2, tk2, tt2⟩, tn2⟩, vo2, di2⟩))) []) : ∃ m, goD Γ_ref_SameGate tab fn_ref_SameGate 0 K m [.code (bodyOf fn_ref_SameGate)] (initSt [.agg [dL ws, dI fu, dB up, dI tv, dL tk, dI tt, dI tn, dLb vo, dLb di], .agg [dL ws2, dI fu2, dB up2, dI tv2, dL tk2, dI tt2, dI tn2, dLb vo2, dLb di2]] []) := by
  refine ⟨1, ?_⟩
  rw [ref_SameGate_w, ref_SameGate_vc _ _ _ _ _ _ _ _ _ _ _ _ _ _ _ _ _ _ _ _ _ rfl _ rfl _ rfl _ rfl]
  unfold sameGate at hK
  simp only at hK
  refine ⟨hp.1, br_split (fun h1 => br_split (fun h2 => ⟨hp.2.1, br_split (fun h3 => ⟨hp.2.2.1, br_split (fun h4 => ⟨hp.2.2.2, ?_⟩) (fun h4 => ?_)⟩) (fun h3 => ?_)⟩) (fun h2 => ?_)) (fun h1 => ?_)⟩
  · rw [h1, h2, h3, h4] at hK; exact hK
  · rw [h1, h2, h3, h4] at hK; exact hK
  · rw [h1, h2, h3] at hK; exact hK
  · rw [h1, h2] at hK; exact hK
  · rw [h1] at hK; exact hK
theorem sound_ref_SameGate : SoundC Tryz.prog tab n_ref_SameGate c_ref_SameGate := soundC_of ok_ref_SameGate hf_ref_SameGate hB_ref_SameGate (by
  intro vs bs p v bs' h hp
  unfold c_ref_SameGate at h
  split at h
  · cases h
    exact ⟨by kernel_rfl, rfl, .inl (run_ref_SameGate _ _ _ _ _ _ _ _ _ _ _ _ _ _ _ _ _ _ hp.1 _ ⟨rfl, rfl⟩)⟩
  · cases h)

abbrev n_slices_Repeat_Lint_o : Nat := n_slices_Repeat_Lint
noncomputable abbrev fn_slices_Repeat_Lint_o : Func := fn_slices_Repeat_Lint
theorem hf_slices_Repeat_Lint_o : Tryz.prog.funcs[n_slices_Repeat_Lint_o]? = some fn_slices_Repeat_Lint_o := hf_slices_Repeat_Lint
theorem hB_slices_Repeat_Lint_o : fnB fn_slices_Repeat_Lint_o = true := hB_slices_Repeat_Lint
def c_slices_Repeat_Lint_o : Contract := fun vs bs => match vs, bs with
  | [.one (.dat (.list .int) [x]), .one (.dat .int n)], [] => some (some (0 ≤ n ∧ n ≤ 1000000), .one (.own 0), [.arr .int (zeros n.toNat x)])
  | _, _ => none
def Γ_slices_Repeat_Lint_o : Ctx := [(n_math_bits_Mul, c_math_bits_Mul), (n_slices_Repeat_Lint, c_slices_Repeat_Lint)]
theorem ok_slices_Repeat_Lint_o : Ok Tryz.prog tab Γ_slices_Repeat_Lint_o := ((ok_nil.consC hf_slices_Repeat_Lint hB_slices_Repeat_Lint sound_slices_Repeat_Lint).consC hf_math_bits_Mul hB_math_bits_Mul sound_math_bits_Mul)
noncomputable def slices_Repeat_Lint_o_L0 : List It := [.inLoop [8, 7, 4] (Code.sub (bodyOf fn_slices_Repeat_Lint_o) [1, 1, 1, 1, 1, 1, 0, 0, 0]), .inBlock 0, .code (Code.sub (bodyOf fn_slices_Repeat_Lint_o) [1, 1, 1, 1, 1, 1, 1])]
def slices_Repeat_Lint_o_S0 (x0 : Int) (x1 : (List Int)) (x2 : (List Int)) : St := ⟨[(8, .one (dI x0)), (7, .one (.own 0)), (4, .one (.own 1))], [(0, .arr Ty.int x1), (1, .arr Ty.int x2)], 2⟩
theorem slices_Repeat_Lint_o_vc (x : Int) (n : Int) (rec : RK) (K : KK) v0 (hv0 : v0 = (u64w (((len (x :: [])) : Nat) : Int))) v1 (hv1 : v1 = (inU64 v0)) v2 (hv2 : v2 = (u64w n)) v3 (hv3 : v3 = (inU64 v2)) : segO Γ_slices_Repeat_Lint_o tab fn_slices_Repeat_Lint_o 0 K rec [.code (bodyOf fn_slices_Repeat_Lint_o)] (initSt [.one (dL (x :: [])), .one (dI n)] []) = (
 br (lti n (0 : Int))
 (False)
 (((v1 = true) ∧ (v3 = true)) ∧
 (br (lti (0 : Int) ((v0 * v2) / two64))
 (False)
 (br (lti (9223372036854775807 : Int) ((v0 * v2) % two64))
 (False)
 ((((0 : Int) ≤ (w64 ((v0 * v2) % two64))) ∧ ((((w64 ((v0 * v2) % two64)) * ((8 : Nat) : Int)) ≤ (140737488355328 : Int)) ∧ ((w64 ((v0 * v2) % two64)) ≤ (140737488355328 : Int)))) ∧
 (rec slices_Repeat_Lint_o_L0 (slices_Repeat_Lint_o_S0 (((min (len (zeros (Int.toNat (w64 ((v0 * v2) % two64))) (Ty.dflt Ty.int))) (len (x :: []))) : Nat) : Int) (put (zeros (Int.toNat (w64 ((v0 * v2) % two64))) (Ty.dflt Ty.int)) 0 (slc (x :: []) 0 (min (len (zeros (Int.toNat (w64 ((v0 * v2) % two64))) (Ty.dflt Ty.int))) (len (x :: []))))) []))))))) := by subst_vars; kernel_rfl
theorem slices_Repeat_Lint_o_w (m : Nat) (K : KK) (st : St) : goO Γ_slices_Repeat_Lint_o tab fn_slices_Repeat_Lint_o 0 K (m + 1) [.code (bodyOf fn_slices_Repeat_Lint_o)] st = segO Γ_slices_Repeat_Lint_o tab fn_slices_Repeat_Lint_o 0 K (goO Γ_slices_Repeat_Lint_o tab fn_slices_Repeat_Lint_o 0 K m) [.code (bodyOf fn_slices_Repeat_Lint_o)] st := rfl
theorem slices_Repeat_Lint_o_vc0 (x0 : Int) (x1 : (List Int)) (x2 : (List Int)) (rec : RK) (K : KK) : segO Γ_slices_Repeat_Lint_o tab fn_slices_Repeat_Lint_o 0 K rec (.code (Code.sub (bodyOf fn_slices_Repeat_Lint_o) [1, 1, 1, 1, 1, 1, 0, 0, 0]) :: slices_Repeat_Lint_o_L0) (slices_Repeat_Lint_o_S0 x0 x1 x2) = (
 br (lti x0 (((len x1) : Nat) : Int))
 ((((0 : Int) ≤ x0) ∧ ((x0 ≤ (((len x1) : Nat) : Int)) ∧ ((((len x1) : Nat) : Int) ≤ (((len x1) : Nat) : Int)))) ∧
 ((((0 : Int) ≤ (0 : Int)) ∧ (((0 : Int) ≤ x0) ∧ (x0 ≤ (((len x1) : Nat) : Int)))) ∧
 (((((Int.toNat (0 : Int)) + (Int.toNat (x0 - (0 : Int)))) ≤ (len x1)) ∧ (((Int.toNat x0) + (Int.toNat ((((len x1) : Nat) : Int) - x0))) ≤ (len x1))) ∧
 (rec slices_Repeat_Lint_o_L0 (slices_Repeat_Lint_o_S0 (w64 (x0 + (((min (Int.toNat ((((len x1) : Nat) : Int) - x0)) (len (slc x1 (Int.toNat (0 : Int)) ((Int.toNat (0 : Int)) + (Int.toNat (x0 - (0 : Int))))))) : Nat) : Int))) (put x1 (Int.toNat x0) (slc (slc x1 (Int.toNat (0 : Int)) ((Int.toNat (0 : Int)) + (Int.toNat (x0 - (0 : Int))))) 0 (min (Int.toNat ((((len x1) : Nat) : Int) - x0)) (len (slc x1 (Int.toNat (0 : Int)) ((Int.toNat (0 : Int)) + (Int.toNat (x0 - (0 : Int))))))))) x2)))))
 (K (.one (.own 0)) [.arr Ty.int x1])) := by kernel_rfl
theorem slices_Repeat_Lint_o_w0 (m : Nat) (K : KK) (st : St) : goO Γ_slices_Repeat_Lint_o tab fn_slices_Repeat_Lint_o 0 K (m + 1) slices_Repeat_Lint_o_L0 st = segO Γ_slices_Repeat_Lint_o tab fn_slices_Repeat_Lint_o 0 K (goO Γ_slices_Repeat_Lint_o tab fn_slices_Repeat_Lint_o 0 K m) (.code (Code.sub (bodyOf fn_slices_Repeat_Lint_o) [1, 1, 1, 1, 1, 1, 0, 0, 0]) :: slices_Repeat_Lint_o_L0) st := rfl

theorem loop_slices_Repeat_Lint_o (x : Int) (n : Nat) (hn : n ≤ 1000000) (K : KK) (hK : K (.one (.own 0)) [.arr .int (zeros n x)]) : ∀ (d k : Nat), n ≤ k + d → k ≤ n → (0 < n → 0 < k) →
    goO Γ_slices_Repeat_Lint_o tab fn_slices_Repeat_Lint_o 0 K (d + 1) slices_Repeat_Lint_o_L0 (slices_Repeat_Lint_o_S0 (k : Int) (List.replicate k x ++ List.replicate (n - k) 0) [])
  | 0, k, hd, hk, hp => by
    rw [slices_Repeat_Lint_o_w0, slices_Repeat_Lint_o_vc0 _ _ _ _ _]
    have e : k = n := by omega
    subst e
    refine lt_f (by simp [len]) ?_
    simpa [zeros] using hK
  | d + 1, k, hd, hk, hp => by
    rw [slices_Repeat_Lint_o_w0, slices_Repeat_Lint_o_vc0 _ _ _ _ _]
    have hl : len (List.replicate k x ++ List.replicate (n - k) (0 : Int)) = n := by simp [len]; omega
    rw [hl]
    by_cases c : k < n
    · refine lt_t (by omega) ⟨⟨by omega, by omega, by omega⟩, ⟨by omega, by omega, by omega⟩, ⟨by omega, by omega⟩, ?_⟩
      have e1 : slc (List.replicate k x ++ List.replicate (n - k) (0 : Int)) (Int.toNat 0) (Int.toNat 0 + Int.toNat ((k : Int) - 0)) = List.replicate k x := by
        rw [show Int.toNat 0 + Int.toNat ((k : Int) - 0) = k by omega]
        unfold slc
        rw [List.take_left' (by simp)]
        simp
      rw [e1]
      have e2 : len (List.replicate k x) = k := by simp [len]
      rw [e2]
      generalize hj : min (Int.toNat ((n : Int) - (k : Int))) k = j
      have hj' : j = min (n - k) k := by omega
      have e3 : slc (List.replicate k x) 0 j = List.replicate j x := by
        unfold slc
        rw [List.take_replicate]
        simp
        omega
      rw [e3, toNat_nat, put_rep x n k j, w64_id (by omega) (by omega), show (k : Int) + (j : Int) = ((k + j : Nat) : Int) by omega]
      exact loop_slices_Repeat_Lint_o x n hn K hK d (k + j) (by have := hp (by omega); omega) (by omega) (fun h => by have := hp h; omega)
    · have e : k = n := by omega
      subst e
      refine lt_f (by omega) ?_
      simpa [zeros] using hK
set_option maxHeartbeats 4000000 in
theorem run_slices_Repeat_Lint_o (x n : Int) (hp : 0 ≤ n ∧ n ≤ 1000000) (K : KK) (hK : K (.one (.own 0)) [.arr .int (zeros n.toNat x)]) : ∃ m, goO Γ_slices_Repeat_Lint_o tab fn_slices_Repeat_Lint_o 0 K m [.code (bodyOf fn_slices_Repeat_Lint_o)] (initSt [.one (dL [x]), .one (dI n)] []) := by
  obtain ⟨h1, h2⟩ := hp
  refine ⟨n.toNat + 2, ?_⟩
  rw [slices_Repeat_Lint_o_w, slices_Repeat_Lint_o_vc _ _ _ _ _ rfl _ rfl _ rfl _ rfl]
  have e1 : u64w (((len (x :: [])) : Nat) : Int) = 1 := by simp only [len, List.length_cons, List.length_nil]; exact u64w_id (by omega) (by omega)
  rw [e1, u64w_id (n := n) h1 (by omega), Int.one_mul]
  have e2 : n / two64 = 0 := by unfold two64; omega
  have e3 : n % two64 = n := by unfold two64; omega
  rw [e2, e3, w64_id (by omega) (by omega)]
  refine lt_f h1 ⟨⟨inU64_of (by omega) (by omega), inU64_of h1 (by omega)⟩, lt_f (by omega) (lt_f (by omega) ⟨⟨h1, by omega, by omega⟩, ?_⟩)⟩
  obtain ⟨k, rfl⟩ := Int.eq_ofNat_of_zero_le h1
  rw [toNat_nat] at hK ⊢
  have e4 : len (zeros k (Ty.dflt Ty.int)) = k := by simp [len, zeros]
  rw [e4]
  have := loop_slices_Repeat_Lint_o x k (by omega) K hK k (min k 1) (by omega) (by omega) (by omega)
  have e5 : put (zeros k (Ty.dflt Ty.int)) 0 (slc (x :: []) 0 (min k (len (x :: [])))) = List.replicate (min k 1) x ++ List.replicate (k - min k 1) 0 := by
    have h := put_rep x k 0 (min k 1)
    rw [Nat.zero_add] at h
    rw [← h]
    have : slc (x :: []) 0 (min k (len (x :: []))) = List.replicate (min k 1) x := by
      simp only [len, List.length_cons, List.length_nil, slc]
      cases k with
      | zero => simp
      | succ k => rw [show min (k + 1) (0 + 1) = 1 by omega]; rfl
    rw [this]
    rfl
  rw [e5, show min k (len (x :: [])) = min k 1 from rfl]
  exact this
theorem sound_slices_Repeat_Lint_o : SoundC Tryz.prog tab n_slices_Repeat_Lint_o c_slices_Repeat_Lint_o := soundC_of ok_slices_Repeat_Lint_o hf_slices_Repeat_Lint_o hB_slices_Repeat_Lint_o (by
  intro vs bs p v bs' h hp
  unfold c_slices_Repeat_Lint_o at h
  split at h
  · cases h
    exact ⟨by kernel_rfl, rfl, .inr (.inl (run_slices_Repeat_Lint_o _ _ hp.1 _ ⟨rfl, rfl⟩))⟩
  · cases h)

def c_ref_NewGate : Contract := fun vs bs => match vs, bs with
  | [.agg [.dat .int rv, .dat (.list .int) rk, .dat .int rt], .one (.dat .int units)], [] => some (some (1 ≤ units ∧ units ≤ 4 ∧ checkRoot rv rk rt = 0), .agg [.dat (.list .int) (newG ⟨rv, rk, rt⟩ units).1.f.words, .dat .int (newG ⟨rv, rk, rt⟩ units).1.f.fuel, .dat .bool (newG ⟨rv, rk, rt⟩ units).1.up, .dat .int (newG ⟨rv, rk, rt⟩ units).1.t.r.version, .dat (.list .int) (newG ⟨rv, rk, rt⟩ units).1.t.r.keys, .dat .int (newG ⟨rv, rk, rt⟩ units).1.t.r.thr, .dat .int (newG ⟨rv, rk, rt⟩ units).1.t.version, .dat (.list .bool) (newG ⟨rv, rk, rt⟩ units).1.voted, .dat (.list .bool) (newG ⟨rv, rk, rt⟩ units).1.did], [])
  | _, _ => none
def Γ_ref_NewGate : Ctx := [(n_slices_Repeat_Lint_o, c_slices_Repeat_Lint_o)]
theorem ok_ref_NewGate : Ok Tryz.prog tab Γ_ref_NewGate := (ok_nil.consC hf_slices_Repeat_Lint_o hB_slices_Repeat_Lint_o sound_slices_Repeat_Lint_o)
theorem ref_NewGate_vc (rv : Int) (rk : List Int) (rt : Int) (units : Int) (rec : RK) (K : KK) : segD Γ_ref_NewGate tab fn_ref_NewGate 0 K rec [.code (bodyOf fn_ref_NewGate)] (initSt [.agg [dI rv, dL rk, dI rt], .one (dI units)] []) = (
 (((0 : Int) ≤ (64 : Int)) ∧ ((64 : Int) ≤ (1000000 : Int))) ∧
 ((((0 : Int) ≤ (0 : Int)) ∧ ((0 : Int) < (((len (zeros (Int.toNat (64 : Int)) (65535 : Int))) : Nat) : Int))) ∧
 (((Int.toNat (0 : Int)) < (len (zeros (Int.toNat (64 : Int)) (65535 : Int)))) ∧
 ((((0 : Int) ≤ units) ∧ (((units * ((1 : Nat) : Int)) ≤ (140737488355328 : Int)) ∧ (units ≤ (140737488355328 : Int)))) ∧
 ((((0 : Int) ≤ units) ∧ (((units * ((1 : Nat) : Int)) ≤ (140737488355328 : Int)) ∧ (units ≤ (140737488355328 : Int)))) ∧
 (K (.agg [dL (setAt (zeros (Int.toNat (64 : Int)) (65535 : Int)) (Int.toNat (0 : Int)) (1 : Int)), dI (-(1 : Int)), dB true, dI rv, dL rk, dI rt, dI (0 : Int), dLb (zeros (Int.toNat units) (Ty.dflt Ty.bool)), dLb (zeros (Int.toNat units) (Ty.dflt Ty.bool))]) [])))))) := by kernel_rfl
theorem ref_NewGate_w (m : Nat) (K : KK) (st : St) : goD Γ_ref_NewGate tab fn_ref_NewGate 0 K (m + 1) [.code (bodyOf fn_ref_NewGate)] st = segD Γ_ref_NewGate tab fn_ref_NewGate 0 K (goD Γ_ref_NewGate tab fn_ref_NewGate 0 K m) [.code (bodyOf fn_ref_NewGate)] st := rfl

set_option maxHeartbeats 4000000 in
theorem run_ref_NewGate (rv : Int) (rk : List Int) (rt units : Int) (hp : 1 ≤ units ∧ units ≤ 4 ∧ checkRoot rv rk rt = 0) (K : KK) (hK : K (.agg [dL (newG ⟨rv, rk, rt⟩ units).1.f.words, dI (newG ⟨rv, rk, rt⟩ units).1.f.fuel, dB (newG ⟨rv, rk, rt⟩ units).1.up, dI (newG ⟨rv, rk, rt⟩ units).1.t.r.version, dL (newG ⟨rv, rk, rt⟩ units).1.t.r.keys, dI (newG ⟨rv, rk, rt⟩ units).1.t.r.thr, dI (newG ⟨rv, rk, rt⟩ units).1.t.version, dLb (newG ⟨rv, rk, rt⟩ units).1.voted, dLb (newG ⟨rv, rk, rt⟩ units).1.did]) []) : ∃ m, goD Γ_ref_NewGate tab fn_ref_NewGate 0 K m [.code (bodyOf fn_ref_NewGate)] (initSt [.agg [dI rv, dL rk, dI rt], .one (dI units)] []) := by
  refine ⟨1, ?_⟩
  rw [ref_NewGate_w, ref_NewGate_vc _ _ _ _ _ _]
  rw [newG_is hp.1 hp.2.1 hp.2.2] at hK
  unfold madeG at hK
  rw [format_gate] at hK
  have lz : len (zeros (Int.toNat (64 : Int)) (65535 : Int)) = 64 := by unfold len zeros; rw [List.length_replicate]; rfl
  rw [lz]
  exact ⟨by omega, ⟨by omega, by omega⟩, by decide, ⟨by omega, by omega, by omega⟩, ⟨by omega, by omega, by omega⟩, hK⟩
theorem sound_ref_NewGate : SoundC Tryz.prog tab n_ref_NewGate c_ref_NewGate := soundC_of ok_ref_NewGate hf_ref_NewGate hB_ref_NewGate (by
  intro vs bs p v bs' h hp
  unfold c_ref_NewGate at h
  split at h
  · cases h
    exact ⟨by kernel_rfl, rfl, .inl (run_ref_NewGate _ _ _ _ hp.1 _ ⟨rfl, rfl⟩)⟩
  · cases h)

def c_ref_RecordsOf : Contract := fun vs bs => match vs, bs with
  | [.agg [.dat (.list .int) ws, .dat .int _]], [] => some (some (64 ≤ len ws ∧ len ws ≤ 192 ∧ okWords ws = true), .tup [.one (.dat (.list (.list .int)) (recsOf ws)), .one (.dat .int (nextI (liveS ws) (scanS ws (liveS ws)).2))], [])
  | _, _ => none
def Γ_ref_RecordsOf : Ctx := [(n_ref_counts, c_ref_counts)]
theorem ok_ref_RecordsOf : Ok Tryz.prog tab Γ_ref_RecordsOf := (ok_nil.consC hf_ref_counts hB_ref_counts sound_ref_counts)
noncomputable def ref_RecordsOf_L0 : List It := [.inLoop [8, 7, 6, 3, 2, 1] (Code.sub (bodyOf fn_ref_RecordsOf) [1, 1, 1, 1, 0, 0, 0]), .inBlock 0, .code (Code.sub (bodyOf fn_ref_RecordsOf) [1, 1, 1, 1, 1])]
def ref_RecordsOf_S0 (x0 : Int) (x1 : Int) (x2 : Int) (x3 : (List (List Int))) (x4 : (List (List Int))) (x5 : (List Int)) (x6 : Int) : St := ⟨[(8, .one (dI x0)), (7, .one (dI x1)), (6, .one (.own 0)), (3, .one (dI x2)), (2, .one (.own 1)), (1, .one (.ptr 2 0))], [(0, .arr (Ty.list Ty.int) x3), (1, .arr (Ty.list Ty.int) x4), (2, .box [dL x5, dI x6])], 3⟩
noncomputable def ref_RecordsOf_L1 : List It := [.inLoop [84, 83, 82, 7, 6, 3, 2] (Code.sub (bodyOf fn_ref_RecordsOf) [1, 1, 1, 1, 1, 0, 1, 0, 0]), .inBlock 2, .code (Code.sub (bodyOf fn_ref_RecordsOf) [1, 1, 1, 1, 1, 1])]
def ref_RecordsOf_S1 (x0 : Int) (x1 : Int) (x2 : (List Int)) (x3 : Int) (x4 : Int) (x5 : (List (List Int))) (x6 : (List (List Int))) : St := ⟨[(84, .one (dI x0)), (83, .one (dI x1)), (82, .one (dL x2)), (7, .one (dI x3)), (6, .one (.own 0)), (3, .one (dI x4)), (2, .one (.own 1))], [(0, .arr (Ty.list Ty.int) x5), (1, .arr (Ty.list Ty.int) x6)], 2⟩
theorem ref_RecordsOf_vc (ws : List Int) (fu : Int) (rec : RK) (K : KK) v0 (hv0 : v0 = (liveS ws)) : segD Γ_ref_RecordsOf tab fn_ref_RecordsOf 0 K rec [.code (bodyOf fn_ref_RecordsOf)] (initSt [.agg [dL ws, dI fu]] []) = (
 (64 ≤ (len ws)) ∧
 (rec ref_RecordsOf_L0 (ref_RecordsOf_S0 (w64 ((w64 ((32 : Int) * ((v0 : Nat) : Int))) + (32 : Int))) (w64 ((w64 ((32 : Int) * ((v0 : Nat) : Int))) + (1 : Int))) (0 : Int) [] [] ws fu))) := by subst_vars; kernel_rfl
theorem ref_RecordsOf_w (m : Nat) (K : KK) (st : St) : goD Γ_ref_RecordsOf tab fn_ref_RecordsOf 0 K (m + 1) [.code (bodyOf fn_ref_RecordsOf)] st = segD Γ_ref_RecordsOf tab fn_ref_RecordsOf 0 K (goD Γ_ref_RecordsOf tab fn_ref_RecordsOf 0 K m) [.code (bodyOf fn_ref_RecordsOf)] st := rfl
theorem ref_RecordsOf_vc0 (x0 : Int) (x1 : Int) (x2 : Int) (x3 : (List (List Int))) (x4 : (List (List Int))) (x5 : (List Int)) (x6 : Int) (rec : RK) (K : KK) v0 (hv0 : v0 = (rec ref_RecordsOf_L1 (ref_RecordsOf_S1 (0 : Int) (((len (slc x5 (Int.toNat x1) (Int.toNat x0))) : Nat) : Int) (slc x5 (Int.toNat x1) (Int.toNat x0)) x1 x2 x3 x4))) : segD Γ_ref_RecordsOf tab fn_ref_RecordsOf 0 K rec (.code (Code.sub (bodyOf fn_ref_RecordsOf) [1, 1, 1, 1, 0, 0, 0]) :: ref_RecordsOf_L0) (ref_RecordsOf_S0 x0 x1 x2 x3 x4 x5 x6) = (
 br (lti x1 x0)
 ((((0 : Int) ≤ x1) ∧ (x1 < (((len x5) : Nat) : Int))) ∧
 (br (lei (42241 : Int) (nth x5 (Int.toNat x1) (Ty.dflt Ty.int)))
 ((((0 : Int) ≤ x1) ∧ (x1 < (((len x5) : Nat) : Int))) ∧
 (br (lei (nth x5 (Int.toNat x1) (Ty.dflt Ty.int)) (42244 : Int))
 ((((0 : Int) ≤ x1) ∧ (x1 < (((len x5) : Nat) : Int))) ∧
 (br (lti (w64 ((w64 (x1 + (nth x5 (Int.toNat x1) (Ty.dflt Ty.int)))) - (42240 : Int))) x0)
 ((((0 : Int) ≤ x1) ∧ (x1 < (((len x5) : Nat) : Int))) ∧
 ((((0 : Int) ≤ (w64 (x1 + (1 : Int)))) ∧ (((w64 (x1 + (1 : Int))) ≤ (w64 ((w64 (x1 + (1 : Int))) + (w64 ((nth x5 (Int.toNat x1) (Ty.dflt Ty.int)) - (42240 : Int)))))) ∧ ((w64 ((w64 (x1 + (1 : Int))) + (w64 ((nth x5 (Int.toNat x1) (Ty.dflt Ty.int)) - (42240 : Int))))) ≤ (((len x5) : Nat) : Int)))) ∧
 ((((0 + (len (slc x5 (Int.toNat (w64 (x1 + (1 : Int)))) (Int.toNat (w64 ((w64 (x1 + (1 : Int))) + (w64 ((nth x5 (Int.toNat x1) (Ty.dflt Ty.int)) - (42240 : Int))))))))) * 8) ≤ 140737488355328) ∧
 (((((len x3) + (len ((cat [] (slc x5 (Int.toNat (w64 (x1 + (1 : Int)))) (Int.toNat (w64 ((w64 (x1 + (1 : Int))) + (w64 ((nth x5 (Int.toNat x1) (Ty.dflt Ty.int)) - (42240 : Int)))))))) :: []))) * 24) ≤ 140737488355328) ∧
 (rec ref_RecordsOf_L0 (ref_RecordsOf_S0 x0 (w64 (x1 + (w64 ((1 : Int) + (w64 ((nth x5 (Int.toNat x1) (Ty.dflt Ty.int)) - (42240 : Int))))))) x2 (cat x3 ((cat [] (slc x5 (Int.toNat (w64 (x1 + (1 : Int)))) (Int.toNat (w64 ((w64 (x1 + (1 : Int))) + (w64 ((nth x5 (Int.toNat x1) (Ty.dflt Ty.int)) - (42240 : Int)))))))) :: [])) x4 x5 x6))))))
 ((((0 : Int) ≤ x1) ∧ ((x1 ≤ x0) ∧ (x0 ≤ (((len x5) : Nat) : Int)))) ∧
 v0)))
 ((((0 : Int) ≤ x1) ∧ ((x1 ≤ x0) ∧ (x0 ≤ (((len x5) : Nat) : Int)))) ∧
 v0)))
 ((((0 : Int) ≤ x1) ∧ ((x1 ≤ x0) ∧ (x0 ≤ (((len x5) : Nat) : Int)))) ∧
 v0)))
 ((((0 : Int) ≤ x1) ∧ ((x1 ≤ x0) ∧ (x0 ≤ (((len x5) : Nat) : Int)))) ∧
 v0)) := by subst_vars; kernel_rfl
theorem ref_RecordsOf_w0 (m : Nat) (K : KK) (st : St) : goD Γ_ref_RecordsOf tab fn_ref_RecordsOf 0 K (m + 1) ref_RecordsOf_L0 st = segD Γ_ref_RecordsOf tab fn_ref_RecordsOf 0 K (goD Γ_ref_RecordsOf tab fn_ref_RecordsOf 0 K m) (.code (Code.sub (bodyOf fn_ref_RecordsOf) [1, 1, 1, 1, 0, 0, 0]) :: ref_RecordsOf_L0) st := rfl
theorem ref_RecordsOf_vc1 (x0 : Int) (x1 : Int) (x2 : (List Int)) (x3 : Int) (x4 : Int) (x5 : (List (List Int))) (x6 : (List (List Int))) (rec : RK) (K : KK) : segD Γ_ref_RecordsOf tab fn_ref_RecordsOf 0 K rec (.code (Code.sub (bodyOf fn_ref_RecordsOf) [1, 1, 1, 1, 1, 0, 1, 0, 0]) :: ref_RecordsOf_L1) (ref_RecordsOf_S1 x0 x1 x2 x3 x4 x5 x6) = (
 br (lti x0 x1)
 ((((0 : Int) ≤ x0) ∧ (x0 < (((len x2) : Nat) : Int))) ∧
 (br (!(eqi (nth x2 (Int.toNat x0) (Ty.dflt Ty.int)) (65535 : Int)))
 (K (.tup [.one (dR x5), .one (dI (-(1 : Int)))]) [])
 (rec ref_RecordsOf_L1 (ref_RecordsOf_S1 (w64 (x0 + (1 : Int))) x1 x2 x3 x4 x5 x6))))
 (K (.tup [.one (dR x5), .one (dI x3)]) [])) := by kernel_rfl
theorem ref_RecordsOf_w1 (m : Nat) (K : KK) (st : St) : goD Γ_ref_RecordsOf tab fn_ref_RecordsOf 0 K (m + 1) ref_RecordsOf_L1 st = segD Γ_ref_RecordsOf tab fn_ref_RecordsOf 0 K (goD Γ_ref_RecordsOf tab fn_ref_RecordsOf 0 K m) (.code (Code.sub (bodyOf fn_ref_RecordsOf) [1, 1, 1, 1, 1, 0, 1, 0, 0]) :: ref_RecordsOf_L1) st := rfl

theorem clean_ref_RecordsOf (x3 x4 : Int) (x5 x6 : List (List Int)) (K : KK) (t : List Int) (ht : t.length ≤ 32)
    (hK : K (.tup [.one (dR x5), .one (dI (if allClean t then x3 else -1))]) []) : ∀ (d k : Nat), t.length ≤ k + d → k ≤ t.length → allClean (t.take k) = true →
    goD Γ_ref_RecordsOf tab fn_ref_RecordsOf 0 K (d + 1) ref_RecordsOf_L1 (ref_RecordsOf_S1 (k : Int) (((len t) : Nat) : Int) t x3 x4 x5 x6)
  | 0, k, hk, hk2, he => by
    rw [ref_RecordsOf_w1, ref_RecordsOf_vc1 _ _ _ _ _ _ _ _ _]
    rw [List.take_of_length_le (by omega)] at he
    rw [if_pos he] at hK
    exact lt_f (by simp only [len]; omega) hK
  | d + 1, k, hk, hk2, he => by
    rw [ref_RecordsOf_w1, ref_RecordsOf_vc1 _ _ _ _ _ _ _ _ _, toNat_nat]
    by_cases c : k = t.length
    · rw [List.take_of_length_le (by omega)] at he
      rw [if_pos he] at hK
      exact lt_f (by simp only [len]; omega) hK
    refine lt_t (by simp only [len]; omega) ⟨⟨by omega, by simp only [len]; omega⟩, ne_s (fun hne => ?_) (fun heq => ?_)⟩
    · rw [if_neg (by rw [show allClean t = false from all_false (k := k) (by omega) (Ty.dflt Ty.int) (by simpa using hne)]; simp)] at hK
      exact hK
    · rw [w64_succ (by omega)]
      exact clean_ref_RecordsOf x3 x4 x5 x6 K t ht hK d (k + 1) (by omega) (by omega) (all_take_step (by omega) (Ty.dflt Ty.int) he (by simpa using heq))
theorem exit_ref_RecordsOf (ws : List Int) (sec : Nat) (hsec : sec ≤ 1) (hl : 32 * sec + 32 ≤ ws.length) (K : KK) (k : Nat) (hk : k ≤ 31) (acc : List (List Int)) (x2 : Int) (x4 : List (List Int)) (M : Nat)
    (hK : K (.tup [.one (dR acc), .one (dI (if allClean ((tailS ws sec).drop k) then 32 * (sec : Int) + 1 + k else -1))]) []) :
    goD Γ_ref_RecordsOf tab fn_ref_RecordsOf 0 K (M + 33) ref_RecordsOf_L1 (ref_RecordsOf_S1 (0 : Int) (((len (slc ws (32 * sec + 1 + k) (32 * sec + 32))) : Nat) : Int) (slc ws (32 * sec + 1 + k) (32 * sec + 32)) (((32 * sec + 1 + k : Nat) : Int)) x2 acc x4) := by
  have e : slc ws (32 * sec + 1 + k) (32 * sec + 32) = (tailS ws sec).drop k := by
    unfold tailS sectorW slc
    rw [List.drop_drop, List.drop_drop]; congr 1; omega
  rw [e]
  have ll : ((tailS ws sec).drop k).length ≤ 32 := by rw [List.length_drop, tailS_len hl]; omega
  refine clean_ref_RecordsOf _ _ _ _ K _ ll ?_ (M + 32) 0 (by omega) (by omega) rfl
  rw [show ((32 * sec + 1 + k : Nat) : Int) = 32 * (sec : Int) + 1 + k by omega]
  exact hK
theorem loop_ref_RecordsOf (ws : List Int) (fu : Int) (sec : Nat) (hsec : sec ≤ 1) (hl : 32 * sec + 32 ≤ ws.length) (hok : okWords ws = true) (x2 : Int) (x4 : List (List Int)) (K : KK) : ∀ (m k : Nat) (acc : List (List Int)), k ≤ 31 → 31 ≤ m + k → acc.length ≤ k →
    K (.tup [.one (dR (acc ++ (scanL m ((tailS ws sec).drop k)).1)), .one (dI (match (scanL m ((tailS ws sec).drop k)).2 with | some n => 32 * (sec : Int) + 1 + k + n | none => -1))]) [] →
    goD Γ_ref_RecordsOf tab fn_ref_RecordsOf 0 K (m + 34) ref_RecordsOf_L0 (ref_RecordsOf_S0 (((32 * sec + 32 : Nat) : Int)) (((32 * sec + 1 + k : Nat) : Int)) x2 acc x4 ws fu)
  | 0, k, acc, hk, hm, ha, hK => by
    have : k = 31 := by omega
    subst this
    rw [show 0 + 34 = 33 + 1 by omega, ref_RecordsOf_w0, ref_RecordsOf_vc0 _ _ _ _ _ _ _ _ _ _ rfl, toNat_nat]; try rw [toNat_nat]
    simp only [scanL, List.append_nil] at hK
    refine lt_f (by omega) ⟨⟨by omega, by omega, by simp only [len]; omega⟩, exit_ref_RecordsOf ws sec hsec hl K 31 (by omega) acc x2 x4 0 ?_⟩
    rw [List.drop_of_length_le (by rw [tailS_len hl]; omega)]
    simpa [allClean] using hK
  | m + 1, k, acc, hk, hm, ha, hK => by
    rw [show m + 1 + 34 = (m + 34) + 1 by omega, ref_RecordsOf_w0, ref_RecordsOf_vc0 _ _ _ _ _ _ _ _ _ _ rfl, toNat_nat]; try rw [toNat_nat]
    by_cases c : k = 31
    · subst c
      rw [List.drop_of_length_le (by rw [tailS_len hl]; omega)] at hK
      simp only [scanL, List.append_nil] at hK
      refine lt_f (by omega) ⟨⟨by omega, by omega, by simp only [len]; omega⟩, exit_ref_RecordsOf ws sec hsec hl K 31 (by omega) acc x2 x4 (m + 1) ?_⟩
      rw [List.drop_of_length_le (by rw [tailS_len hl]; omega)]
      simpa [allClean] using hK
    have tl := tailS_len hl
    have hdr := drop_step (l := tailS ws sec) (k := k) (by omega) (Ty.dflt Ty.int)
    have hnx : nth (tailS ws sec) k (Ty.dflt Ty.int) = nth ws (32 * sec + 1 + k) (Ty.dflt Ty.int) := tailS_getD ws sec k (by omega)
    rw [hnx] at hdr
    rw [hdr] at hK
    obtain ⟨x, hx⟩ : ∃ x, nth ws (32 * sec + 1 + k) (Ty.dflt Ty.int) = x := ⟨_, rfl⟩
    have hxo := getD_ok hok (32 * sec + 1 + k)
    have hxe : ws.getD (32 * sec + 1 + k) 0 = x := hx
    rw [hxe] at hxo
    rw [hx] at hK hdr ⊢
    simp only [scanL] at hK
    have out : headN x = 0 ∨ ¬ headN x ≤ ((tailS ws sec).drop (k + 1)).length → (((0 : Int) ≤ ((32 * sec + 1 + k : Nat) : Int)) ∧ ((((32 * sec + 1 + k : Nat) : Int) ≤ ((32 * sec + 32 : Nat) : Int)) ∧ (((32 * sec + 32 : Nat) : Int) ≤ (((len ws) : Nat) : Int)))) ∧
        goD Γ_ref_RecordsOf tab fn_ref_RecordsOf 0 K (m + 34) ref_RecordsOf_L1 (ref_RecordsOf_S1 (0 : Int) (((len (slc ws (32 * sec + 1 + k) (32 * sec + 32))) : Nat) : Int) (slc ws (32 * sec + 1 + k) (32 * sec + 32)) (((32 * sec + 1 + k : Nat) : Int)) x2 acc x4) := fun hh => by
      refine ⟨⟨by omega, by omega, by simp only [len]; omega⟩, exit_ref_RecordsOf ws sec hsec hl K k hk acc x2 x4 (m + 1) ?_⟩
      rw [hdr]
      by_cases c2 : x = 65535
      · rw [if_pos c2] at hK
        have e : allClean (x :: (tailS ws sec).drop (k + 1)) = allClean ((tailS ws sec).drop (k + 1)) := by simp [allClean, c2]
        rw [e]
        cases hc : allClean ((tailS ws sec).drop (k + 1))
        · simpa [hc] using hK
        · simpa [hc] using hK
      · rw [if_neg c2] at hK
        have e : allClean (x :: (tailS ws sec).drop (k + 1)) = false := by simp [allClean, c2]
        rw [e]
        by_cases c3 : headN x = 0
        · rw [if_pos c3] at hK; simpa using hK
        · rw [if_neg c3, if_neg (hh.resolve_left c3)] at hK; simpa using hK
    have rng : ((0 : Int) ≤ ((32 * sec + 1 + k : Nat) : Int)) ∧ (((32 * sec + 1 + k : Nat) : Int) < (((len ws) : Nat) : Int)) := ⟨by omega, by simp only [len]; omega⟩
    refine lt_t (by omega) ⟨rng, br_split (fun g1 => ⟨rng, br_split (fun g2 => ⟨rng, ?_⟩) (fun g2 => ?_)⟩) (fun g1 => ?_)⟩
    case refine_2 => exact out (.inl (by rw [lei_false] at g2; unfold headN; rw [if_neg (by omega)]))
    case refine_3 => exact out (.inl (by rw [lei_false] at g1; unfold headN; rw [if_neg (by omega)]))
    rw [lei_true] at g1 g2
    obtain ⟨n, hn⟩ : ∃ n, headN x = n := ⟨_, rfl⟩
    have hxn : x = 42240 + (n : Int) ∧ 1 ≤ n ∧ n ≤ 4 := by unfold headN at hn; rw [if_pos ⟨g1, g2⟩] at hn; omega
    obtain ⟨hxn, n1, n4⟩ := hxn
    have ld : ((tailS ws sec).drop (k + 1)).length = 30 - k := by rw [List.length_drop, tl]; omega
    rw [w64_id (n := ((32 * sec + 1 + k : Nat) : Int) + x) (by omega) (by omega), w64_id (n := ((32 * sec + 1 + k : Nat) : Int) + x - 42240) (by omega) (by omega)]
    refine lt_s (fun g3 => ?_) (fun g3 => out (.inr (by rw [ld, hn]; omega)))
    rw [hn] at hK
    rw [if_neg (by omega), if_neg (by omega), if_pos (by rw [ld]; omega)] at hK
    rw [w64_id (n := x - 42240) (by omega) (by omega), show x - 42240 = (n : Int) by omega, w64_id (n := ((32 * sec + 1 + k : Nat) : Int) + 1) (by omega) (by omega), w64_id (n := ((32 * sec + 1 + k : Nat) : Int) + 1 + (n : Int)) (by omega) (by omega), w64_id (n := (1 : Int) + (n : Int)) (by omega) (by omega), w64_id (n := ((32 * sec + 1 + k : Nat) : Int) + (1 + (n : Int))) (by omega) (by omega)]
    rw [show Int.toNat (((32 * sec + 1 + k : Nat) : Int) + 1) = 32 * sec + 1 + (k + 1) by omega, show Int.toNat (((32 * sec + 1 + k : Nat) : Int) + 1 + (n : Int)) = 32 * sec + 1 + (k + 1) + n by omega, show ((32 * sec + 1 + k : Nat) : Int) + (1 + (n : Int)) = ((32 * sec + 1 + (k + 1 + n) : Nat) : Int) by omega]
    have es : slc ws (32 * sec + 1 + (k + 1)) (32 * sec + 1 + (k + 1) + n) = ((tailS ws sec).drop (k + 1)).take n := by
      refine ext_getD (by rw [slc_len _ _ _ (by omega), List.length_take, ld]; omega) fun i hi => ?_
      rw [slc_len _ _ _ (by omega)] at hi
      rw [slc_getD _ _ _ _ (by omega)]
      have e2 : ∀ l : List Int, (l.take n).getD i 0 = l.getD i 0 := fun l => by simp only [List.getD_eq_getElem?_getD]; rw [List.getElem?_take_of_lt hi]
      rw [e2, drop_getD, tailS_getD _ _ _ (by omega), show 32 * sec + 1 + (k + 1 + i) = 32 * sec + 1 + (k + 1) + i by omega]
    rw [es]
    have ec : cat ([] : List Int) (((tailS ws sec).drop (k + 1)).take n) = ((tailS ws sec).drop (k + 1)).take n := rfl
    rw [ec]
    refine ⟨rng, ⟨by omega, by omega, by simp only [len]; omega⟩, by simp only [len, List.length_take]; omega, by simp only [len, List.length_cons, List.length_nil]; omega, ?_⟩
    refine loop_ref_RecordsOf ws fu sec hsec hl hok x2 x4 K m (k + 1 + n) _ (by omega) (by omega) (by simp only [cat, List.length_append, List.length_cons, List.length_nil]; omega) ?_
    rw [List.drop_drop] at hK
    have hK' := hK
    simp only [cat, List.append_assoc, List.cons_append, List.nil_append] at hK' ⊢
    cases hsc : (scanL m ((tailS ws sec).drop (k + 1 + n))).2 with
    | none => simpa [hsc] using hK'
    | some p =>
      simp only [hsc, Option.map] at hK'
      rw [show 32 * (sec : Int) + 1 + (k : Int) + ((p + n + 1 : Nat) : Int) = 32 * (sec : Int) + 1 + ((k + 1 + n : Nat) : Int) + (p : Int) by omega] at hK'
      exact hK'
set_option maxHeartbeats 4000000 in
theorem run_ref_RecordsOf (ws : List Int) (fu : Int) (hp : 64 ≤ len ws ∧ len ws ≤ 192 ∧ okWords ws = true) (K : KK) (hK : K (.tup [.one (dR (recsOf ws)), .one (dI (nextI (liveS ws) (scanS ws (liveS ws)).2))]) []) : ∃ m, goD Γ_ref_RecordsOf tab fn_ref_RecordsOf 0 K m [.code (bodyOf fn_ref_RecordsOf)] (initSt [.agg [dL ws, dI fu]] []) := by
  obtain ⟨h1, h2, hok⟩ := hp
  have hs := liveS_le ws
  refine ⟨32 + 34 + 1, ?_⟩
  rw [ref_RecordsOf_w, ref_RecordsOf_vc _ _ _ _ _ rfl]
  unfold recsOf at hK
  obtain ⟨s, hss⟩ : ∃ s, liveS ws = s := ⟨_, rfl⟩
  rw [hss] at hK hs ⊢
  simp only [len] at h1 h2
  rw [w64_id (n := 32 * (s : Int)) (by omega) (by omega), w64_id (n := 32 * (s : Int) + 32) (by omega) (by omega), w64_id (n := 32 * (s : Int) + 1) (by omega) (by omega)]
  refine ⟨h1, ?_⟩
  rw [show 32 * (s : Int) + 32 = ((32 * s + 32 : Nat) : Int) by omega, show 32 * (s : Int) + 1 = ((32 * s + 1 + 0 : Nat) : Int) by omega]
  refine loop_ref_RecordsOf ws fu s hs (by omega) hok 0 [] K 32 0 [] (by omega) (by omega) (by simp) ?_
  rw [List.nil_append, List.drop_zero]
  rw [tailS_nonempty (by omega)] at hK
  cases hsc : (scanL 32 (tailS ws s)).2 with
  | none =>
    simp only [hsc, nextI] at hK
    exact hK
  | some p =>
    simp only [hsc, nextI] at hK
    simpa using hK
theorem sound_ref_RecordsOf : SoundC Tryz.prog tab n_ref_RecordsOf c_ref_RecordsOf := soundC_of ok_ref_RecordsOf hf_ref_RecordsOf hB_ref_RecordsOf (by
  intro vs bs p v bs' h hp
  unfold c_ref_RecordsOf at h
  split at h
  · cases h
    exact ⟨by kernel_rfl, rfl, .inl (run_ref_RecordsOf _ _ hp.1 _ ⟨rfl, rfl⟩)⟩
  · cases h)

def c_ref_GateStateOf : Contract := fun vs bs => match vs, bs with
  | [.agg [.dat (.list .int) ws, .dat .int fu, .dat .bool _, .dat .int _, .dat (.list .int) _, .dat .int _, .dat .int _, .dat (.list .bool) _, .dat (.list .bool) _]], [] => some (some (checkLog ⟨ws, fu⟩ = 0), .agg [.dat .int (ofG ⟨ws, fu⟩).n, .dat .int (ofG ⟨ws, fu⟩).version, .dat .bool (ofG ⟨ws, fu⟩).commit, .dat .bool (ofG ⟨ws, fu⟩).abort, .dat .bool (ofG ⟨ws, fu⟩).ended], [])
  | _, _ => none
def Γ_ref_GateStateOf : Ctx := [(n_ref_RecordsOf, c_ref_RecordsOf)]
theorem ok_ref_GateStateOf : Ok Tryz.prog tab Γ_ref_GateStateOf := (ok_nil.consC hf_ref_RecordsOf hB_ref_RecordsOf sound_ref_RecordsOf)
noncomputable def ref_GateStateOf_L0 : List It := [.inLoop [19, 18, 17, 5, 3, 2] (Code.sub (bodyOf fn_ref_GateStateOf) [1, 1, 1, 0, 1, 0, 0]), .inBlock 0, .code (Code.sub (bodyOf fn_ref_GateStateOf) [1, 1, 1, 1])]
def ref_GateStateOf_S0 (x0 : Int) (x1 : Int) (x2 : (List (List Int))) (x3 : Int) (x4 : (List (List Int))) (x5 : Int) (x6 : Int) (x7 : Bool) (x8 : Bool) (x9 : Bool) : St := ⟨[(19, .one (dI x0)), (18, .one (dI x1)), (17, .one (dR x2)), (5, .one (dI x3)), (3, .one (dR x4)), (2, .one (.ptr 0 0))], [(0, .box [dI x5, dI x6, dB x7, dB x8, dB x9])], 1⟩
noncomputable def ref_GateStateOf_L1 : List It := [.inLoop [73, 72, 71, 8, 2] (Code.sub (bodyOf fn_ref_GateStateOf) [1, 1, 1, 1, 1, 1, 1, 1, 0, 1, 0, 0]), .inBlock 2, .code (Code.sub (bodyOf fn_ref_GateStateOf) [1, 1, 1, 1, 1, 1, 1, 1, 1])]
def ref_GateStateOf_S1 (x0 : Int) (x1 : Int) (x2 : (List (List Int))) (x3 : Int) (x4 : Int) (x5 : Bool) (x6 : Bool) (x7 : Bool) (x8 : Int) (x9 : Int) (x10 : Bool) (x11 : Bool) (x12 : Bool) : St := ⟨[(73, .one (dI x0)), (72, .one (dI x1)), (71, .one (dR x2)), (8, .one (.ptr 0 0)), (2, .one (.ptr 1 0))], [(0, .box [dI x3, dI x4, dB x5, dB x6, dB x7]), (1, .box [dI x8, dI x9, dB x10, dB x11, dB x12])], 2⟩
theorem ref_GateStateOf_vc (ws : List Int) (fu : Int) (up : Bool) (tv : Int) (tk : List Int) (tt : Int) (tn : Int) (vo : List Bool) (di : List Bool) (rec : RK) (K : KK) v0 (hv0 : v0 = (okWords ws)) v1 (hv1 : v1 = (recsOf ws)) : segD Γ_ref_GateStateOf tab fn_ref_GateStateOf 0 K rec [.code (bodyOf fn_ref_GateStateOf)] (initSt [.agg [dL ws, dI fu, dB up, dI tv, dL tk, dI tt, dI tn, dLb vo, dLb di]] []) = (
 ((64 ≤ (len ws)) ∧ (((len ws) ≤ 192) ∧ (v0 = true))) ∧
 (rec ref_GateStateOf_L0 (ref_GateStateOf_S0 (0 : Int) (((len v1) : Nat) : Int) v1 (-(1 : Int)) v1 (0 : Int) (0 : Int) false false false))) := by subst_vars; kernel_rfl
theorem ref_GateStateOf_w (m : Nat) (K : KK) (st : St) : goD Γ_ref_GateStateOf tab fn_ref_GateStateOf 0 K (m + 1) [.code (bodyOf fn_ref_GateStateOf)] st = segD Γ_ref_GateStateOf tab fn_ref_GateStateOf 0 K (goD Γ_ref_GateStateOf tab fn_ref_GateStateOf 0 K m) [.code (bodyOf fn_ref_GateStateOf)] st := rfl
theorem ref_GateStateOf_vc0 (x0 : Int) (x1 : Int) (x2 : (List (List Int))) (x3 : Int) (x4 : (List (List Int))) (x5 : Int) (x6 : Int) (x7 : Bool) (x8 : Bool) (x9 : Bool) (rec : RK) (K : KK) v0 (hv0 : v0 = (rec ref_GateStateOf_L0 (ref_GateStateOf_S0 (w64 (x0 + (1 : Int))) x1 x2 x3 x4 x5 x6 x7 x8 x9))) : segD Γ_ref_GateStateOf tab fn_ref_GateStateOf 0 K rec (.code (Code.sub (bodyOf fn_ref_GateStateOf) [1, 1, 1, 0, 1, 0, 0]) :: ref_GateStateOf_L0) (ref_GateStateOf_S0 x0 x1 x2 x3 x4 x5 x6 x7 x8 x9) = (
 br (lti x0 x1)
 ((((0 : Int) ≤ x0) ∧ (x0 < (((len x2) : Nat) : Int))) ∧
 (br (eqi (((len (nth x2 (Int.toNat x0) (Ty.dflt (Ty.list Ty.int)))) : Nat) : Int) (3 : Int))
 ((((0 : Int) ≤ (0 : Int)) ∧ ((0 : Int) < (((len (nth x2 (Int.toNat x0) (Ty.dflt (Ty.list Ty.int)))) : Nat) : Int))) ∧
 (br (eqi (nth (nth x2 (Int.toNat x0) (Ty.dflt (Ty.list Ty.int))) (Int.toNat (0 : Int)) (Ty.dflt Ty.int)) (1 : Int))
 ((((0 : Int) ≤ (1 : Int)) ∧ ((1 : Int) < (((len (nth x2 (Int.toNat x0) (Ty.dflt (Ty.list Ty.int)))) : Nat) : Int))) ∧
 (br (lei (1 : Int) (nth (nth x2 (Int.toNat x0) (Ty.dflt (Ty.list Ty.int))) (Int.toNat (1 : Int)) (Ty.dflt Ty.int)))
 ((((0 : Int) ≤ (1 : Int)) ∧ ((1 : Int) < (((len (nth x2 (Int.toNat x0) (Ty.dflt (Ty.list Ty.int)))) : Nat) : Int))) ∧
 (br (lei (nth (nth x2 (Int.toNat x0) (Ty.dflt (Ty.list Ty.int))) (Int.toNat (1 : Int)) (Ty.dflt Ty.int)) (8 : Int))
 (rec ref_GateStateOf_L0 (ref_GateStateOf_S0 (w64 (x0 + (1 : Int))) x1 x2 x0 x4 x5 x6 x7 x8 x9))
 v0))
 v0))
 v0))
 v0))
 (br (lti x3 (0 : Int))
 (K (.agg [dI (0 : Int), dI (0 : Int), dB false, dB false, dB false]) [])
 ((((0 : Int) ≤ x3) ∧ (x3 < (((len x4) : Nat) : Int))) ∧
 ((((0 : Int) ≤ (1 : Int)) ∧ ((1 : Int) < (((len (nth x4 (Int.toNat x3) (Ty.dflt (Ty.list Ty.int)))) : Nat) : Int))) ∧
 ((((0 : Int) ≤ x3) ∧ (x3 < (((len x4) : Nat) : Int))) ∧
 ((((0 : Int) ≤ (2 : Int)) ∧ ((2 : Int) < (((len (nth x4 (Int.toNat x3) (Ty.dflt (Ty.list Ty.int)))) : Nat) : Int))) ∧
 (br (eqi (nth (nth x4 (Int.toNat x3) (Ty.dflt (Ty.list Ty.int))) (Int.toNat (1 : Int)) (Ty.dflt Ty.int)) (0 : Int))
 (K (.agg [dI (nth (nth x4 (Int.toNat x3) (Ty.dflt (Ty.list Ty.int))) (Int.toNat (1 : Int)) (Ty.dflt Ty.int)), dI (nth (nth x4 (Int.toNat x3) (Ty.dflt (Ty.list Ty.int))) (Int.toNat (2 : Int)) (Ty.dflt Ty.int)), dB false, dB false, dB false]) [])
 ((((0 : Int) ≤ (w64 (x3 + (1 : Int)))) ∧ (((w64 (x3 + (1 : Int))) ≤ (((len x4) : Nat) : Int)) ∧ ((((len x4) : Nat) : Int) ≤ (((len x4) : Nat) : Int)))) ∧
 (rec ref_GateStateOf_L1 (ref_GateStateOf_S1 (0 : Int) (((len (slc x4 (Int.toNat (w64 (x3 + (1 : Int)))) (Int.toNat (((len x4) : Nat) : Int)))) : Nat) : Int) (slc x4 (Int.toNat (w64 (x3 + (1 : Int)))) (Int.toNat (((len x4) : Nat) : Int))) (nth (nth x4 (Int.toNat x3) (Ty.dflt (Ty.list Ty.int))) (Int.toNat (1 : Int)) (Ty.dflt Ty.int)) (nth (nth x4 (Int.toNat x3) (Ty.dflt (Ty.list Ty.int))) (Int.toNat (2 : Int)) (Ty.dflt Ty.int)) false false false x5 x6 x7 x8 x9)))))))))) := by subst_vars; kernel_rfl
theorem ref_GateStateOf_w0 (m : Nat) (K : KK) (st : St) : goD Γ_ref_GateStateOf tab fn_ref_GateStateOf 0 K (m + 1) ref_GateStateOf_L0 st = segD Γ_ref_GateStateOf tab fn_ref_GateStateOf 0 K (goD Γ_ref_GateStateOf tab fn_ref_GateStateOf 0 K m) (.code (Code.sub (bodyOf fn_ref_GateStateOf) [1, 1, 1, 0, 1, 0, 0]) :: ref_GateStateOf_L0) st := rfl
theorem ref_GateStateOf_vc1 (x0 : Int) (x1 : Int) (x2 : (List (List Int))) (x3 : Int) (x4 : Int) (x5 : Bool) (x6 : Bool) (x7 : Bool) (x8 : Int) (x9 : Int) (x10 : Bool) (x11 : Bool) (x12 : Bool) (rec : RK) (K : KK) v0 (hv0 : v0 = (rec ref_GateStateOf_L1 (ref_GateStateOf_S1 (w64 (x0 + (1 : Int))) x1 x2 x3 x4 (!x6) (!(!x6)) true x8 x9 x10 x11 x12))) v1 (hv1 : v1 = (rec ref_GateStateOf_L1 (ref_GateStateOf_S1 (w64 (x0 + (1 : Int))) x1 x2 x3 x4 true (!true) true x8 x9 x10 x11 x12))) v2 (hv2 : v2 = (rec ref_GateStateOf_L1 (ref_GateStateOf_S1 (w64 (x0 + (1 : Int))) x1 x2 x3 x4 false false false x8 x9 x10 x11 x12))) v3 (hv3 : v3 = (rec ref_GateStateOf_L1 (ref_GateStateOf_S1 (w64 (x0 + (1 : Int))) x1 x2 x3 x4 (!x6) false false x8 x9 x10 x11 x12))) v4 (hv4 : v4 = (rec ref_GateStateOf_L1 (ref_GateStateOf_S1 (w64 (x0 + (1 : Int))) x1 x2 x3 x4 (!x6) false true x8 x9 x10 x11 x12))) v5 (hv5 : v5 = (rec ref_GateStateOf_L1 (ref_GateStateOf_S1 (w64 (x0 + (1 : Int))) x1 x2 x3 x4 true false true x8 x9 x10 x11 x12))) v6 (hv6 : v6 = (rec ref_GateStateOf_L1 (ref_GateStateOf_S1 (w64 (x0 + (1 : Int))) x1 x2 x3 x4 false true true x8 x9 x10 x11 x12))) v7 (hv7 : v7 = (rec ref_GateStateOf_L1 (ref_GateStateOf_S1 (w64 (x0 + (1 : Int))) x1 x2 x3 x4 (!x6) true true x8 x9 x10 x11 x12))) v8 (hv8 : v8 = (rec ref_GateStateOf_L1 (ref_GateStateOf_S1 (w64 (x0 + (1 : Int))) x1 x2 x3 x4 true true true x8 x9 x10 x11 x12))) v9 (hv9 : v9 = (rec ref_GateStateOf_L1 (ref_GateStateOf_S1 (w64 (x0 + (1 : Int))) x1 x2 x3 x4 x5 x6 x7 x8 x9 x10 x11 x12))) : segD Γ_ref_GateStateOf tab fn_ref_GateStateOf 0 K rec (.code (Code.sub (bodyOf fn_ref_GateStateOf) [1, 1, 1, 1, 1, 1, 1, 1, 0, 1, 0, 0]) :: ref_GateStateOf_L1) (ref_GateStateOf_S1 x0 x1 x2 x3 x4 x5 x6 x7 x8 x9 x10 x11 x12) = (
 br (lti x0 x1)
 ((((0 : Int) ≤ x0) ∧ (x0 < (((len x2) : Nat) : Int))) ∧
 (br (eqi (((len (nth x2 (Int.toNat x0) (Ty.dflt (Ty.list Ty.int)))) : Nat) : Int) (2 : Int))
 ((((0 : Int) ≤ (1 : Int)) ∧ ((1 : Int) < (((len (nth x2 (Int.toNat x0) (Ty.dflt (Ty.list Ty.int)))) : Nat) : Int))) ∧
 (br (eqi (nth (nth x2 (Int.toNat x0) (Ty.dflt (Ty.list Ty.int))) (Int.toNat (1 : Int)) (Ty.dflt Ty.int)) x3)
 (br x5
 (br x6
 (br x7
 v8
 ((((0 : Int) ≤ (0 : Int)) ∧ ((0 : Int) < (((len (nth x2 (Int.toNat x0) (Ty.dflt (Ty.list Ty.int)))) : Nat) : Int))) ∧
 (br (eqi (nth (nth x2 (Int.toNat x0) (Ty.dflt (Ty.list Ty.int))) (Int.toNat (0 : Int)) (Ty.dflt Ty.int)) (4 : Int))
 v8
 (rec ref_GateStateOf_L1 (ref_GateStateOf_S1 (w64 (x0 + (1 : Int))) x1 x2 x3 x4 true true false x8 x9 x10 x11 x12)))))
 ((((0 : Int) ≤ (0 : Int)) ∧ ((0 : Int) < (((len (nth x2 (Int.toNat x0) (Ty.dflt (Ty.list Ty.int)))) : Nat) : Int))) ∧
 (br (eqi (nth (nth x2 (Int.toNat x0) (Ty.dflt (Ty.list Ty.int))) (Int.toNat (0 : Int)) (Ty.dflt Ty.int)) (3 : Int))
 (br x7
 v1
 ((((0 : Int) ≤ (0 : Int)) ∧ ((0 : Int) < (((len (nth x2 (Int.toNat x0) (Ty.dflt (Ty.list Ty.int)))) : Nat) : Int))) ∧
 (br (eqi (nth (nth x2 (Int.toNat x0) (Ty.dflt (Ty.list Ty.int))) (Int.toNat (0 : Int)) (Ty.dflt Ty.int)) (4 : Int))
 v1
 (rec ref_GateStateOf_L1 (ref_GateStateOf_S1 (w64 (x0 + (1 : Int))) x1 x2 x3 x4 true (!true) false x8 x9 x10 x11 x12)))))
 (br x7
 v5
 ((((0 : Int) ≤ (0 : Int)) ∧ ((0 : Int) < (((len (nth x2 (Int.toNat x0) (Ty.dflt (Ty.list Ty.int)))) : Nat) : Int))) ∧
 (br (eqi (nth (nth x2 (Int.toNat x0) (Ty.dflt (Ty.list Ty.int))) (Int.toNat (0 : Int)) (Ty.dflt Ty.int)) (4 : Int))
 v5
 (rec ref_GateStateOf_L1 (ref_GateStateOf_S1 (w64 (x0 + (1 : Int))) x1 x2 x3 x4 true false false x8 x9 x10 x11 x12))))))))
 ((((0 : Int) ≤ (0 : Int)) ∧ ((0 : Int) < (((len (nth x2 (Int.toNat x0) (Ty.dflt (Ty.list Ty.int)))) : Nat) : Int))) ∧
 (br (eqi (nth (nth x2 (Int.toNat x0) (Ty.dflt (Ty.list Ty.int))) (Int.toNat (0 : Int)) (Ty.dflt Ty.int)) (2 : Int))
 (br x6
 (br x7
 v7
 ((((0 : Int) ≤ (0 : Int)) ∧ ((0 : Int) < (((len (nth x2 (Int.toNat x0) (Ty.dflt (Ty.list Ty.int)))) : Nat) : Int))) ∧
 (br (eqi (nth (nth x2 (Int.toNat x0) (Ty.dflt (Ty.list Ty.int))) (Int.toNat (0 : Int)) (Ty.dflt Ty.int)) (4 : Int))
 (br (!x6)
 v7
 v7)
 (rec ref_GateStateOf_L1 (ref_GateStateOf_S1 (w64 (x0 + (1 : Int))) x1 x2 x3 x4 (!x6) true false x8 x9 x10 x11 x12)))))
 ((((0 : Int) ≤ (0 : Int)) ∧ ((0 : Int) < (((len (nth x2 (Int.toNat x0) (Ty.dflt (Ty.list Ty.int)))) : Nat) : Int))) ∧
 (br (eqi (nth (nth x2 (Int.toNat x0) (Ty.dflt (Ty.list Ty.int))) (Int.toNat (0 : Int)) (Ty.dflt Ty.int)) (3 : Int))
 (br x7
 v0
 ((((0 : Int) ≤ (0 : Int)) ∧ ((0 : Int) < (((len (nth x2 (Int.toNat x0) (Ty.dflt (Ty.list Ty.int)))) : Nat) : Int))) ∧
 (br (eqi (nth (nth x2 (Int.toNat x0) (Ty.dflt (Ty.list Ty.int))) (Int.toNat (0 : Int)) (Ty.dflt Ty.int)) (4 : Int))
 (br (!x6)
 v0
 (rec ref_GateStateOf_L1 (ref_GateStateOf_S1 (w64 (x0 + (1 : Int))) x1 x2 x3 x4 (!x6) (!(!x6)) (!(!x6)) x8 x9 x10 x11 x12)))
 (rec ref_GateStateOf_L1 (ref_GateStateOf_S1 (w64 (x0 + (1 : Int))) x1 x2 x3 x4 (!x6) (!(!x6)) false x8 x9 x10 x11 x12)))))
 (br x7
 v4
 ((((0 : Int) ≤ (0 : Int)) ∧ ((0 : Int) < (((len (nth x2 (Int.toNat x0) (Ty.dflt (Ty.list Ty.int)))) : Nat) : Int))) ∧
 (br (eqi (nth (nth x2 (Int.toNat x0) (Ty.dflt (Ty.list Ty.int))) (Int.toNat (0 : Int)) (Ty.dflt Ty.int)) (4 : Int))
 (br (!x6)
 v4
 v3)
 v3))))))
 (br x6
 (br x7
 v6
 ((((0 : Int) ≤ (0 : Int)) ∧ ((0 : Int) < (((len (nth x2 (Int.toNat x0) (Ty.dflt (Ty.list Ty.int)))) : Nat) : Int))) ∧
 (br (eqi (nth (nth x2 (Int.toNat x0) (Ty.dflt (Ty.list Ty.int))) (Int.toNat (0 : Int)) (Ty.dflt Ty.int)) (4 : Int))
 v6
 (rec ref_GateStateOf_L1 (ref_GateStateOf_S1 (w64 (x0 + (1 : Int))) x1 x2 x3 x4 false true false x8 x9 x10 x11 x12)))))
 ((((0 : Int) ≤ (0 : Int)) ∧ ((0 : Int) < (((len (nth x2 (Int.toNat x0) (Ty.dflt (Ty.list Ty.int)))) : Nat) : Int))) ∧
 (br (eqi (nth (nth x2 (Int.toNat x0) (Ty.dflt (Ty.list Ty.int))) (Int.toNat (0 : Int)) (Ty.dflt Ty.int)) (3 : Int))
 (br x7
 (rec ref_GateStateOf_L1 (ref_GateStateOf_S1 (w64 (x0 + (1 : Int))) x1 x2 x3 x4 false (!false) true x8 x9 x10 x11 x12))
 ((((0 : Int) ≤ (0 : Int)) ∧ ((0 : Int) < (((len (nth x2 (Int.toNat x0) (Ty.dflt (Ty.list Ty.int)))) : Nat) : Int))) ∧
 (br (eqi (nth (nth x2 (Int.toNat x0) (Ty.dflt (Ty.list Ty.int))) (Int.toNat (0 : Int)) (Ty.dflt Ty.int)) (4 : Int))
 (rec ref_GateStateOf_L1 (ref_GateStateOf_S1 (w64 (x0 + (1 : Int))) x1 x2 x3 x4 false (!false) (!false) x8 x9 x10 x11 x12))
 (rec ref_GateStateOf_L1 (ref_GateStateOf_S1 (w64 (x0 + (1 : Int))) x1 x2 x3 x4 false (!false) false x8 x9 x10 x11 x12)))))
 (br x7
 (rec ref_GateStateOf_L1 (ref_GateStateOf_S1 (w64 (x0 + (1 : Int))) x1 x2 x3 x4 false false true x8 x9 x10 x11 x12))
 ((((0 : Int) ≤ (0 : Int)) ∧ ((0 : Int) < (((len (nth x2 (Int.toNat x0) (Ty.dflt (Ty.list Ty.int)))) : Nat) : Int))) ∧
 (br (eqi (nth (nth x2 (Int.toNat x0) (Ty.dflt (Ty.list Ty.int))) (Int.toNat (0 : Int)) (Ty.dflt Ty.int)) (4 : Int))
 v2
 v2)))))))))
 v9))
 v9))
 (K (.agg [dI x3, dI x4, dB x5, dB x6, dB x7]) [])) := by subst_vars; kernel_rfl
theorem ref_GateStateOf_w1 (m : Nat) (K : KK) (st : St) : goD Γ_ref_GateStateOf tab fn_ref_GateStateOf 0 K (m + 1) ref_GateStateOf_L1 st = segD Γ_ref_GateStateOf tab fn_ref_GateStateOf 0 K (goD Γ_ref_GateStateOf tab fn_ref_GateStateOf 0 K m) (.code (Code.sub (bodyOf fn_ref_GateStateOf) [1, 1, 1, 1, 1, 1, 1, 1, 0, 1, 0, 0]) :: ref_GateStateOf_L1) st := rfl

theorem loop1_ref_GateStateOf (p : List (List Int)) (hp : p.length ≤ 1000) (hb : ∀ r ∈ p, ¬ isBeg r) (N V' : Int) (hN : N ≠ 0) (K : KK) (x8 x9 : Int) (x10 x11 x12 : Bool) (q : Nat) : ∀ (d k : Nat) (c a e : Bool), k + d = p.length →
    K (.agg [dI ((p.drop k).foldl stepGt ⟨N, V', c, a, e⟩).n, dI ((p.drop k).foldl stepGt ⟨N, V', c, a, e⟩).version, dB ((p.drop k).foldl stepGt ⟨N, V', c, a, e⟩).commit, dB ((p.drop k).foldl stepGt ⟨N, V', c, a, e⟩).abort, dB ((p.drop k).foldl stepGt ⟨N, V', c, a, e⟩).ended]) [] →
    goD Γ_ref_GateStateOf tab fn_ref_GateStateOf 0 K (q + d + 1) ref_GateStateOf_L1 (ref_GateStateOf_S1 (k : Int) (((len p) : Nat) : Int) p N V' c a e x8 x9 x10 x11 x12)
  | 0, k, c, a, e, hk, hK => by
    rw [ref_GateStateOf_w1, ref_GateStateOf_vc1 _ _ _ _ _ _ _ _ _ _ _ _ _ _ _ _ rfl _ rfl _ rfl _ rfl _ rfl _ rfl _ rfl _ rfl _ rfl _ rfl]
    rw [List.drop_of_length_le (by omega)] at hK
    exact lt_f (by simp only [len]; omega) hK
  | d + 1, k, c, a, e, hk, hK => by
    rw [show q + (d + 1) + 1 = (q + d + 1) + 1 by omega, ref_GateStateOf_w1, ref_GateStateOf_vc1 _ _ _ _ _ _ _ _ _ _ _ _ _ _ _ _ rfl _ rfl _ rfl _ rfl _ rfl _ rfl _ rfl _ rfl _ rfl _ rfl, toNat_nat]
    have hbk : ¬ isBeg (nth p k (Ty.dflt (Ty.list Ty.int))) := hb _ (by
      have : nth p k (Ty.dflt (Ty.list Ty.int)) = p[k]'(by omega) := by simp [nth, List.getD_eq_getElem?_getD, show k < p.length by omega]
      rw [this]; exact List.getElem_mem _)
    rw [drop_step (by omega) (Ty.dflt (Ty.list Ty.int)), List.foldl_cons] at hK
    obtain ⟨r, hr⟩ : ∃ r, nth p k (Ty.dflt (Ty.list Ty.int)) = r := ⟨_, rfl⟩
    rw [hr] at hK hbk ⊢
    rw [w64_succ (by omega), show Int.toNat (0 : Int) = 0 from rfl, show Int.toNat (1 : Int) = 1 from rfl, show nth r 0 (Ty.dflt Ty.int) = r.getD 0 0 from rfl, show nth r 1 (Ty.dflt Ty.int) = r.getD 1 0 from rfl]
    have go : ∀ c' a' e', stepGt ⟨N, V', c, a, e⟩ r = ⟨N, V', c', a', e'⟩ → goD Γ_ref_GateStateOf tab fn_ref_GateStateOf 0 K (q + d + 1) ref_GateStateOf_L1 (ref_GateStateOf_S1 ((k + 1 : Nat) : Int) (((len p) : Nat) : Int) p N V' c' a' e' x8 x9 x10 x11 x12) := fun c' a' e' h => by
      rw [h] at hK
      exact loop1_ref_GateStateOf p hp hb N V' hN K x8 x9 x10 x11 x12 q d (k + 1) c' a' e' (by omega) hK
    refine lt_t (by simp only [len]; omega) ⟨⟨by omega, by simp only [len]; omega⟩, eq_s (fun h1 => ⟨⟨by omega, by omega⟩, eq_s (fun h2 => ?_) (fun h2 => go _ _ _ (step_stay hbk (.inr h2)))⟩) (fun h1 => go _ _ _ (step_stay hbk (.inl (by simp only [len] at h1; omega))))⟩
    have L2 : r.length = 2 := by simp only [len] at h1; omega
    have c0 : ((0 : Int) ≤ 0) ∧ ((0 : Int) < (((len r) : Nat) : Int)) := ⟨by omega, by omega⟩
    have st := fun c a e => step_two (N := N) (V := V') (c := c) (a := a) (e := e) L2 h2 hN
    clear hK
    obtain ⟨A, hA⟩ : ∃ A, r.getD 0 0 = A := ⟨_, rfl⟩
    simp only [hA] at st ⊢
    cases c <;> cases a <;> cases e <;> simp only [br, Bool.not_true, Bool.not_false]
    all_goals
      repeat' first
        | (exfalso; omega)
        | exact go _ _ _ (by rw [st]; simp [*])
        | (refine And.intro c0 ?_)
        | (refine eq_s (fun _ => ?_) (fun _ => ?_))
theorem loop0_ref_GateStateOf (l : List (List Int)) (hl : l.length ≤ 1000) (K : KK) (hK : K (.agg [dI (stateG l).n, dI (stateG l).version, dB (stateG l).commit, dB (stateG l).abort, dB (stateG l).ended]) []) : ∀ (d k : Nat) (x3 : Int), k + d = l.length →
    ((x3 = -1 ∧ ∀ j, j < k → ¬ isBeg (l.getD j [])) ∨ ∃ f : Nat, x3 = f ∧ f < k ∧ isBeg (l.getD f []) ∧ ∀ j, f < j → j < k → ¬ isBeg (l.getD j [])) →
    goD Γ_ref_GateStateOf tab fn_ref_GateStateOf 0 K (l.length + 1 + d + 1) ref_GateStateOf_L0 (ref_GateStateOf_S0 (k : Int) (((len l) : Nat) : Int) l x3 l 0 0 false false false)
  | 0, k, x3, hk, hi => by
    rw [ref_GateStateOf_w0, ref_GateStateOf_vc0 _ _ _ _ _ _ _ _ _ _ _ _ _ rfl]
    have hkl : k = l.length := by omega
    subst hkl
    refine lt_f (by simp only [len]; omega) ?_
    rcases hi with ⟨h1, h2⟩ | ⟨f, h1, h2, h3, h4⟩
    · subst h1
      refine lt_t (by omega) ?_
      have : stateG l = noState := fold_noBeg l fun r hr => by
        obtain ⟨j, hj, rfl⟩ := List.getElem_of_mem hr
        have := h2 j hj
        simpa [List.getD_eq_getElem?_getD, hj] using this
      rw [this] at hK; exact hK
    · subst h1
      have e : nth l (Int.toNat (f : Int)) (Ty.dflt (Ty.list Ty.int)) = l.getD f [] := rfl
      rw [e]
      have hdec : l = l.take f ++ l.getD f [] :: l.drop (f + 1) := by
        conv => lhs; rw [← List.take_append_drop f l, drop_step h2 []]
        rfl
      have hst := stateG_at (l.take f) (l.drop (f + 1)) h3
      rw [← hdec] at hst
      rw [hst] at hK
      obtain ⟨b, hb⟩ : ∃ b, l.getD f [] = b := ⟨_, rfl⟩
      rw [hb] at h3 hK ⊢
      obtain ⟨b1, b2, b3, b4⟩ := h3
      have hlb : ((len b : Nat) : Int) = 3 := by simp only [len]; omega
      rw [hlb, show Int.toNat (1 : Int) = 1 from rfl, show Int.toNat (2 : Int) = 2 from rfl, show nth b 1 (Ty.dflt Ty.int) = b.getD 1 0 from rfl, show nth b 2 (Ty.dflt Ty.int) = b.getD 2 0 from rfl, w64_succ (by omega), toNat_nat, show Int.toNat ((len l : Nat) : Int) = l.length from rfl, slc_drop]
      refine lt_f (by omega) ⟨⟨by omega, by simp only [len]; omega⟩, ⟨by omega, by omega⟩, ⟨by omega, by simp only [len]; omega⟩, ⟨by omega, by omega⟩, eq_f (by omega) ⟨⟨by omega, by simp only [len]; omega, by omega⟩, ?_⟩⟩
      have hdl : (l.drop (f + 1)).length ≤ l.length := by simp
      have := loop1_ref_GateStateOf (l.drop (f + 1)) (by omega) (fun r hr => by
        obtain ⟨j, hj, rfl⟩ := List.getElem_of_mem hr
        have := h4 (f + 1 + j) (by omega) (by simp at hj; omega)
        have hj' : f + 1 + j < l.length := by simp at hj; omega
        simpa [List.getD_eq_getElem?_getD, hj'] using this) (b.getD 1 0) (b.getD 2 0) (by omega) K 0 0 false false false (l.length - (l.drop (f + 1)).length) (l.drop (f + 1)).length 0 false false false (by omega) hK
      rw [show l.length - (l.drop (f + 1)).length + (l.drop (f + 1)).length + 1 = l.length + 1 by omega] at this
      exact this
  | d + 1, k, x3, hk, hi => by
    rw [show l.length + 1 + (d + 1) + 1 = (l.length + 1 + d + 1) + 1 by omega, ref_GateStateOf_w0, ref_GateStateOf_vc0 _ _ _ _ _ _ _ _ _ _ _ _ _ rfl, toNat_nat]
    rw [w64_succ (by omega)]
    have e : nth l k (Ty.dflt (Ty.list Ty.int)) = l.getD k [] := rfl
    rw [e]
    obtain ⟨r, hr⟩ : ∃ r, l.getD k [] = r := ⟨_, rfl⟩
    rw [hr, show Int.toNat (0 : Int) = 0 from rfl, show Int.toNat (1 : Int) = 1 from rfl, show nth r 0 (Ty.dflt Ty.int) = r.getD 0 0 from rfl, show nth r 1 (Ty.dflt Ty.int) = r.getD 1 0 from rfl]
    have no : ¬ isBeg r → goD Γ_ref_GateStateOf tab fn_ref_GateStateOf 0 K (l.length + 1 + d + 1) ref_GateStateOf_L0 (ref_GateStateOf_S0 ((k + 1 : Nat) : Int) (((len l) : Nat) : Int) l x3 l 0 0 false false false) := fun h => by
      refine loop0_ref_GateStateOf l hl K hK d (k + 1) x3 (by omega) ?_
      have hat : ∀ j, j < k + 1 → (j < k → ¬ isBeg (l.getD j [])) → ¬ isBeg (l.getD j []) := fun j hj g => by
        by_cases c : j < k
        · exact g c
        · rw [show j = k by omega, hr]; exact h
      rcases hi with ⟨h1, h2⟩ | ⟨f, h1, h2, h3, h4⟩
      · exact .inl ⟨h1, fun j hj => hat j hj (h2 j)⟩
      · exact .inr ⟨f, h1, by omega, h3, fun j g1 g2 => hat j g2 (h4 j g1)⟩
    refine lt_t (by simp only [len]; omega) ⟨⟨by omega, by simp only [len]; omega⟩, eq_s (fun h1 => ⟨⟨by omega, by omega⟩, eq_s (fun h2 => ⟨⟨by omega, by omega⟩, br_split (fun h3 => ⟨⟨by omega, by omega⟩, br_split (fun h4 => ?_) (fun h4 => no (fun g => ?_))⟩) (fun h3 => no (fun g => ?_))⟩) (fun h2 => no (fun g => h2 g.1))⟩) (fun h1 => no (fun g => h1 (by simp only [len]; have := g.2.1; omega)))⟩
    · rw [lei_true] at h3 h4
      exact loop0_ref_GateStateOf l hl K hK d (k + 1) k (by omega) (.inr ⟨k, rfl, by omega, by rw [hr]; exact ⟨h2, by simp only [len] at h1; omega, h3, h4⟩, fun j g1 g2 => by omega⟩)
    · rw [lei_false] at h4; have := g.2.2.2; omega
    · rw [lei_false] at h3; have := g.2.2.1; omega
set_option maxHeartbeats 4000000 in
theorem run_ref_GateStateOf (ws : List Int) (fu : Int) (up : Bool) (tv : Int) (tk : List Int) (tt tn : Int) (vo di : List Bool) (hp : checkLog ⟨ws, fu⟩ = 0) (K : KK) (hK : K (.agg [dI (ofG ⟨ws, fu⟩).n, dI (ofG ⟨ws, fu⟩).version, dB (ofG ⟨ws, fu⟩).commit, dB (ofG ⟨ws, fu⟩).abort, dB (ofG ⟨ws, fu⟩).ended]) []) : ∃ m, goD Γ_ref_GateStateOf tab fn_ref_GateStateOf 0 K m [.code (bodyOf fn_ref_GateStateOf)] (initSt [.agg [dL ws, dI fu, dB up, dI tv, dL tk, dI tt, dI tn, dLb vo, dLb di]] []) := by
  obtain ⟨k1, k2, _⟩ := checkLog_ok hp
  obtain ⟨c1, _, _, c4⟩ := checkFlash_ok k1
  simp only at k2 c1 c4
  have hm := (recsOf_small ws).2
  refine ⟨(recsOf ws).length + 1 + (recsOf ws).length + 2, ?_⟩
  rw [ref_GateStateOf_w, ref_GateStateOf_vc _ _ _ _ _ _ _ _ _ _ _ _ rfl _ rfl]
  refine ⟨⟨by simp only [len]; omega, by have := okLen_le c1; simp only [len]; omega, c4⟩, ?_⟩
  rw [ofG_W hp] at hK
  exact loop0_ref_GateStateOf (recsOf ws) (by omega) K hK (recsOf ws).length 0 (-1) (by omega) (.inl ⟨rfl, fun j hj => by omega⟩)
theorem sound_ref_GateStateOf : SoundC Tryz.prog tab n_ref_GateStateOf c_ref_GateStateOf := soundC_of ok_ref_GateStateOf hf_ref_GateStateOf hB_ref_GateStateOf (by
  intro vs bs p v bs' h hp
  unfold c_ref_GateStateOf at h
  split at h
  · cases h
    exact ⟨by kernel_rfl, rfl, .inl (run_ref_GateStateOf _ _ _ _ _ _ _ _ _ hp.1 _ ⟨rfl, rfl⟩)⟩
  · cases h)

def c_ref_Taken_1 : Contract := fun vs bs => match vs, bs with
  | [.one (.dat .int e)], [] => some (none, .tup [.agg [.dat .int 0, .dat (.list .int) [], .dat .int 0, .dat .int 0], .one (.dat .int e)], [])
  | _, _ => none
def Γ_ref_Taken_1 : Ctx := []
theorem ok_ref_Taken_1 : Ok Tryz.prog tab Γ_ref_Taken_1 := ok_nil
theorem ref_Taken_1_vc (e : Int) (rec : RK) (K : KK) : segD Γ_ref_Taken_1 tab fn_ref_Taken_1 0 K rec [.code (bodyOf fn_ref_Taken_1)] (initSt [.one (dI e)] []) = (
 K (.tup [.agg [dI (0 : Int), dL [], dI (0 : Int), dI (0 : Int)], .one (dI e)]) []) := by kernel_rfl
theorem ref_Taken_1_w (m : Nat) (K : KK) (st : St) : goD Γ_ref_Taken_1 tab fn_ref_Taken_1 0 K (m + 1) [.code (bodyOf fn_ref_Taken_1)] st = segD Γ_ref_Taken_1 tab fn_ref_Taken_1 0 K (goD Γ_ref_Taken_1 tab fn_ref_Taken_1 0 K m) [.code (bodyOf fn_ref_Taken_1)] st := rfl

set_option maxHeartbeats 4000000 in
theorem run_ref_Taken_1 (e : Int) (K : KK) (hK : K (.tup [.agg [dI 0, dL [], dI 0, dI 0], .one (dI e)]) []) : ∃ m, goD Γ_ref_Taken_1 tab fn_ref_Taken_1 0 K m [.code (bodyOf fn_ref_Taken_1)] (initSt [.one (dI e)] []) := by
  refine ⟨1, ?_⟩
  rw [ref_Taken_1_w, ref_Taken_1_vc _ _ _]
  exact hK
theorem sound_ref_Taken_1 : SoundC Tryz.prog tab n_ref_Taken_1 c_ref_Taken_1 := soundC_of ok_ref_Taken_1 hf_ref_Taken_1 hB_ref_Taken_1 (by
  intro vs bs p v bs' h hp
  unfold c_ref_Taken_1 at h
  split at h
  · cases h
    exact ⟨by kernel_rfl, rfl, .inl (run_ref_Taken_1 _ _ ⟨rfl, rfl⟩)⟩
  · cases h)
end Go.Proofs.YtlbppjmekiemiacGreatDoor
