/- What the functions of UnitTwice compute (part 2 of 2). No condition. -/
import Derived.Test.YtlbppjmekiemiabDoorFUnitTwicea
import Derived.KernelRfl
namespace Go.Proofs.YtlbppjmekiemiabDoor
open Vm
def c_log_words : Contract := fun vs bs => match vs, bs with
  | [.one (.dat (.list .int) l)], [] => some (some (len l ≤ 255), .one (.dat (.list .int) (recW l)), [])
  | _, _ => none
def Γ_log_words : Ctx := [(n_log_head, c_log_head)]
theorem ok_log_words : Ok Tryd.prog tab Γ_log_words := (ok_nil.consC hf_log_head hB_log_head sound_log_head)
theorem log_words_vc (l : List Int) (rec : List It → St → Prop) (K : V → List Blk → Prop) : segD Γ_log_words tab fn_log_words 0 K rec [.code (bodyOf fn_log_words)] (initSt [.one (.dat (Ty.list Ty.int) l)] []) = (
    (((0 : Int) ≤ (((len l) : Nat) : Int)) ∧ ((((len l) : Nat) : Int) ≤ (255 : Int))) ∧
    (((((len (((42240 : Int) + (((len l) : Nat) : Int)) :: [])) + (len l)) * 8) ≤ 140737488355328) ∧
    (K (.one (.dat (Ty.list Ty.int) (cat (((42240 : Int) + (((len l) : Nat) : Int)) :: []) l))) []))) := by kernel_rfl
theorem log_words_w (l : List Int) (m : Nat) (K : V → List Blk → Prop) : goD Γ_log_words tab fn_log_words 0 K (m + 1) [.code (bodyOf fn_log_words)] (initSt [.one (.dat (Ty.list Ty.int) l)] []) = segD Γ_log_words tab fn_log_words 0 K (goD Γ_log_words tab fn_log_words 0 K m) [.code (bodyOf fn_log_words)] (initSt [.one (.dat (Ty.list Ty.int) l)] []) := rfl

set_option maxHeartbeats 4000000 in
theorem run_log_words (l : List Int) (hp : len l ≤ 255) (K : V → List Blk → Prop) (hK : K (.one (.dat (.list .int) (recW l))) []) : ∃ m, goD Γ_log_words tab fn_log_words 0 K m [.code (bodyOf fn_log_words)] (initSt [.one (.dat (.list .int) l)] []) := by
  refine ⟨1, ?_⟩
  rw [log_words_w, log_words_vc _ _ _]
  exact ⟨⟨by omega, by omega⟩, by simp only [len, List.length_cons, List.length_nil] at hp ⊢; omega, hK⟩
theorem sound_log_words : SoundC Tryd.prog tab n_log_words c_log_words := soundC_of ok_log_words hf_log_words hB_log_words (by
  intro vs bs p v bs' h hp
  unfold c_log_words at h
  split at h
  · cases h
    exact ⟨by kernel_rfl, rfl, .inl (run_log_words _ hp.1 _ ⟨rfl, rfl⟩)⟩
  · cases h)

def c_log_Append : Contract := fun vs bs => match vs, bs with
  | [.agg [.dat (.list .int) ws, .dat .int fu], .one (.dat (.list .int) r), .one (.dat (.list (.list .int)) keep)], [] => some (some (Sm r ∧ len keep * 24 ≤ 140737488351232 ∧ smR keep = true), .tup [.agg [.dat (.list .int) (appendF ⟨ws, fu⟩ r keep).1.words, .dat .int (appendF ⟨ws, fu⟩ r keep).1.fuel], .one (.dat .int (appendF ⟨ws, fu⟩ r keep).2)], [])
  | _, _ => none
def Γ_log_Append : Ctx := [(n_log_Check, c_log_Check), (n_log_check, c_log_check), (n_slices_Clone_LRecord, c_slices_Clone_LRecord), (n_log_words, c_log_words), (n_log_live, c_log_live), (n_flash_Copy, c_flash_Copy), (n_log_scan, (weakC c_log_scan)), (n_flash_Burn, (orC c_flash_Burn c_flash_Burn_b)), (n_flash_Wipe, c_flash_Wipe)]
theorem ok_log_Append : Ok Tryd.prog tab Γ_log_Append := (((((((((ok_nil.consC hf_flash_Wipe hB_flash_Wipe sound_flash_Wipe).consC hf_flash_Burn hB_flash_Burn (soundC_or sound_flash_Burn sound_flash_Burn_b)).consC hf_log_scan hB_log_scan (soundC_weak sound_log_scan)).consC hf_flash_Copy hB_flash_Copy sound_flash_Copy).consC hf_log_live hB_log_live sound_log_live).consC hf_log_words hB_log_words sound_log_words).consC hf_slices_Clone_LRecord hB_slices_Clone_LRecord sound_slices_Clone_LRecord).consC hf_log_check hB_log_check sound_log_check).consC hf_log_Check hB_log_Check sound_log_Check)
noncomputable def log_Append_L0 : List It := [.inLoop [40, 39, 38, 10, 7, 6, 3, 1] (Code.sub (bodyOf fn_log_Append) [1, 1, 1, 1, 0, 1, 0, 0]), .inBlock 0, .code (Code.sub (bodyOf fn_log_Append) [1, 1, 1, 1, 1])]
def log_Append_S0 (x0 : Int) (x1 : Int) (x2 : Int) (x3 : (List Int)) (x4 : (List (List Int))) (x5 : (List Int)) (x6 : Int) (x7 : (List Int)) (x8 : Int) (x9 : (List Int)) : St := ⟨[(40, .one (.dat Ty.int x0)), (39, .one (.dat Ty.int x1)), (38, .one (.own 0)), (10, .one (.own 1)), (7, .one (.dat Ty.int x2)), (6, .one (.ptr 2 0)), (3, .one (.ptr 3 0)), (1, .one (.dat (Ty.list Ty.int) x3))], [(0, .arr (Ty.list Ty.int) x4), (1, .arr Ty.int x5), (2, .box [.own 4, .dat Ty.int x6]), (3, .box [.dat (Ty.list Ty.int) x7, .dat Ty.int x8]), (4, .arr Ty.int x9)], 5⟩
theorem log_Append_vc (ws : List Int) (fu : Int) (r : List Int) (keep : List (List Int)) (rec : List It → St → Prop) (K : V → List Blk → Prop) v0 (hv0 : v0 = (checkLog (⟨ws, fu⟩ : Flash))) v1 (hv1 : v1 = (checkRec r)) : segD Γ_log_Append tab fn_log_Append 0 K rec [.code (bodyOf fn_log_Append)] (initSt [.agg [.dat (Ty.list Ty.int) ws, .dat Ty.int fu], .one (.dat (Ty.list Ty.int) r), .one (.dat (Ty.list (Ty.list Ty.int)) keep)] []) = (
    br (!(eqi v0 (0 : Int)))
     (K (.tup [.agg [.dat (Ty.list Ty.int) [], .dat Ty.int (0 : Int)], .one (.dat Ty.int v0)]) [])
     (((List.length r) ≤ 140737488355328) ∧
      (br (!(eqi v1 (0 : Int)))
       (K (.tup [.agg [.dat (Ty.list Ty.int) [], .dat Ty.int (0 : Int)], .one (.dat Ty.int v1)]) [])
       ((((len keep) * 24) ≤ 140737488355328) ∧
        (((((len keep) + (len (r :: []))) * 24) ≤ 140737488355328) ∧
        (rec log_Append_L0 (log_Append_S0 (0 : Int) (((len (cat keep (r :: []))) : Nat) : Int) (0 : Int) r (cat keep (r :: [])) [] (0 : Int) ws fu []))))))) := by subst hv1; subst hv0; kernel_rfl
theorem log_Append_w (ws : List Int) (fu : Int) (r : List Int) (keep : List (List Int)) (m : Nat) (K : V → List Blk → Prop) : goD Γ_log_Append tab fn_log_Append 0 K (m + 1) [.code (bodyOf fn_log_Append)] (initSt [.agg [.dat (Ty.list Ty.int) ws, .dat Ty.int fu], .one (.dat (Ty.list Ty.int) r), .one (.dat (Ty.list (Ty.list Ty.int)) keep)] []) = segD Γ_log_Append tab fn_log_Append 0 K (goD Γ_log_Append tab fn_log_Append 0 K m) [.code (bodyOf fn_log_Append)] (initSt [.agg [.dat (Ty.list Ty.int) ws, .dat Ty.int fu], .one (.dat (Ty.list Ty.int) r), .one (.dat (Ty.list (Ty.list Ty.int)) keep)] []) := rfl
theorem log_Append_vc0 (x0 : Int) (x1 : Int) (x2 : Int) (x3 : (List Int)) (x4 : (List (List Int))) (x5 : (List Int)) (x6 : Int) (x7 : (List Int)) (x8 : Int) (x9 : (List Int)) (rec : List It → St → Prop) (K : V → List Blk → Prop) v0 (hv0 : v0 = (checkRec (nth x4 (Int.toNat x0) (Ty.dflt (Ty.list Ty.int))))) v1 (hv1 : v1 = (recW (nth x4 (Int.toNat x0) (Ty.dflt (Ty.list Ty.int))))) v2 (hv2 : v2 = (okWords x7)) v3 (hv3 : v3 = (liveS x7)) v4 (hv4 : v4 = (scanS x7 (Int.toNat ((v3 : Nat) : Int)))) v5 (hv5 : v5 = (nextI (Int.toNat ((v3 : Nat) : Int)) (v4).snd)) v6 (hv6 : v6 = (recW x3)) v7 (hv7 : v7 = (burnCh (w64 (v5 + (1 : Int))) x3)) v8 (hv8 : v8 = (doCh (⟨x7, x8⟩ : Flash) v7)) v9 (hv9 : v9 = (burnCh v5 ((nth v6 (Int.toNat (0 : Int)) (Ty.dflt Ty.int)) :: []))) v10 (hv10 : v10 = (doCh (⟨((v8).fst).words, ((v8).fst).fuel⟩ : Flash) v9)) v11 (hv11 : v11 = (liveG x7)) v12 (hv12 : v12 = (wipeCh (w64 ((1 : Int) - ((v3 : Nat) : Int))))) v13 (hv13 : v13 = (doCh (⟨x7, x8⟩ : Flash) v12)) v14 (hv14 : v14 = (burnCh (w64 ((w64 ((w64 ((1 : Int) - ((v3 : Nat) : Int))) * (32 : Int))) + (1 : Int))) x5)) v15 (hv15 : v15 = (doCh (⟨((v13).fst).words, ((v13).fst).fuel⟩ : Flash) v14)) v16 (hv16 : v16 = (burnCh (w64 ((w64 ((1 : Int) - ((v3 : Nat) : Int))) * (32 : Int))) ((w64 (v11 + (1 : Int))) :: []))) v17 (hv17 : v17 = (doCh (⟨((v15).fst).words, ((v15).fst).fuel⟩ : Flash) v16)) : segD Γ_log_Append tab fn_log_Append 0 K rec (.code (Code.sub (bodyOf fn_log_Append) [1, 1, 1, 1, 0, 1, 0, 0]) :: log_Append_L0) (log_Append_S0 x0 x1 x2 x3 x4 x5 x6 x7 x8 x9) = (
    br (lti x0 x1)
     ((((0 : Int) ≤ x0) ∧ (x0 < (((len x4) : Nat) : Int))) ∧
      (((Int.toNat x0) < (len x4)) ∧
      (((List.length (nth x4 (Int.toNat x0) (Ty.dflt (Ty.list Ty.int)))) ≤ 140737488355328) ∧
      (br (!(eqi v0 (0 : Int)))
       (K (.tup [.agg [.dat (Ty.list Ty.int) [], .dat Ty.int (0 : Int)], .one (.dat Ty.int v0)]) [])
       (((len (nth x4 (Int.toNat x0) (Ty.dflt (Ty.list Ty.int)))) ≤ 255) ∧
        (((((len x5) + (len v1)) * 8) ≤ 140737488355328) ∧
        (br (lti (31 : Int) (((len (cat x5 v1)) : Nat) : Int))
         (K (.tup [.agg [.dat (Ty.list Ty.int) [], .dat Ty.int (0 : Int)], .one (.dat Ty.int (8 : Int))]) [])
         (rec log_Append_L0 (log_Append_S0 (w64 (x0 + (1 : Int))) x1 x2 x3 x4 (cat x5 v1) x6 x7 x8 x9)))))))))
     (((64 ≤ (len x7)) ∧ (v2 = true)) ∧
      ((((len x7) * 8) ≤ 140737488355328) ∧
      (((len x3) ≤ 255) ∧
      ((((0 : Int) ≤ ((v3 : Nat) : Int)) ∧ ((((v3 : Nat) : Int) ≤ (1 : Int)) ∧ ((64 ≤ (len x7)) ∧ (((len x7) ≤ 192) ∧ (v2 = true))))) ∧
      (br (lei (0 : Int) v5)
       (br (lei (w64 (v5 + (((len v6) : Nat) : Int))) (w64 ((w64 (((v3 : Nat) : Int) + (1 : Int))) * (32 : Int))))
         ((((-(1 : Int)) ≤ x8) ∧ ((x8 ≤ (100000 : Int)) ∧ (((0 : Int) ≤ (w64 (v5 + (1 : Int)))) ∧ ((((w64 (v5 + (1 : Int))) + (((len x3) : Nat) : Int)) ≤ (((len x7) : Nat) : Int)) ∧ ((len x7) ≤ 192))))) ∧
          (br (!(v8).snd)
           (K (.tup [.agg [.dat (Ty.list Ty.int) ((v8).fst).words, .dat Ty.int ((v8).fst).fuel], .one (.dat Ty.int (7 : Int))]) [])
           ((((0 : Int) ≤ (0 : Int)) ∧ ((0 : Int) < (((len v6) : Nat) : Int))) ∧
            ((((-(1 : Int)) ≤ ((v8).fst).fuel) ∧ ((((v8).fst).fuel ≤ (100000 : Int)) ∧ (((0 : Int) ≤ v5) ∧ (((v5 + (((len ((nth v6 (Int.toNat (0 : Int)) (Ty.dflt Ty.int)) :: [])) : Nat) : Int)) ≤ (((len ((v8).fst).words) : Nat) : Int)) ∧ ((len ((v8).fst).words) ≤ 192))))) ∧
            (br (!(v10).snd)
             (K (.tup [.agg [.dat (Ty.list Ty.int) ((v10).fst).words, .dat Ty.int ((v10).fst).fuel], .one (.dat Ty.int (7 : Int))]) [])
             (K (.tup [.agg [.dat (Ty.list Ty.int) ((v10).fst).words, .dat Ty.int ((v10).fst).fuel], .one (.dat Ty.int (0 : Int))]) []))))))
         (br (eqi v11 (60000 : Int))
           (K (.tup [.agg [.dat (Ty.list Ty.int) [], .dat Ty.int (0 : Int)], .one (.dat Ty.int (8 : Int))]) [])
           ((((-(1 : Int)) ≤ x8) ∧ ((x8 ≤ (100000 : Int)) ∧ (((0 : Int) ≤ (w64 ((1 : Int) - ((v3 : Nat) : Int)))) ∧ (((((w64 ((1 : Int) - ((v3 : Nat) : Int))) + (1 : Int)) * (32 : Int)) ≤ (((len x7) : Nat) : Int)) ∧ ((len x7) ≤ 192))))) ∧
            (br (!(v13).snd)
             (K (.tup [.agg [.dat (Ty.list Ty.int) ((v13).fst).words, .dat Ty.int ((v13).fst).fuel], .one (.dat Ty.int (7 : Int))]) [])
             ((((-(1 : Int)) ≤ ((v13).fst).fuel) ∧ ((((v13).fst).fuel ≤ (100000 : Int)) ∧ (((0 : Int) ≤ (w64 ((w64 ((w64 ((1 : Int) - ((v3 : Nat) : Int))) * (32 : Int))) + (1 : Int)))) ∧ ((((w64 ((w64 ((w64 ((1 : Int) - ((v3 : Nat) : Int))) * (32 : Int))) + (1 : Int))) + (((len x5) : Nat) : Int)) ≤ (((len ((v13).fst).words) : Nat) : Int)) ∧ ((len ((v13).fst).words) ≤ 192))))) ∧
              (br (!(v15).snd)
               (K (.tup [.agg [.dat (Ty.list Ty.int) ((v15).fst).words, .dat Ty.int ((v15).fst).fuel], .one (.dat Ty.int (7 : Int))]) [])
               ((((-(1 : Int)) ≤ ((v15).fst).fuel) ∧ ((((v15).fst).fuel ≤ (100000 : Int)) ∧ (((0 : Int) ≤ (w64 ((w64 ((1 : Int) - ((v3 : Nat) : Int))) * (32 : Int)))) ∧ ((((w64 ((w64 ((1 : Int) - ((v3 : Nat) : Int))) * (32 : Int))) + (((len ((w64 (v11 + (1 : Int))) :: [])) : Nat) : Int)) ≤ (((len ((v15).fst).words) : Nat) : Int)) ∧ ((len ((v15).fst).words) ≤ 192))))) ∧
                (br (!(v17).snd)
                 (K (.tup [.agg [.dat (Ty.list Ty.int) ((v17).fst).words, .dat Ty.int ((v17).fst).fuel], .one (.dat Ty.int (7 : Int))]) [])
                 (K (.tup [.agg [.dat (Ty.list Ty.int) ((v17).fst).words, .dat Ty.int ((v17).fst).fuel], .one (.dat Ty.int (0 : Int))]) [])))))))))
       (br (eqi v11 (60000 : Int))
         (K (.tup [.agg [.dat (Ty.list Ty.int) [], .dat Ty.int (0 : Int)], .one (.dat Ty.int (8 : Int))]) [])
         ((((-(1 : Int)) ≤ x8) ∧ ((x8 ≤ (100000 : Int)) ∧ (((0 : Int) ≤ (w64 ((1 : Int) - ((v3 : Nat) : Int)))) ∧ (((((w64 ((1 : Int) - ((v3 : Nat) : Int))) + (1 : Int)) * (32 : Int)) ≤ (((len x7) : Nat) : Int)) ∧ ((len x7) ≤ 192))))) ∧
          (br (!(v13).snd)
           (K (.tup [.agg [.dat (Ty.list Ty.int) ((v13).fst).words, .dat Ty.int ((v13).fst).fuel], .one (.dat Ty.int (7 : Int))]) [])
           ((((-(1 : Int)) ≤ ((v13).fst).fuel) ∧ ((((v13).fst).fuel ≤ (100000 : Int)) ∧ (((0 : Int) ≤ (w64 ((w64 ((w64 ((1 : Int) - ((v3 : Nat) : Int))) * (32 : Int))) + (1 : Int)))) ∧ ((((w64 ((w64 ((w64 ((1 : Int) - ((v3 : Nat) : Int))) * (32 : Int))) + (1 : Int))) + (((len x5) : Nat) : Int)) ≤ (((len ((v13).fst).words) : Nat) : Int)) ∧ ((len ((v13).fst).words) ≤ 192))))) ∧
            (br (!(v15).snd)
             (K (.tup [.agg [.dat (Ty.list Ty.int) ((v15).fst).words, .dat Ty.int ((v15).fst).fuel], .one (.dat Ty.int (7 : Int))]) [])
             ((((-(1 : Int)) ≤ ((v15).fst).fuel) ∧ ((((v15).fst).fuel ≤ (100000 : Int)) ∧ (((0 : Int) ≤ (w64 ((w64 ((1 : Int) - ((v3 : Nat) : Int))) * (32 : Int)))) ∧ ((((w64 ((w64 ((1 : Int) - ((v3 : Nat) : Int))) * (32 : Int))) + (((len ((w64 (v11 + (1 : Int))) :: [])) : Nat) : Int)) ≤ (((len ((v15).fst).words) : Nat) : Int)) ∧ ((len ((v15).fst).words) ≤ 192))))) ∧
              (br (!(v17).snd)
               (K (.tup [.agg [.dat (Ty.list Ty.int) ((v17).fst).words, .dat Ty.int ((v17).fst).fuel], .one (.dat Ty.int (7 : Int))]) [])
               (K (.tup [.agg [.dat (Ty.list Ty.int) ((v17).fst).words, .dat Ty.int ((v17).fst).fuel], .one (.dat Ty.int (0 : Int))]) [])))))))))))))) := by subst hv17; subst hv16; subst hv15; subst hv14; subst hv13; subst hv12; subst hv11; subst hv10; subst hv9; subst hv8; subst hv7; subst hv6; subst hv5; subst hv4; subst hv3; subst hv2; subst hv1; subst hv0; kernel_rfl
theorem log_Append_w0 (x0 : Int) (x1 : Int) (x2 : Int) (x3 : (List Int)) (x4 : (List (List Int))) (x5 : (List Int)) (x6 : Int) (x7 : (List Int)) (x8 : Int) (x9 : (List Int)) (m : Nat) (K : V → List Blk → Prop) : goD Γ_log_Append tab fn_log_Append 0 K (m + 1) log_Append_L0 (log_Append_S0 x0 x1 x2 x3 x4 x5 x6 x7 x8 x9) = segD Γ_log_Append tab fn_log_Append 0 K (goD Γ_log_Append tab fn_log_Append 0 K m) (.code (Code.sub (bodyOf fn_log_Append) [1, 1, 1, 1, 0, 1, 0, 0]) :: log_Append_L0) (log_Append_S0 x0 x1 x2 x3 x4 x5 x6 x7 x8 x9) := rfl

theorem loop_log_Append (ws r : List Int) (fu : Int) (rs : List (List Int)) (hl : rs.length ≤ 5864062014806) (hs : smR rs = true) (K : V → List Blk → Prop)
    (hbad : ∀ e, e ≠ 0 → gather 0 rs = e → K (.tup [.agg [.dat (.list .int) [], .dat .int 0], .one (.dat .int e)]) [])
    (hend : ∀ M, gather 0 rs = 0 → (allW rs).length ≤ 31 → goD Γ_log_Append tab fn_log_Append 0 K (M + 1) log_Append_L0 (log_Append_S0 (rs.length : Int) (((len rs) : Nat) : Int) 0 r rs (allW rs) 0 ws fu [])) :
    ∀ (d k : Nat), rs.length ≤ k + d → k ≤ rs.length → (allW (rs.take k)).length ≤ 31 → gather 0 rs = gather (allW (rs.take k)).length (rs.drop k) →
    goD Γ_log_Append tab fn_log_Append 0 K (d + 1) log_Append_L0 (log_Append_S0 (k : Int) (((len rs) : Nat) : Int) 0 r rs (allW (rs.take k)) 0 ws fu [])
  | 0, k, hk, hk2, ha, hg => by
    have : k = rs.length := by omega
    subst this
    rw [List.take_length] at ha hg ⊢
    rw [List.drop_length] at hg
    exact hend 0 hg ha
  | d + 1, k, hk, hk2, ha, hg => by
    by_cases c : k = rs.length
    · subst c
      rw [List.take_length] at ha hg ⊢
      rw [List.drop_length] at hg
      exact hend (d + 1) hg ha
    have ht := take_step (l := rs) (k := k) (by omega) (Ty.dflt (.list .int))
    rw [drop_step (by omega) (Ty.dflt (.list .int))] at hg
    have hm : nth rs k (Ty.dflt (.list .int)) ∈ rs := by
      have : k < rs.length := by omega
      simp [nth, List.getD_eq_getElem?_getD, this]
    have hsm := List.all_eq_true.1 hs _ hm
    simp only [decide_eq_true_eq] at hsm
    rw [log_Append_w0, log_Append_vc0 _ _ _ _ _ _ _ _ _ _ _ _ _ rfl _ rfl _ rfl _ rfl _ rfl _ rfl _ rfl _ rfl _ rfl _ rfl _ rfl _ rfl _ rfl _ rfl _ rfl _ rfl _ rfl _ rfl, toNat_nat]
    obtain ⟨x, hx⟩ : ∃ x, nth rs k (Ty.dflt (.list .int)) = x := ⟨_, rfl⟩
    rw [hx] at ht hg hsm ⊢
    simp only [gather] at hg
    refine lt_t (by simp only [len]; omega) ⟨⟨by omega, by simp only [len]; omega⟩, by simp only [len]; omega, hsm, ne_s (fun h1 => ?_) (fun h1 => ?_)⟩
    · rw [if_neg h1] at hg
      exact hbad _ h1 hg
    · rw [if_pos h1] at hg
      obtain ⟨r1, r2, r3⟩ := checkRec_ok h1
      refine ⟨by simp only [len]; omega, by simp only [len, recW_len]; omega, lt_s (fun h2 => ?_) (fun h2 => ?_)⟩
      · simp only [len, cat, List.length_append, recW_len] at h2
        rw [if_neg (by omega)] at hg
        exact hbad 8 (by decide) hg
      · simp only [len, cat, List.length_append, recW_len] at h2
        rw [if_pos (by omega)] at hg
        rw [w64_succ (by omega)]
        have e : cat (allW (rs.take k)) (recW x) = allW (rs.take (k + 1)) := by rw [ht, allW_snoc]; rfl
        have el : (allW (rs.take (k + 1))).length = (allW (rs.take k)).length + 1 + x.length := by rw [ht, allW_snoc, List.length_append, recW_len]; omega
        rw [e]
        exact loop_log_Append ws r fu rs hl hs K hbad hend d (k + 1) (by omega) (by omega) (by rw [el]; omega) (by rw [hg, el])
theorem there_log_Append (ws al : List Int) (fu g : Int) (s : Nat) (hs : s ≤ 1) (h64 : 64 ≤ ws.length) (h192 : ws.length ≤ 192) (f1 : -1 ≤ fu) (f2 : fu ≤ 100000) (hg0 : 0 ≤ g) (hg1 : g ≤ 65535) (hal : al.length ≤ 31) (P : Flash × Int → Prop)
    (hP : P (power (doCh ⟨ws, fu⟩ (wipeCh ((1 - s : Nat) : Int) ++ burnCh (32 * ((1 - s : Nat) : Int) + 1) al ++ burnCh (32 * ((1 - s : Nat) : Int)) [g + 1])))) :
    let o := w64 (1 - (s : Int))
    let a := doCh ⟨ws, fu⟩ (wipeCh o)
    let b := doCh ⟨a.1.words, a.1.fuel⟩ (burnCh (w64 (w64 (o * 32) + 1)) al)
    let c := doCh ⟨b.1.words, b.1.fuel⟩ (burnCh (w64 (o * 32)) [w64 (g + 1)])
    (0 ≤ o ∧ (o + 1) * 32 ≤ (ws.length : Int)) ∧
    (a.2 = false → P (a.1, 7)) ∧ ((-1 ≤ a.1.fuel ∧ a.1.fuel ≤ 100000 ∧ 0 ≤ w64 (w64 (o * 32) + 1) ∧ w64 (w64 (o * 32) + 1) + (al.length : Int) ≤ (a.1.words.length : Int) ∧ a.1.words.length ≤ 192) ∧
    (a.2 = true → b.2 = false → P (b.1, 7)) ∧ ((-1 ≤ b.1.fuel ∧ b.1.fuel ≤ 100000 ∧ 0 ≤ w64 (o * 32) ∧ w64 (o * 32) + 1 ≤ (b.1.words.length : Int) ∧ b.1.words.length ≤ 192) ∧
    (a.2 = true → b.2 = true → P (c.1, powerE c.2)))) := by
  intro o a b c
  have eo : o = ((1 - s : Nat) : Int) := by show w64 (1 - (s : Int)) = _; rw [w64_id (by omega) (by omega)]; omega
  have e1 : w64 (o * 32) = 32 * ((1 - s : Nat) : Int) := by rw [eo, w64_id (by omega) (by omega)]; omega
  have e2 : w64 (w64 (o * 32) + 1) = 32 * ((1 - s : Nat) : Int) + 1 := by rw [e1, w64_id (by omega) (by omega)]
  have e3 : w64 (g + 1) = g + 1 := w64_id (by omega) (by omega)
  have fa := doCh_fuel ⟨ws, fu⟩ (wipeCh o) f1 f2
  have la : a.1.words.length = ws.length := doCh_len ⟨ws, fu⟩ (wipeCh o)
  have fb := doCh_fuel a.1 (burnCh (w64 (w64 (o * 32) + 1)) al) fa.1 fa.2
  have lb : b.1.words.length = a.1.words.length := doCh_len a.1 (burnCh (w64 (w64 (o * 32) + 1)) al)
  rw [doCh_append, doCh_append] at hP
  have ea : doCh ⟨ws, fu⟩ (wipeCh ((1 - s : Nat) : Int)) = a := by rw [← eo]
  have eb : doCh a.1 (burnCh (32 * ((1 - s : Nat) : Int) + 1) al) = b := by rw [← e2]
  have ec : doCh b.1 (burnCh (32 * ((1 - s : Nat) : Int)) [g + 1]) = c := by rw [← e1, ← e3]
  rw [ea, eb] at hP
  refine ⟨by omega, fun h => ?_, ⟨fa.1, fa.2, by omega, by omega, by omega⟩, fun h h' => ?_, ⟨fb.1, fb.2, by omega, by omega, by omega⟩, fun h h' => ?_⟩
  · rw [if_neg (by simp [h]), if_neg (by simp [h])] at hP
    simpa [power, h, powerE] using hP
  · rw [if_pos h, if_neg (by simp [h'])] at hP
    simpa [power, h', powerE] using hP
  · rw [if_pos h, if_pos h', ec] at hP
    exact hP
set_option maxHeartbeats 4000000 in
theorem run_log_Append (ws : List Int) (fu : Int) (r : List Int) (keep : List (List Int)) (hp : Sm r ∧ len keep * 24 ≤ 140737488351232 ∧ smR keep = true) (K : V → List Blk → Prop) (hK : K (.tup [.agg [.dat (.list .int) (appendF ⟨ws, fu⟩ r keep).1.words, .dat .int (appendF ⟨ws, fu⟩ r keep).1.fuel], .one (.dat .int (appendF ⟨ws, fu⟩ r keep).2)]) []) : ∃ m, goD Γ_log_Append tab fn_log_Append 0 K m [.code (bodyOf fn_log_Append)] (initSt [.agg [.dat (.list .int) ws, .dat .int fu], .one (.dat (.list .int) r), .one (.dat (.list (.list .int)) keep)] []) := by
  obtain ⟨hr, hk, hsm⟩ := hp
  refine ⟨(keep ++ [r]).length + 1 + 1, ?_⟩
  rw [log_Append_w, log_Append_vc _ _ _ _ _ _ _ rfl _ rfl]
  unfold appendF appendE at hK
  simp only [len] at hk
  refine ne_s (fun h => ?_) (fun h => ?_)
  · rw [if_neg h, if_neg h] at hK; exact hK
  rw [if_pos h] at hK
  refine ⟨hr, ne_s (fun h2 => ?_) (fun h2 => ?_)⟩
  · rw [if_neg h2, if_neg h2] at hK; exact hK
  rw [if_pos h2] at hK
  obtain ⟨k1, k2, k3, k4⟩ := checkLog_ok h
  obtain ⟨c1, c2, c3, c4⟩ := checkFlash_ok k1
  obtain ⟨c5, c6⟩ := okLen_le c1
  simp only at k2 k3 k4 c2 c3 c4 c5 c6
  obtain ⟨r1, r2, r3⟩ := checkRec_ok h2
  have hlen : (keep ++ [r]).length = keep.length + 1 := by simp
  obtain ⟨rs, hrs⟩ : ∃ rs, keep ++ [r] = rs := ⟨_, rfl⟩
  have hsr : smR rs = true := by
    rw [← hrs]; unfold smR at hsm ⊢; rw [List.all_append, hsm]
    simp only [List.all_cons, List.all_nil, Bool.and_true, Bool.true_and, decide_eq_true_eq]; omega
  rw [hrs] at hlen ⊢
  refine ⟨by simp only [len]; omega, by simp only [len, List.length_cons, List.length_nil]; omega, ?_⟩
  rw [show cat keep [r] = rs from hrs]
  rw [hrs] at hK
  have e0 : allW (rs.take 0) = [] := by simp [allW]
  have l0 : (allW (rs.take 0)).length = 0 := by rw [e0]; rfl
  refine loop_log_Append ws r fu rs (by omega) hsr K (fun e he hg => ?_) (fun M hg hal => ?_) rs.length 0 (by omega) (by omega) (by omega) (by rw [l0, List.drop_zero])
  · rw [hg, if_neg he] at hK; exact hK
  rw [hg, if_pos rfl] at hK
  rw [log_Append_w0, log_Append_vc0 _ _ _ _ _ _ _ _ _ _ _ _ _ rfl _ rfl _ rfl _ rfl _ rfl _ rfl _ rfl _ rfl _ rfl _ rfl _ rfl _ rfl _ rfl _ rfl _ rfl _ rfl _ rfl _ rfl, toNat_nat]
  unfold appendCh at hK
  have hls := liveS_le ws
  have hgr := genOf_range c4 (liveS ws)
  have hg1 : liveG ws = genOf ws (liveS ws) := rfl
  have es : ∀ s : Nat, Int.toNat (s : Int) = s := fun _ => rfl
  simp only [hrs] at hK
  obtain ⟨s, hs⟩ : ∃ s, liveS ws = s := ⟨_, rfl⟩
  rw [hs] at hK hls ⊢
  obtain ⟨g, hgg⟩ : ∃ g, liveG ws = g := ⟨_, rfl⟩
  rw [hgg] at hK hg1 k3 k4 ⊢
  rw [w64_id (n := (s : Int) + 1) (by omega) (by omega), w64_id (n := ((s : Int) + 1) * 32) (by omega) (by omega)]
  have e6 : (((len (recW r)) : Nat) : Int) = (r.length : Int) + 1 := by simp only [len, recW_len]; omega
  have e7 : nth (recW r) (Int.toNat (0 : Int)) (Ty.dflt Ty.int) = 42240 + (r.length : Int) := rfl
  rw [e6, e7, es s]
  simp only [len]
  have hthere := fun (hP : K (.tup [.agg [.dat (.list .int) (power (doCh ⟨ws, fu⟩ (thereCh (1 - s) rs (g + 1)))).1.words, .dat .int (power (doCh ⟨ws, fu⟩ (thereCh (1 - s) rs (g + 1)))).1.fuel], .one (.dat .int (power (doCh ⟨ws, fu⟩ (thereCh (1 - s) rs (g + 1)))).2)]) []) =>
    there_log_Append ws (allW rs) fu g s hls k2 c6 c2 c3 (by omega) (by omega) hal (fun x => K (.tup [.agg [.dat (.list .int) x.1.words, .dat .int x.1.fuel], .one (.dat .int x.2)]) []) hP
  refine lt_f (by omega) ⟨⟨k2, c4⟩, by omega, by omega, ⟨by omega, by omega, k2, c6, c4⟩, ?_⟩
  cases hsc : (scanS ws s).2 with
  | none =>
    rw [hsc] at hK
    simp only [room, Bool.false_eq_true, if_false] at hK
    simp only [nextI]
    refine br_f (lei_false.2 (by omega)) (eq_s (fun h5 => ?_) (fun h5 => ?_))
    · rw [if_pos h5] at hK; exact hK
    · rw [if_neg h5] at hK
      obtain ⟨t1, t2, t3, t4, t5, t6⟩ := hthere hK
      refine ⟨⟨c2, c3, t1.1, t1.2, c6⟩, nt_s t2 (fun q1 => ⟨t3, nt_s (t4 q1) (fun q2 => ⟨t5, nt_s (fun q3 => ?_) (fun q3 => ?_)⟩)⟩)⟩
      · have := t6 q1 q2; rw [q3] at this; exact this
      · have := t6 q1 q2; rw [q3] at this; exact this
  | some a =>
    have ha := scanS_le (by omega) hsc
    rw [hsc] at hK
    simp only [nextI]
    rw [w64_id (n := 32 * (s : Int) + 1 + a + ((r.length : Int) + 1)) (by omega) (by omega), w64_id (n := 32 * (s : Int) + 1 + a + 1) (by omega) (by omega)]
    refine br_t (lei_true.2 (by omega)) (br_split (fun h5 => ?_) (fun h5 => ?_))
    · rw [lei_true] at h5
      rw [if_pos (show room r.length (some a) = true from by simp only [room, decide_eq_true_eq]; omega)] at hK
      simp only [Option.getD_some, hereCh] at hK
      rw [show ((32 * s + 1 + a : Nat) : Int) = 32 * (s : Int) + 1 + a by omega, doCh_append] at hK
      obtain ⟨f1, f2⟩ := doCh_fuel ⟨ws, fu⟩ (burnCh (32 * (s : Int) + 1 + a + 1) r) c2 c3
      have l1 := doCh_len ⟨ws, fu⟩ (burnCh (32 * (s : Int) + 1 + a + 1) r)
      simp only at l1
      refine ⟨⟨c2, c3, by omega, by omega, c6⟩, nt_s (fun q1 => ?_) (fun q1 => ⟨⟨by omega, by omega⟩, ⟨f1, f2, by omega, by simp only [List.length_cons, List.length_nil]; omega, by omega⟩, nt_s (fun q2 => ?_) (fun q2 => ?_)⟩)⟩
      · rw [if_neg (by simp [q1])] at hK
        simpa only [power, q1, powerE] using hK
      · rw [if_pos q1] at hK
        simp only [power] at hK
        rw [show (doCh (doCh ⟨ws, fu⟩ (burnCh (32 * (s : Int) + 1 + a + 1) r)).1 (burnCh (32 * (s : Int) + 1 + a) [42240 + (r.length : Int)])).2 = false from q2] at hK
        exact hK
      · rw [if_pos q1] at hK
        simp only [power] at hK
        rw [show (doCh (doCh ⟨ws, fu⟩ (burnCh (32 * (s : Int) + 1 + a + 1) r)).1 (burnCh (32 * (s : Int) + 1 + a) [42240 + (r.length : Int)])).2 = true from q2] at hK
        exact hK
    · rw [lei_false] at h5
      rw [if_neg (show ¬ room r.length (some a) = true from by simp only [room, decide_eq_true_eq]; omega)] at hK
      refine eq_s (fun h5 => ?_) (fun h5 => ?_)
      · rw [if_pos h5] at hK; exact hK
      · rw [if_neg h5] at hK
        obtain ⟨t1, t2, t3, t4, t5, t6⟩ := hthere hK
        refine ⟨⟨c2, c3, t1.1, t1.2, c6⟩, nt_s t2 (fun q1 => ⟨t3, nt_s (t4 q1) (fun q2 => ⟨t5, nt_s (fun q3 => ?_) (fun q3 => ?_)⟩)⟩)⟩
        · have := t6 q1 q2; rw [q3] at this; exact this
        · have := t6 q1 q2; rw [q3] at this; exact this
theorem sound_log_Append : SoundC Tryd.prog tab n_log_Append c_log_Append := soundC_of ok_log_Append hf_log_Append hB_log_Append (by
  intro vs bs p v bs' h hp
  unfold c_log_Append at h
  split at h
  · cases h
    exact ⟨by kernel_rfl, rfl, .inl (run_log_Append _ _ _ _ hp.1 _ ⟨rfl, rfl⟩)⟩
  · cases h)

def c_unit_note : Contract := fun vs bs => match vs, bs with
  | [.one (.ptr 0 0), .one (.dat (.list .int) r)], [.box [.dat (.list .int) ws, .dat .int fu, .dat .bool up, .dat .int un, .dat .int ug]] => some (some (Sm r), .one (.dat .bool (noteU ⟨⟨ws, fu⟩, up, un, ug⟩ r).2), [.box [.dat (.list .int) (noteU ⟨⟨ws, fu⟩, up, un, ug⟩ r).1.f.words, .dat .int (noteU ⟨⟨ws, fu⟩, up, un, ug⟩ r).1.f.fuel, .dat .bool (noteU ⟨⟨ws, fu⟩, up, un, ug⟩ r).1.up, .dat .int (noteU ⟨⟨ws, fu⟩, up, un, ug⟩ r).1.n, .dat .int (noteU ⟨⟨ws, fu⟩, up, un, ug⟩ r).1.got]])
  | _, _ => none
def Γ_unit_note : Ctx := [(n_unit_of, c_unit_of), (n_unit_keep, c_unit_keep), (n_log_Append, c_log_Append), (n_unit_change, c_unit_change)]
theorem ok_unit_note : Ok Tryd.prog tab Γ_unit_note := ((((ok_nil.consC hf_unit_change hB_unit_change sound_unit_change).consC hf_log_Append hB_log_Append sound_log_Append).consC hf_unit_keep hB_unit_keep sound_unit_keep).consC hf_unit_of hB_unit_of sound_unit_of)
theorem unit_note_vc (ws : List Int) (fu : Int) (up : Bool) (un : Int) (ug : Int) (r : List Int) (rec : List It → St → Prop) (K : V → List Blk → Prop) v0 (hv0 : v0 = (ofU (⟨ws, fu⟩ : Vm.Flash))) v1 (hv1 : v1 = (keepS (v0).by_ (v0).slot (v0).ready)) v2 (hv2 : v2 = (smR v1)) v3 (hv3 : v3 = (appendF (⟨ws, fu⟩ : Vm.Flash) r v1)) v4 (hv4 : v4 = (changeU (⟨(⟨ws, fu⟩ : Vm.Flash), up, un, ug⟩ : Vm.UnitD) (⟨((v3).fst).words, ((v3).fst).fuel⟩ : Vm.Flash) (v3).snd)) : segD Γ_unit_note tab fn_unit_note 1 K rec [.code (bodyOf fn_unit_note)] (initSt [.one (.ptr 0 0), .one (.dat (Ty.list Ty.int) r)] [.box [.dat (Ty.list Ty.int) ws, .dat Ty.int fu, .dat Ty.bool up, .dat Ty.int un, .dat Ty.int ug]]) = (
    (((List.length r) ≤ 140737488355328) ∧ ((((len v1) * 24) ≤ 140737488351232) ∧ (v2 = true))) ∧
    (K (.one (.dat Ty.bool (v4).snd)) [.box [.dat (Ty.list Ty.int) (((v4).fst).f).words, .dat Ty.int (((v4).fst).f).fuel, .dat Ty.bool ((v4).fst).up, .dat Ty.int ((v4).fst).n, .dat Ty.int ((v4).fst).got]])) := by subst hv4; subst hv3; subst hv2; subst hv1; subst hv0; kernel_rfl
theorem unit_note_w (ws : List Int) (fu : Int) (up : Bool) (un : Int) (ug : Int) (r : List Int) (m : Nat) (K : V → List Blk → Prop) : goD Γ_unit_note tab fn_unit_note 1 K (m + 1) [.code (bodyOf fn_unit_note)] (initSt [.one (.ptr 0 0), .one (.dat (Ty.list Ty.int) r)] [.box [.dat (Ty.list Ty.int) ws, .dat Ty.int fu, .dat Ty.bool up, .dat Ty.int un, .dat Ty.int ug]]) = segD Γ_unit_note tab fn_unit_note 1 K (goD Γ_unit_note tab fn_unit_note 1 K m) [.code (bodyOf fn_unit_note)] (initSt [.one (.ptr 0 0), .one (.dat (Ty.list Ty.int) r)] [.box [.dat (Ty.list Ty.int) ws, .dat Ty.int fu, .dat Ty.bool up, .dat Ty.int un, .dat Ty.int ug]]) := rfl

set_option maxHeartbeats 4000000 in
theorem run_unit_note (ws : List Int) (fu : Int) (up : Bool) (un ug : Int) (r : List Int) (hp : Sm r) (K : V → List Blk → Prop) (hK : K (.one (.dat .bool (noteU ⟨⟨ws, fu⟩, up, un, ug⟩ r).2)) [.box [.dat (.list .int) (noteU ⟨⟨ws, fu⟩, up, un, ug⟩ r).1.f.words, .dat .int (noteU ⟨⟨ws, fu⟩, up, un, ug⟩ r).1.f.fuel, .dat .bool (noteU ⟨⟨ws, fu⟩, up, un, ug⟩ r).1.up, .dat .int (noteU ⟨⟨ws, fu⟩, up, un, ug⟩ r).1.n, .dat .int (noteU ⟨⟨ws, fu⟩, up, un, ug⟩ r).1.got]]) : ∃ m, goD Γ_unit_note tab fn_unit_note 1 K m [.code (bodyOf fn_unit_note)] (initSt [.one (.ptr 0 0), .one (.dat (.list .int) r)] [.box [.dat (.list .int) ws, .dat .int fu, .dat .bool up, .dat .int un, .dat .int ug]]) := by
  refine ⟨1, ?_⟩
  rw [unit_note_w, unit_note_vc _ _ _ _ _ _ _ _ _ rfl _ rfl _ rfl _ rfl _ rfl]
  have h := keepS_sm (ofU ⟨ws, fu⟩).by_ (ofU ⟨ws, fu⟩).slot (ofU ⟨ws, fu⟩).ready
  exact ⟨⟨hp, by simp only [len]; omega, h.1⟩, hK⟩
theorem sound_unit_note : SoundC Tryd.prog tab n_unit_note c_unit_note := soundC_of ok_unit_note hf_unit_note hB_unit_note (by
  intro vs bs p v bs' h hp
  unfold c_unit_note at h
  split at h
  · cases h
    exact ⟨by kernel_rfl, rfl, .inl (run_unit_note _ _ _ _ _ _ hp.1 _ ⟨rfl, rfl⟩)⟩
  · cases h)

def c_slices_Equal_Lint : Contract := fun vs bs => match vs, bs with
  | [.one (.dat (.list .int) a), .one (.dat (.list .int) b)], [] => some (some (Sm a), .one (.dat .bool (eqIs a b)), [])
  | _, _ => none
def Γ_slices_Equal_Lint : Ctx := []
theorem ok_slices_Equal_Lint : Ok Tryd.prog tab Γ_slices_Equal_Lint := ok_nil
noncomputable def slices_Equal_Lint_L0 : List It := [.inLoop [13, 12, 4, 0, 1] (Code.sub (bodyOf fn_slices_Equal_Lint) [1, 1, 0, 1, 0, 0]), .inBlock 0, .code (Code.sub (bodyOf fn_slices_Equal_Lint) [1, 1, 1])]
def slices_Equal_Lint_S0 (x0 : Int) (x1 : Int) (x2 : Bool) (x3 : (List Int)) (x4 : (List Int)) : St := ⟨[(13, .one (.dat Ty.int x0)), (12, .one (.dat Ty.int x1)), (4, .one (.dat Ty.bool x2)), (0, .one (.dat (Ty.list Ty.int) x3)), (1, .one (.dat (Ty.list Ty.int) x4))], [], 0⟩
theorem slices_Equal_Lint_vc (a : List Int) (b : List Int) (rec : List It → St → Prop) (K : V → List Blk → Prop) : segD Γ_slices_Equal_Lint tab fn_slices_Equal_Lint 0 K rec [.code (bodyOf fn_slices_Equal_Lint)] (initSt [.one (.dat (Ty.list Ty.int) a), .one (.dat (Ty.list Ty.int) b)] []) = (
    br (!(eqi (((len a) : Nat) : Int) (((len b) : Nat) : Int)))
     (K (.one (.dat Ty.bool false)) [])
     (rec slices_Equal_Lint_L0 (slices_Equal_Lint_S0 (0 : Int) (((len a) : Nat) : Int) false a b))) := by kernel_rfl
theorem slices_Equal_Lint_w (a : List Int) (b : List Int) (m : Nat) (K : V → List Blk → Prop) : goD Γ_slices_Equal_Lint tab fn_slices_Equal_Lint 0 K (m + 1) [.code (bodyOf fn_slices_Equal_Lint)] (initSt [.one (.dat (Ty.list Ty.int) a), .one (.dat (Ty.list Ty.int) b)] []) = segD Γ_slices_Equal_Lint tab fn_slices_Equal_Lint 0 K (goD Γ_slices_Equal_Lint tab fn_slices_Equal_Lint 0 K m) [.code (bodyOf fn_slices_Equal_Lint)] (initSt [.one (.dat (Ty.list Ty.int) a), .one (.dat (Ty.list Ty.int) b)] []) := rfl
theorem slices_Equal_Lint_vc0 (x0 : Int) (x1 : Int) (x2 : Bool) (x3 : (List Int)) (x4 : (List Int)) (rec : List It → St → Prop) (K : V → List Blk → Prop) : segD Γ_slices_Equal_Lint tab fn_slices_Equal_Lint 0 K rec (.code (Code.sub (bodyOf fn_slices_Equal_Lint) [1, 1, 0, 1, 0, 0]) :: slices_Equal_Lint_L0) (slices_Equal_Lint_S0 x0 x1 x2 x3 x4) = (
    br (lti x0 x1)
     ((((0 : Int) ≤ x0) ∧ (x0 < (((len x3) : Nat) : Int))) ∧
      ((((0 : Int) ≤ x0) ∧ (x0 < (((len x4) : Nat) : Int))) ∧
      (br (!(eqi (nth x3 (Int.toNat x0) (Ty.dflt Ty.int)) (nth x4 (Int.toNat x0) (Ty.dflt Ty.int))))
       (K (.one (.dat Ty.bool false)) [])
       (rec slices_Equal_Lint_L0 (slices_Equal_Lint_S0 (w64 (x0 + (1 : Int))) x1 x2 x3 x4)))))
     (K (.one (.dat Ty.bool true)) [])) := by kernel_rfl
theorem slices_Equal_Lint_w0 (x0 : Int) (x1 : Int) (x2 : Bool) (x3 : (List Int)) (x4 : (List Int)) (m : Nat) (K : V → List Blk → Prop) : goD Γ_slices_Equal_Lint tab fn_slices_Equal_Lint 0 K (m + 1) slices_Equal_Lint_L0 (slices_Equal_Lint_S0 x0 x1 x2 x3 x4) = segD Γ_slices_Equal_Lint tab fn_slices_Equal_Lint 0 K (goD Γ_slices_Equal_Lint tab fn_slices_Equal_Lint 0 K m) (.code (Code.sub (bodyOf fn_slices_Equal_Lint) [1, 1, 0, 1, 0, 0]) :: slices_Equal_Lint_L0) (slices_Equal_Lint_S0 x0 x1 x2 x3 x4) := rfl

theorem loop_slices_Equal_Lint (a b : List Int) (hl : a.length = b.length) (hs : Sm a) (K : V → List Blk → Prop) (hK : K (.one (.dat .bool (eqIs a b))) []) : ∀ (d k : Nat), k + d = a.length → a.take k = b.take k →
    goD Γ_slices_Equal_Lint tab fn_slices_Equal_Lint 0 K (d + 1) slices_Equal_Lint_L0 (slices_Equal_Lint_S0 (k : Int) (((len a) : Nat) : Int) false a b)
  | 0, k, hk, he => by
    rw [slices_Equal_Lint_w0, slices_Equal_Lint_vc0 _ _ _ _ _ _ _]
    refine lt_f (by simp only [len]; omega) ?_
    rw [List.take_of_length_le (by omega), List.take_of_length_le (by omega)] at he
    rw [show eqIs a b = true from by simp [eqIs, he]] at hK
    exact hK
  | d + 1, k, hk, he => by
    unfold Sm at hs
    rw [slices_Equal_Lint_w0, slices_Equal_Lint_vc0 _ _ _ _ _ _ _]
    refine lt_t (by simp only [len]; omega) ⟨⟨by omega, by simp only [len]; omega⟩, ⟨by omega, by simp only [len]; omega⟩, ne_s (fun hne => ?_) (fun heq => ?_)⟩
    · rw [show eqIs a b = false from by simp only [eqIs, decide_eq_false_iff_not]; rintro rfl; exact hne rfl] at hK
      exact hK
    · rw [w64_succ (by omega)]
      refine loop_slices_Equal_Lint a b hl ‹Sm a› K hK d (k + 1) (by omega) ?_
      rw [take_step (by omega) (Ty.dflt Ty.int), take_step (by omega) (Ty.dflt Ty.int), he]
      rw [toNat_nat] at heq
      rw [heq]
set_option maxHeartbeats 4000000 in
theorem run_slices_Equal_Lint (a b : List Int) (hp : Sm a) (K : V → List Blk → Prop) (hK : K (.one (.dat .bool (eqIs a b))) []) : ∃ m, goD Γ_slices_Equal_Lint tab fn_slices_Equal_Lint 0 K m [.code (bodyOf fn_slices_Equal_Lint)] (initSt [.one (.dat (.list .int) a), .one (.dat (.list .int) b)] []) := by
  refine ⟨a.length + 2, ?_⟩
  rw [slices_Equal_Lint_w, slices_Equal_Lint_vc _ _ _ _]
  refine ne_s (fun h => ?_) (fun h => ?_)
  · rw [show eqIs a b = false from by simp only [eqIs, decide_eq_false_iff_not]; rintro rfl; exact h rfl] at hK
    exact hK
  · exact loop_slices_Equal_Lint a b (by simp only [len] at h; omega) hp K hK a.length 0 (by omega) rfl
theorem sound_slices_Equal_Lint : SoundC Tryd.prog tab n_slices_Equal_Lint c_slices_Equal_Lint := soundC_of ok_slices_Equal_Lint hf_slices_Equal_Lint hB_slices_Equal_Lint (by
  intro vs bs p v bs' h hp
  unfold c_slices_Equal_Lint at h
  split at h
  · cases h
    exact ⟨by kernel_rfl, rfl, .inl (run_slices_Equal_Lint _ _ hp.1 _ ⟨rfl, rfl⟩)⟩
  · cases h)

def c_unit_prepare : Contract := fun vs bs => match vs, bs with
  | [.agg [.dat (.list .str) b], .one (.ptr 0 0), .agg [.dat .int so, .dat .int sb, .dat .int sr], .agg [.dat .int mk, .dat .int mu, .dat .int mn, .dat .int ma, .dat .int mi, .dat (.list .int) mw, .dat .bool my]], [.box [.dat (.list .int) ws, .dat .int fu, .dat .bool up, .dat .int un, .dat .int ug]] => some (some (0 ≤ so ∧ so ≤ 1 ∧ b.length ≤ 140737488355328), .one (.dat (.list .message) (prepareU b ⟨⟨ws, fu⟩, up, un, ug⟩ ⟨so, sb, sr⟩ ⟨mk, mu, mn, ma, mi, mw, my⟩).2), [.box [.dat (.list .int) (prepareU b ⟨⟨ws, fu⟩, up, un, ug⟩ ⟨so, sb, sr⟩ ⟨mk, mu, mn, ma, mi, mw, my⟩).1.f.words, .dat .int (prepareU b ⟨⟨ws, fu⟩, up, un, ug⟩ ⟨so, sb, sr⟩ ⟨mk, mu, mn, ma, mi, mw, my⟩).1.f.fuel, .dat .bool (prepareU b ⟨⟨ws, fu⟩, up, un, ug⟩ ⟨so, sb, sr⟩ ⟨mk, mu, mn, ma, mi, mw, my⟩).1.up, .dat .int (prepareU b ⟨⟨ws, fu⟩, up, un, ug⟩ ⟨so, sb, sr⟩ ⟨mk, mu, mn, ma, mi, mw, my⟩).1.n, .dat .int (prepareU b ⟨⟨ws, fu⟩, up, un, ug⟩ ⟨so, sb, sr⟩ ⟨mk, mu, mn, ma, mi, mw, my⟩).1.got]])
  | _, _ => none
def Γ_unit_prepare : Ctx := [(n_unit_prepare_1, c_unit_prepare_1), (n_slot_Body, c_slot_Body), (n_meta_ImageName, c_meta_ImageName), (n_slot_Seal, c_slot_Seal), (n_unit_change, c_unit_change), (n_slot_Image, c_slot_Image), (n_unit_note, c_unit_note), (n_slices_Equal_Lint, c_slices_Equal_Lint)]
theorem ok_unit_prepare : Ok Tryd.prog tab Γ_unit_prepare := ((((((((ok_nil.consC hf_slices_Equal_Lint hB_slices_Equal_Lint sound_slices_Equal_Lint).consC hf_unit_note hB_unit_note sound_unit_note).consC hf_slot_Image hB_slot_Image sound_slot_Image).consC hf_unit_change hB_unit_change sound_unit_change).consC hf_slot_Seal hB_slot_Seal sound_slot_Seal).consC hf_meta_ImageName hB_meta_ImageName sound_meta_ImageName).consC hf_slot_Body hB_slot_Body sound_slot_Body).consC hf_unit_prepare_1 hB_unit_prepare_1 sound_unit_prepare_1)
theorem unit_prepare_vc (b : List (List UInt8)) (ws : List Int) (fu : Int) (up : Bool) (un : Int) (ug : Int) (so : Int) (sb : Int) (sr : Int) (mk : Int) (mu : Int) (mn : Int) (ma : Int) (mi : Int) (mw : List Int) (my : Bool) (rec : List It → St → Prop) (K : V → List Blk → Prop) v0 (hv0 : v0 = (voteM (⟨mk, mu, mn, ma, mi, mw, my⟩ : Vm.Message) true)) v1 (hv1 : v1 = (voteM (⟨mk, mu, mn, ma, mi, mw, my⟩ : Vm.Message) false)) v2 (hv2 : v2 = (bodyS (⟨ws, fu⟩ : Vm.Flash) (w64 ((1 : Int) - so)) ma)) v3 (hv3 : v3 = (imageName b (v2).fst)) v4 (hv4 : v4 = (sealS (⟨ws, fu⟩ : Vm.Flash) (w64 ((1 : Int) - so)) ma mi)) v5 (hv5 : v5 = (changeU (⟨(⟨ws, fu⟩ : Vm.Flash), up, un, ug⟩ : Vm.UnitD) (⟨((v4).fst).words, ((v4).fst).fuel⟩ : Vm.Flash) (v4).snd)) v6 (hv6 : v6 = (imageS (⟨(((v5).fst).f).words, (((v5).fst).f).fuel⟩ : Vm.Flash) (w64 ((1 : Int) - so)))) v7 (hv7 : v7 = (eqIs (v6).fst (v2).fst)) v8 (hv8 : v8 = (noteU (⟨(⟨(((v5).fst).f).words, (((v5).fst).f).fuel⟩ : Vm.Flash), ((v5).fst).up, (0 : Int), (0 : Int)⟩ : Vm.UnitD) ((2 : Int) :: (mn :: [])))) : segD Γ_unit_prepare tab fn_unit_prepare 1 K rec [.code (bodyOf fn_unit_prepare)] (initSt [.agg [.dat (Ty.list Ty.str) b], .one (.ptr 0 0), .agg [.dat Ty.int so, .dat Ty.int sb, .dat Ty.int sr], .agg [.dat Ty.int mk, .dat Ty.int mu, .dat Ty.int mn, .dat Ty.int ma, .dat Ty.int mi, .dat (Ty.list Ty.int) mw, .dat Ty.bool my]] [.box [.dat (Ty.list Ty.int) ws, .dat Ty.int fu, .dat Ty.bool up, .dat Ty.int un, .dat Ty.int ug]]) = (
    br (lei mn sb)
     (K (.one (.dat (Ty.list Ty.message) ((⟨(6 : Int), mu, mn, (0 : Int), (0 : Int), [], false⟩ : Vm.Message) :: []))) [.box [.dat (Ty.list Ty.int) ws, .dat Ty.int fu, .dat Ty.bool up, .dat Ty.int un, .dat Ty.int ug]])
     (br (eqi sr mn)
       (K (.one (.dat (Ty.list Ty.message) v0)) [.box [.dat (Ty.list Ty.int) ws, .dat Ty.int fu, .dat Ty.bool up, .dat Ty.int un, .dat Ty.int ug]])
       (br (lti (0 : Int) sr)
         (K (.one (.dat (Ty.list Ty.message) v1)) [.box [.dat (Ty.list Ty.int) ws, .dat Ty.int fu, .dat Ty.bool up, .dat Ty.int un, .dat Ty.int ug]])
         (br (!(eqi (v2).snd (0 : Int)))
           (K (.one (.dat (Ty.list Ty.message) v1)) [.box [.dat (Ty.list Ty.int) ws, .dat Ty.int fu, .dat Ty.bool up, .dat Ty.int un, .dat Ty.int ug]])
           (br (!(eqi un mn))
             (K (.one (.dat (Ty.list Ty.message) v1)) [.box [.dat (Ty.list Ty.int) ws, .dat Ty.int fu, .dat Ty.bool up, .dat Ty.int un, .dat Ty.int ug]])
             (br (!(eqi ug ma))
               (K (.one (.dat (Ty.list Ty.message) v1)) [.box [.dat (Ty.list Ty.int) ws, .dat Ty.int fu, .dat Ty.bool up, .dat Ty.int un, .dat Ty.int ug]])
               (((List.length b) ≤ 140737488355328) ∧
                (br (!(eqi (v3).snd (0 : Int)))
                 (K (.one (.dat (Ty.list Ty.message) v1)) [.box [.dat (Ty.list Ty.int) ws, .dat Ty.int fu, .dat Ty.bool up, .dat Ty.int un, .dat Ty.int ug]])
                 (br (eqi (v3).fst (0 : Int))
                   (K (.one (.dat (Ty.list Ty.message) v1)) [.box [.dat (Ty.list Ty.int) ws, .dat Ty.int fu, .dat Ty.bool up, .dat Ty.int un, .dat Ty.int ug]])
                   (br (!(eqi (v3).fst mi))
                     (K (.one (.dat (Ty.list Ty.message) v1)) [.box [.dat (Ty.list Ty.int) ws, .dat Ty.int fu, .dat Ty.bool up, .dat Ty.int un, .dat Ty.int ug]])
                     (br (!(v5).snd)
                       (K (.one (.dat (Ty.list Ty.message) [])) [.box [.dat (Ty.list Ty.int) (((v5).fst).f).words, .dat Ty.int (((v5).fst).f).fuel, .dat Ty.bool ((v5).fst).up, .dat Ty.int ((v5).fst).n, .dat Ty.int ((v5).fst).got]])
                       (br (!(eqi ((v6).snd).snd (0 : Int)))
                         (K (.one (.dat (Ty.list Ty.message) v1)) [.box [.dat (Ty.list Ty.int) (((v5).fst).f).words, .dat Ty.int (((v5).fst).f).fuel, .dat Ty.bool ((v5).fst).up, .dat Ty.int (0 : Int), .dat Ty.int (0 : Int)]])
                         (br (!(eqi ((v6).snd).fst mi))
                           (K (.one (.dat (Ty.list Ty.message) v1)) [.box [.dat (Ty.list Ty.int) (((v5).fst).f).words, .dat Ty.int (((v5).fst).f).fuel, .dat Ty.bool ((v5).fst).up, .dat Ty.int (0 : Int), .dat Ty.int (0 : Int)]])
                           (((List.length (v6).fst) ≤ 140737488355328) ∧
                            (br (!v7)
                             (K (.one (.dat (Ty.list Ty.message) v1)) [.box [.dat (Ty.list Ty.int) (((v5).fst).f).words, .dat Ty.int (((v5).fst).f).fuel, .dat Ty.bool ((v5).fst).up, .dat Ty.int (0 : Int), .dat Ty.int (0 : Int)]])
                             (((List.length ((2 : Int) :: (mn :: []))) ≤ 140737488355328) ∧
                              (br (!(v8).snd)
                               (K (.one (.dat (Ty.list Ty.message) [])) [.box [.dat (Ty.list Ty.int) (((v8).fst).f).words, .dat Ty.int (((v8).fst).f).fuel, .dat Ty.bool ((v8).fst).up, .dat Ty.int ((v8).fst).n, .dat Ty.int ((v8).fst).got]])
                               (K (.one (.dat (Ty.list Ty.message) v0)) [.box [.dat (Ty.list Ty.int) (((v8).fst).f).words, .dat Ty.int (((v8).fst).f).fuel, .dat Ty.bool ((v8).fst).up, .dat Ty.int ((v8).fst).n, .dat Ty.int ((v8).fst).got]])))))))))))))))))) := by subst hv8; subst hv7; subst hv6; subst hv5; subst hv4; subst hv3; subst hv2; subst hv1; subst hv0; kernel_rfl
theorem unit_prepare_w (b : List (List UInt8)) (ws : List Int) (fu : Int) (up : Bool) (un : Int) (ug : Int) (so : Int) (sb : Int) (sr : Int) (mk : Int) (mu : Int) (mn : Int) (ma : Int) (mi : Int) (mw : List Int) (my : Bool) (m : Nat) (K : V → List Blk → Prop) : goD Γ_unit_prepare tab fn_unit_prepare 1 K (m + 1) [.code (bodyOf fn_unit_prepare)] (initSt [.agg [.dat (Ty.list Ty.str) b], .one (.ptr 0 0), .agg [.dat Ty.int so, .dat Ty.int sb, .dat Ty.int sr], .agg [.dat Ty.int mk, .dat Ty.int mu, .dat Ty.int mn, .dat Ty.int ma, .dat Ty.int mi, .dat (Ty.list Ty.int) mw, .dat Ty.bool my]] [.box [.dat (Ty.list Ty.int) ws, .dat Ty.int fu, .dat Ty.bool up, .dat Ty.int un, .dat Ty.int ug]]) = segD Γ_unit_prepare tab fn_unit_prepare 1 K (goD Γ_unit_prepare tab fn_unit_prepare 1 K m) [.code (bodyOf fn_unit_prepare)] (initSt [.agg [.dat (Ty.list Ty.str) b], .one (.ptr 0 0), .agg [.dat Ty.int so, .dat Ty.int sb, .dat Ty.int sr], .agg [.dat Ty.int mk, .dat Ty.int mu, .dat Ty.int mn, .dat Ty.int ma, .dat Ty.int mi, .dat (Ty.list Ty.int) mw, .dat Ty.bool my]] [.box [.dat (Ty.list Ty.int) ws, .dat Ty.int fu, .dat Ty.bool up, .dat Ty.int un, .dat Ty.int ug]]) := rfl

set_option maxHeartbeats 4000000 in
theorem run_unit_prepare (b : List (List UInt8)) (ws : List Int) (fu : Int) (up : Bool) (un ug : Int)(so sb sr : Int)(mk mu mn ma mi : Int) (mw : List Int) (my : Bool) (hp : 0 ≤ so ∧ so ≤ 1 ∧ b.length ≤ 140737488355328) (K : V → List Blk → Prop) (hK : K (.one (.dat (.list .message) (prepareU b ⟨⟨ws, fu⟩, up, un, ug⟩ ⟨so, sb, sr⟩ ⟨mk, mu, mn, ma, mi, mw, my⟩).2)) [.box [.dat (.list .int) (prepareU b ⟨⟨ws, fu⟩, up, un, ug⟩ ⟨so, sb, sr⟩ ⟨mk, mu, mn, ma, mi, mw, my⟩).1.f.words, .dat .int (prepareU b ⟨⟨ws, fu⟩, up, un, ug⟩ ⟨so, sb, sr⟩ ⟨mk, mu, mn, ma, mi, mw, my⟩).1.f.fuel, .dat .bool (prepareU b ⟨⟨ws, fu⟩, up, un, ug⟩ ⟨so, sb, sr⟩ ⟨mk, mu, mn, ma, mi, mw, my⟩).1.up, .dat .int (prepareU b ⟨⟨ws, fu⟩, up, un, ug⟩ ⟨so, sb, sr⟩ ⟨mk, mu, mn, ma, mi, mw, my⟩).1.n, .dat .int (prepareU b ⟨⟨ws, fu⟩, up, un, ug⟩ ⟨so, sb, sr⟩ ⟨mk, mu, mn, ma, mi, mw, my⟩).1.got]]) : ∃ m, goD Γ_unit_prepare tab fn_unit_prepare 1 K m [.code (bodyOf fn_unit_prepare)] (initSt [.agg [.dat (.list .str) b], .one (.ptr 0 0), .agg [.dat .int so, .dat .int sb, .dat .int sr], .agg [.dat .int mk, .dat .int mu, .dat .int mn, .dat .int ma, .dat .int mi, .dat (.list .int) mw, .dat .bool my]] [.box [.dat (.list .int) ws, .dat .int fu, .dat .bool up, .dat .int un, .dat .int ug]]) := by
  refine ⟨1, ?_⟩
  rw [unit_prepare_w, unit_prepare_vc _ _ _ _ _ _ _ _ _ _ _ _ _ _ _ _ _ _ _ rfl _ rfl _ rfl _ rfl _ rfl _ rfl _ rfl _ rfl _ rfl]
  obtain ⟨p1, p2, p3⟩ := hp
  rw [w64_id (n := 1 - so) (by omega) (by omega)]
  unfold prepareU at hK
  simp only at hK
  refine br_split (fun h => ?_) (fun h => eq_s (fun h2 => ?_) (fun h2 => lt_s (fun h3 => ?_) (fun h3 => ?_)))
  · rw [lei_true] at h; rw [if_pos h] at hK; exact hK
  · rw [lei_false] at h; rw [if_neg (by omega), if_pos h2] at hK; exact hK
  · rw [lei_false] at h; rw [if_neg (by omega), if_neg h2, if_pos h3] at hK; exact hK
  rw [lei_false] at h
  rw [if_neg (by omega), if_neg h2, if_neg (by omega)] at hK
  refine ne_s (fun h4 => ?_) (fun h4 => ne_s (fun h5 => ?_) (fun h5 => ne_s (fun h6 => ?_) (fun h6 => ⟨p3, ne_s (fun h7 => ?_) (fun h7 => eq_s (fun h8 => ?_) (fun h8 => ne_s (fun h9 => ?_) (fun h9 => ?_)))⟩)))
  · rw [if_neg (fun g => h4 g.1)] at hK; exact hK
  · rw [if_neg (fun g => h5 g.2.1)] at hK; exact hK
  · rw [if_neg (fun g => h6 g.2.2)] at hK; exact hK
  all_goals rw [if_pos ⟨h4, h5, h6⟩] at hK
  · rw [if_neg (fun g => h7 g.1)] at hK; exact hK
  · rw [if_neg (fun g => g.2.1 h8)] at hK; exact hK
  · rw [if_neg (fun g => h9 g.2.2)] at hK; exact hK
  rw [if_pos ⟨h7, h8, h9⟩] at hK
  refine nt_s (fun g => ?_) (fun g => ?_)
  · rw [if_neg (by rw [show (sealC ⟨⟨ws, fu⟩, up, un, ug⟩ ⟨so, sb, sr⟩ ⟨mk, mu, mn, ma, mi, mw, my⟩).2 = false from g]; simp)] at hK; exact hK
  rw [if_pos (show (sealC ⟨⟨ws, fu⟩, up, un, ug⟩ ⟨so, sb, sr⟩ ⟨mk, mu, mn, ma, mi, mw, my⟩).2 = true from g)] at hK
  obtain ⟨v5, hv⟩ : ∃ v5, sealC ⟨⟨ws, fu⟩, up, un, ug⟩ ⟨so, sb, sr⟩ ⟨mk, mu, mn, ma, mi, mw, my⟩ = v5 := ⟨_, rfl⟩
  rw [hv] at hK
  have hv' : changeU ⟨⟨ws, fu⟩, up, un, ug⟩ (sealS ⟨ws, fu⟩ (1 - so) ma mi).1 (sealS ⟨ws, fu⟩ (1 - so) ma mi).2 = v5 := hv
  unfold sealedU at hK
  simp only at hK
  refine ne_s (fun k1 => ?_) (fun k1 => ne_s (fun k2 => ?_) (fun k2 => ⟨?_, nt_s (fun k3 => ?_) (fun k3 => ⟨by simp, nt_s (fun k4 => ?_) (fun k4 => ?_)⟩)⟩))
  · rw [hv'] at k1 ⊢; rw [if_neg (fun g => k1 g.1)] at hK; exact hK
  · rw [hv'] at k2 ⊢; rw [if_neg (fun g => k2 g.2.1)] at hK; exact hK
  · rw [hv'] at k1 ⊢
    exact imageS_sm k1
  · rw [hv'] at k3 ⊢
    rw [if_neg (fun g => by rw [show eqIs _ _ = true from decide_eq_true g.2.2] at k3; cases k3)] at hK; exact hK
  · rw [hv'] at k1 k2 k3 k4 ⊢
    rw [if_pos ⟨k1, k2, of_decide_eq_true k3⟩, if_neg (by rw [show (noteU _ _).2 = false from k4]; simp)] at hK; exact hK
  · rw [hv'] at k1 k2 k3 k4 ⊢
    rw [if_pos ⟨k1, k2, of_decide_eq_true k3⟩, if_pos k4] at hK; exact hK
theorem sound_unit_prepare : SoundC Tryd.prog tab n_unit_prepare c_unit_prepare := soundC_of ok_unit_prepare hf_unit_prepare hB_unit_prepare (by
  intro vs bs p v bs' h hp
  unfold c_unit_prepare at h
  split at h
  · cases h
    exact ⟨by kernel_rfl, rfl, .inl (run_unit_prepare _ _ _ _ _ _ _ _ _ _ _ _ _ _ _ _ hp.1 _ ⟨rfl, rfl⟩)⟩
  · cases h)

def c_unit_decided : Contract := fun vs bs => match vs, bs with
  | [.one (.ptr 0 0), .agg [.dat .int so, .dat .int sb, .dat .int sr], .agg [.dat .int mk, .dat .int mu, .dat .int mn, .dat .int ma, .dat .int mi, .dat (.list .int) mw, .dat .bool my]], [.box [.dat (.list .int) ws, .dat .int fu, .dat .bool up, .dat .int un, .dat .int ug]] => some (some (0 ≤ so ∧ so ≤ 1), .one (.dat (.list .message) (decidedU ⟨⟨ws, fu⟩, up, un, ug⟩ ⟨so, sb, sr⟩ ⟨mk, mu, mn, ma, mi, mw, my⟩).2), [.box [.dat (.list .int) (decidedU ⟨⟨ws, fu⟩, up, un, ug⟩ ⟨so, sb, sr⟩ ⟨mk, mu, mn, ma, mi, mw, my⟩).1.f.words, .dat .int (decidedU ⟨⟨ws, fu⟩, up, un, ug⟩ ⟨so, sb, sr⟩ ⟨mk, mu, mn, ma, mi, mw, my⟩).1.f.fuel, .dat .bool (decidedU ⟨⟨ws, fu⟩, up, un, ug⟩ ⟨so, sb, sr⟩ ⟨mk, mu, mn, ma, mi, mw, my⟩).1.up, .dat .int (decidedU ⟨⟨ws, fu⟩, up, un, ug⟩ ⟨so, sb, sr⟩ ⟨mk, mu, mn, ma, mi, mw, my⟩).1.n, .dat .int (decidedU ⟨⟨ws, fu⟩, up, un, ug⟩ ⟨so, sb, sr⟩ ⟨mk, mu, mn, ma, mi, mw, my⟩).1.got]])
  | _, _ => none
def Γ_unit_decided : Ctx := [(n_unit_note, c_unit_note)]
theorem ok_unit_decided : Ok Tryd.prog tab Γ_unit_decided := (ok_nil.consC hf_unit_note hB_unit_note sound_unit_note)
theorem unit_decided_vc (ws : List Int) (fu : Int) (up : Bool) (un : Int) (ug : Int) (so : Int) (sb : Int) (sr : Int) (mk : Int) (mu : Int) (mn : Int) (ma : Int) (mi : Int) (mw : List Int) (my : Bool) (rec : List It → St → Prop) (K : V → List Blk → Prop) v0 (hv0 : v0 = (noteU (⟨(⟨ws, fu⟩ : Vm.Flash), up, un, ug⟩ : Vm.UnitD) ((1 : Int) :: ((w64 ((1 : Int) - so)) :: (mn :: []))))) v1 (hv1 : v1 = (noteU (⟨(⟨ws, fu⟩ : Vm.Flash), up, un, ug⟩ : Vm.UnitD) ((3 : Int) :: (mn :: [])))) : segD Γ_unit_decided tab fn_unit_decided 1 K rec [.code (bodyOf fn_unit_decided)] (initSt [.one (.ptr 0 0), .agg [.dat Ty.int so, .dat Ty.int sb, .dat Ty.int sr], .agg [.dat Ty.int mk, .dat Ty.int mu, .dat Ty.int mn, .dat Ty.int ma, .dat Ty.int mi, .dat (Ty.list Ty.int) mw, .dat Ty.bool my]] [.box [.dat (Ty.list Ty.int) ws, .dat Ty.int fu, .dat Ty.bool up, .dat Ty.int un, .dat Ty.int ug]]) = (
    br (eqi mk (4 : Int))
     (br (eqi sb mn)
       (K (.one (.dat (Ty.list Ty.message) ((⟨(6 : Int), mu, mn, (0 : Int), (0 : Int), [], false⟩ : Vm.Message) :: []))) [.box [.dat (Ty.list Ty.int) ws, .dat Ty.int fu, .dat Ty.bool up, .dat Ty.int un, .dat Ty.int ug]])
       (br (!(eqi sr mn))
         (K (.one (.dat (Ty.list Ty.message) [])) [.box [.dat (Ty.list Ty.int) ws, .dat Ty.int fu, .dat Ty.bool up, .dat Ty.int un, .dat Ty.int ug]])
         (((List.length ((1 : Int) :: ((w64 ((1 : Int) - so)) :: (mn :: [])))) ≤ 140737488355328) ∧
          (br (!(v0).snd)
           (K (.one (.dat (Ty.list Ty.message) [])) [.box [.dat (Ty.list Ty.int) (((v0).fst).f).words, .dat Ty.int (((v0).fst).f).fuel, .dat Ty.bool ((v0).fst).up, .dat Ty.int ((v0).fst).n, .dat Ty.int ((v0).fst).got]])
           (K (.one (.dat (Ty.list Ty.message) ((⟨(6 : Int), mu, mn, (0 : Int), (0 : Int), [], false⟩ : Vm.Message) :: []))) [.box [.dat (Ty.list Ty.int) (((v0).fst).f).words, .dat Ty.int (((v0).fst).f).fuel, .dat Ty.bool ((v0).fst).up, .dat Ty.int ((v0).fst).n, .dat Ty.int ((v0).fst).got]])))))
     (br (lei mn sb)
       (K (.one (.dat (Ty.list Ty.message) [])) [.box [.dat (Ty.list Ty.int) ws, .dat Ty.int fu, .dat Ty.bool up, .dat Ty.int un, .dat Ty.int ug]])
       (br (eqi sr mn)
         (((List.length ((3 : Int) :: (mn :: []))) ≤ 140737488355328) ∧
          (br (!(v1).snd)
           (K (.one (.dat (Ty.list Ty.message) [])) [.box [.dat (Ty.list Ty.int) (((v1).fst).f).words, .dat Ty.int (((v1).fst).f).fuel, .dat Ty.bool ((v1).fst).up, .dat Ty.int ((v1).fst).n, .dat Ty.int ((v1).fst).got]])
           (br (eqi ((v1).fst).n mn)
             (K (.one (.dat (Ty.list Ty.message) ((⟨(6 : Int), mu, mn, (0 : Int), (0 : Int), [], false⟩ : Vm.Message) :: []))) [.box [.dat (Ty.list Ty.int) (((v1).fst).f).words, .dat Ty.int (((v1).fst).f).fuel, .dat Ty.bool ((v1).fst).up, .dat Ty.int (0 : Int), .dat Ty.int (0 : Int)]])
             (K (.one (.dat (Ty.list Ty.message) ((⟨(6 : Int), mu, mn, (0 : Int), (0 : Int), [], false⟩ : Vm.Message) :: []))) [.box [.dat (Ty.list Ty.int) (((v1).fst).f).words, .dat Ty.int (((v1).fst).f).fuel, .dat Ty.bool ((v1).fst).up, .dat Ty.int ((v1).fst).n, .dat Ty.int ((v1).fst).got]]))))
         (br (eqi un mn)
           (K (.one (.dat (Ty.list Ty.message) ((⟨(6 : Int), mu, mn, (0 : Int), (0 : Int), [], false⟩ : Vm.Message) :: []))) [.box [.dat (Ty.list Ty.int) ws, .dat Ty.int fu, .dat Ty.bool up, .dat Ty.int (0 : Int), .dat Ty.int (0 : Int)]])
           (K (.one (.dat (Ty.list Ty.message) ((⟨(6 : Int), mu, mn, (0 : Int), (0 : Int), [], false⟩ : Vm.Message) :: []))) [.box [.dat (Ty.list Ty.int) ws, .dat Ty.int fu, .dat Ty.bool up, .dat Ty.int un, .dat Ty.int ug]]))))) := by subst hv1; subst hv0; kernel_rfl
theorem unit_decided_w (ws : List Int) (fu : Int) (up : Bool) (un : Int) (ug : Int) (so : Int) (sb : Int) (sr : Int) (mk : Int) (mu : Int) (mn : Int) (ma : Int) (mi : Int) (mw : List Int) (my : Bool) (m : Nat) (K : V → List Blk → Prop) : goD Γ_unit_decided tab fn_unit_decided 1 K (m + 1) [.code (bodyOf fn_unit_decided)] (initSt [.one (.ptr 0 0), .agg [.dat Ty.int so, .dat Ty.int sb, .dat Ty.int sr], .agg [.dat Ty.int mk, .dat Ty.int mu, .dat Ty.int mn, .dat Ty.int ma, .dat Ty.int mi, .dat (Ty.list Ty.int) mw, .dat Ty.bool my]] [.box [.dat (Ty.list Ty.int) ws, .dat Ty.int fu, .dat Ty.bool up, .dat Ty.int un, .dat Ty.int ug]]) = segD Γ_unit_decided tab fn_unit_decided 1 K (goD Γ_unit_decided tab fn_unit_decided 1 K m) [.code (bodyOf fn_unit_decided)] (initSt [.one (.ptr 0 0), .agg [.dat Ty.int so, .dat Ty.int sb, .dat Ty.int sr], .agg [.dat Ty.int mk, .dat Ty.int mu, .dat Ty.int mn, .dat Ty.int ma, .dat Ty.int mi, .dat (Ty.list Ty.int) mw, .dat Ty.bool my]] [.box [.dat (Ty.list Ty.int) ws, .dat Ty.int fu, .dat Ty.bool up, .dat Ty.int un, .dat Ty.int ug]]) := rfl

set_option maxHeartbeats 4000000 in
theorem run_unit_decided (ws : List Int) (fu : Int) (up : Bool) (un ug : Int)(so sb sr : Int)(mk mu mn ma mi : Int) (mw : List Int) (my : Bool) (hp : 0 ≤ so ∧ so ≤ 1) (K : V → List Blk → Prop) (hK : K (.one (.dat (.list .message) (decidedU ⟨⟨ws, fu⟩, up, un, ug⟩ ⟨so, sb, sr⟩ ⟨mk, mu, mn, ma, mi, mw, my⟩).2)) [.box [.dat (.list .int) (decidedU ⟨⟨ws, fu⟩, up, un, ug⟩ ⟨so, sb, sr⟩ ⟨mk, mu, mn, ma, mi, mw, my⟩).1.f.words, .dat .int (decidedU ⟨⟨ws, fu⟩, up, un, ug⟩ ⟨so, sb, sr⟩ ⟨mk, mu, mn, ma, mi, mw, my⟩).1.f.fuel, .dat .bool (decidedU ⟨⟨ws, fu⟩, up, un, ug⟩ ⟨so, sb, sr⟩ ⟨mk, mu, mn, ma, mi, mw, my⟩).1.up, .dat .int (decidedU ⟨⟨ws, fu⟩, up, un, ug⟩ ⟨so, sb, sr⟩ ⟨mk, mu, mn, ma, mi, mw, my⟩).1.n, .dat .int (decidedU ⟨⟨ws, fu⟩, up, un, ug⟩ ⟨so, sb, sr⟩ ⟨mk, mu, mn, ma, mi, mw, my⟩).1.got]]) : ∃ m, goD Γ_unit_decided tab fn_unit_decided 1 K m [.code (bodyOf fn_unit_decided)] (initSt [.one (.ptr 0 0), .agg [.dat .int so, .dat .int sb, .dat .int sr], .agg [.dat .int mk, .dat .int mu, .dat .int mn, .dat .int ma, .dat .int mi, .dat (.list .int) mw, .dat .bool my]] [.box [.dat (.list .int) ws, .dat .int fu, .dat .bool up, .dat .int un, .dat .int ug]]) := by
  refine ⟨1, ?_⟩
  rw [unit_decided_w, unit_decided_vc _ _ _ _ _ _ _ _ _ _ _ _ _ _ _ _ _ _ rfl _ rfl]
  obtain ⟨p1, p2⟩ := hp
  rw [w64_id (n := 1 - so) (by omega) (by omega)]
  unfold decidedU at hK
  simp only at hK
  refine eq_s (fun h => ?_) (fun h => ?_)
  · rw [if_pos h] at hK
    refine eq_s (fun h2 => ?_) (fun h2 => ne_s (fun h3 => ?_) (fun h3 => ⟨by simp, nt_s (fun h4 => ?_) (fun h4 => ?_)⟩))
    · rw [if_pos h2] at hK; exact hK
    · rw [if_neg h2, if_neg h3] at hK; exact hK
    · rw [if_neg h2, if_pos h3, if_neg (by rw [h4]; simp)] at hK; exact hK
    · rw [if_neg h2, if_pos h3, if_pos h4] at hK; exact hK
  · rw [if_neg h] at hK
    refine br_split (fun h2 => ?_) (fun h2 => eq_s (fun h3 => ⟨by simp, nt_s (fun h4 => ?_) (fun h4 => ?_)⟩) (fun h3 => ?_))
    · rw [lei_true] at h2; rw [if_pos h2] at hK; exact hK
    · rw [lei_false] at h2; rw [if_neg (by omega), if_pos h3, if_neg (by rw [h4]; simp)] at hK; exact hK
    · rw [lei_false] at h2; rw [if_neg (by omega), if_pos h3, if_pos h4] at hK
      unfold goneU at hK
      refine eq_s (fun h5 => ?_) (fun h5 => ?_)
      · rw [if_pos h5] at hK; exact hK
      · rw [if_neg h5] at hK; exact hK
    · rw [lei_false] at h2; rw [if_neg (by omega), if_neg h3] at hK
      unfold goneU at hK
      refine eq_s (fun h5 => ?_) (fun h5 => ?_)
      · rw [if_pos h5] at hK; exact hK
      · rw [if_neg h5] at hK; exact hK
theorem sound_unit_decided : SoundC Tryd.prog tab n_unit_decided c_unit_decided := soundC_of ok_unit_decided hf_unit_decided hB_unit_decided (by
  intro vs bs p v bs' h hp
  unfold c_unit_decided at h
  split at h
  · cases h
    exact ⟨by kernel_rfl, rfl, .inl (run_unit_decided _ _ _ _ _ _ _ _ _ _ _ _ _ _ _ hp.1 _ ⟨rfl, rfl⟩)⟩
  · cases h)

def c_unit_Hear : Contract := fun vs bs => match vs, bs with
  | [.agg [.dat (.list .str) b], .agg [.dat (.list .int) ws, .dat .int fu, .dat .bool up, .dat .int un, .dat .int ug], .agg [.dat .int mk, .dat .int mu, .dat .int mn, .dat .int ma, .dat .int mi, .dat (.list .int) mw, .dat .bool my]], [] => some (some (b.length ≤ 140737488355328), .tup [.agg [.dat (.list .int) (hearU b ⟨⟨ws, fu⟩, up, un, ug⟩ ⟨mk, mu, mn, ma, mi, mw, my⟩).1.1.f.words, .dat .int (hearU b ⟨⟨ws, fu⟩, up, un, ug⟩ ⟨mk, mu, mn, ma, mi, mw, my⟩).1.1.f.fuel, .dat .bool (hearU b ⟨⟨ws, fu⟩, up, un, ug⟩ ⟨mk, mu, mn, ma, mi, mw, my⟩).1.1.up, .dat .int (hearU b ⟨⟨ws, fu⟩, up, un, ug⟩ ⟨mk, mu, mn, ma, mi, mw, my⟩).1.1.n, .dat .int (hearU b ⟨⟨ws, fu⟩, up, un, ug⟩ ⟨mk, mu, mn, ma, mi, mw, my⟩).1.1.got], .one (.dat (.list .message) (hearU b ⟨⟨ws, fu⟩, up, un, ug⟩ ⟨mk, mu, mn, ma, mi, mw, my⟩).1.2), .one (.dat .int (hearU b ⟨⟨ws, fu⟩, up, un, ug⟩ ⟨mk, mu, mn, ma, mi, mw, my⟩).2)], [])
  | _, _ => none
def Γ_unit_Hear : Ctx := [(n_meta_CheckBook, c_meta_CheckBook), (n_unit_Check, c_unit_Check), (n_unit_CheckMessage, c_unit_CheckMessage), (n_unit_Copy, c_unit_Copy), (n_unit_of, c_unit_of), (n_unit_piece, c_unit_piece), (n_unit_prepare, c_unit_prepare), (n_unit_decided, c_unit_decided)]
theorem ok_unit_Hear : Ok Tryd.prog tab Γ_unit_Hear := ((((((((ok_nil.consC hf_unit_decided hB_unit_decided sound_unit_decided).consC hf_unit_prepare hB_unit_prepare sound_unit_prepare).consC hf_unit_piece hB_unit_piece sound_unit_piece).consC hf_unit_of hB_unit_of sound_unit_of).consC hf_unit_Copy hB_unit_Copy sound_unit_Copy).consC hf_unit_CheckMessage hB_unit_CheckMessage sound_unit_CheckMessage).consC hf_unit_Check hB_unit_Check sound_unit_Check).consC hf_meta_CheckBook hB_meta_CheckBook sound_meta_CheckBook)
theorem unit_Hear_vc (b : List (List UInt8)) (ws : List Int) (fu : Int) (up : Bool) (un : Int) (ug : Int) (mk : Int) (mu : Int) (mn : Int) (ma : Int) (mi : Int) (mw : List Int) (my : Bool) (rec : List It → St → Prop) (K : V → List Blk → Prop) v0 (hv0 : v0 = (checkBook b)) v1 (hv1 : v1 = (checkU (⟨(⟨ws, fu⟩ : Vm.Flash), up, un, ug⟩ : Vm.UnitD))) v2 (hv2 : v2 = (checkM (⟨mk, mu, mn, ma, mi, mw, my⟩ : Vm.Message))) v3 (hv3 : v3 = (ofU (⟨ws, fu⟩ : Vm.Flash))) v4 (hv4 : v4 = (pieceU (⟨(⟨ws, fu⟩ : Vm.Flash), up, un, ug⟩ : Vm.UnitD) (⟨(v3).slot, (v3).by_, (v3).ready⟩ : Vm.UState) (⟨mk, mu, mn, ma, mi, mw, my⟩ : Vm.Message))) v5 (hv5 : v5 = (prepareU b (⟨(⟨ws, fu⟩ : Vm.Flash), up, un, ug⟩ : Vm.UnitD) (⟨(v3).slot, (v3).by_, (v3).ready⟩ : Vm.UState) (⟨mk, mu, mn, ma, mi, mw, my⟩ : Vm.Message))) v6 (hv6 : v6 = (decidedU (⟨(⟨ws, fu⟩ : Vm.Flash), up, un, ug⟩ : Vm.UnitD) (⟨(v3).slot, (v3).by_, (v3).ready⟩ : Vm.UState) (⟨mk, mu, mn, ma, mi, mw, my⟩ : Vm.Message))) : segD Γ_unit_Hear tab fn_unit_Hear 0 K rec [.code (bodyOf fn_unit_Hear)] (initSt [.agg [.dat (Ty.list Ty.str) b], .agg [.dat (Ty.list Ty.int) ws, .dat Ty.int fu, .dat Ty.bool up, .dat Ty.int un, .dat Ty.int ug], .agg [.dat Ty.int mk, .dat Ty.int mu, .dat Ty.int mn, .dat Ty.int ma, .dat Ty.int mi, .dat (Ty.list Ty.int) mw, .dat Ty.bool my]] []) = (
    br (!(eqi v0 (0 : Int)))
     (K (.tup [.agg [.dat (Ty.list Ty.int) [], .dat Ty.int (0 : Int), .dat Ty.bool false, .dat Ty.int (0 : Int), .dat Ty.int (0 : Int)], .one (.dat (Ty.list Ty.message) []), .one (.dat Ty.int v0)]) [])
     (br (!(eqi v1 (0 : Int)))
       (K (.tup [.agg [.dat (Ty.list Ty.int) [], .dat Ty.int (0 : Int), .dat Ty.bool false, .dat Ty.int (0 : Int), .dat Ty.int (0 : Int)], .one (.dat (Ty.list Ty.message) []), .one (.dat Ty.int v1)]) [])
       (br (!(eqi v2 (0 : Int)))
         (K (.tup [.agg [.dat (Ty.list Ty.int) [], .dat Ty.int (0 : Int), .dat Ty.bool false, .dat Ty.int (0 : Int), .dat Ty.int (0 : Int)], .one (.dat (Ty.list Ty.message) []), .one (.dat Ty.int v2)]) [])
         ((((len ws) * 8) ≤ 140737488355328) ∧
          (br (!up)
           (K (.tup [.agg [.dat (Ty.list Ty.int) ws, .dat Ty.int fu, .dat Ty.bool up, .dat Ty.int un, .dat Ty.int ug], .one (.dat (Ty.list Ty.message) []), .one (.dat Ty.int (0 : Int))]) [])
           (br (eqi mk (1 : Int))
             ((((0 : Int) ≤ (v3).slot) ∧ (((v3).slot ≤ (1 : Int)) ∧ (((0 : Int) ≤ ma) ∧ ((ma ≤ (40 : Int)) ∧ ((len mw) ≤ 8))))) ∧
              (K (.tup [.agg [.dat (Ty.list Ty.int) ((v4).f).words, .dat Ty.int ((v4).f).fuel, .dat Ty.bool (v4).up, .dat Ty.int (v4).n, .dat Ty.int (v4).got], .one (.dat (Ty.list Ty.message) []), .one (.dat Ty.int (0 : Int))]) []))
             (br (eqi mk (2 : Int))
               ((((0 : Int) ≤ (v3).slot) ∧ (((v3).slot ≤ (1 : Int)) ∧ ((List.length b) ≤ 140737488355328))) ∧
                (K (.tup [.agg [.dat (Ty.list Ty.int) (((v5).fst).f).words, .dat Ty.int (((v5).fst).f).fuel, .dat Ty.bool ((v5).fst).up, .dat Ty.int ((v5).fst).n, .dat Ty.int ((v5).fst).got], .one (.dat (Ty.list Ty.message) (v5).snd), .one (.dat Ty.int (0 : Int))]) []))
               (br (eqi mk (4 : Int))
                 (br (eqi mk (4 : Int))
                   ((((0 : Int) ≤ (v3).slot) ∧ ((v3).slot ≤ (1 : Int))) ∧
                    (K (.tup [.agg [.dat (Ty.list Ty.int) (((v6).fst).f).words, .dat Ty.int (((v6).fst).f).fuel, .dat Ty.bool ((v6).fst).up, .dat Ty.int ((v6).fst).n, .dat Ty.int ((v6).fst).got], .one (.dat (Ty.list Ty.message) (v6).snd), .one (.dat Ty.int (0 : Int))]) []))
                   (K (.tup [.agg [.dat (Ty.list Ty.int) ws, .dat Ty.int fu, .dat Ty.bool up, .dat Ty.int un, .dat Ty.int ug], .one (.dat (Ty.list Ty.message) []), .one (.dat Ty.int (0 : Int))]) []))
                 (br (eqi mk (5 : Int))
                   ((((0 : Int) ≤ (v3).slot) ∧ ((v3).slot ≤ (1 : Int))) ∧
                    (K (.tup [.agg [.dat (Ty.list Ty.int) (((v6).fst).f).words, .dat Ty.int (((v6).fst).f).fuel, .dat Ty.bool ((v6).fst).up, .dat Ty.int ((v6).fst).n, .dat Ty.int ((v6).fst).got], .one (.dat (Ty.list Ty.message) (v6).snd), .one (.dat Ty.int (0 : Int))]) []))
                   (K (.tup [.agg [.dat (Ty.list Ty.int) ws, .dat Ty.int fu, .dat Ty.bool up, .dat Ty.int un, .dat Ty.int ug], .one (.dat (Ty.list Ty.message) []), .one (.dat Ty.int (0 : Int))]) [])))))))))) := by subst hv6; subst hv5; subst hv4; subst hv3; subst hv2; subst hv1; subst hv0; kernel_rfl
theorem unit_Hear_w (b : List (List UInt8)) (ws : List Int) (fu : Int) (up : Bool) (un : Int) (ug : Int) (mk : Int) (mu : Int) (mn : Int) (ma : Int) (mi : Int) (mw : List Int) (my : Bool) (m : Nat) (K : V → List Blk → Prop) : goD Γ_unit_Hear tab fn_unit_Hear 0 K (m + 1) [.code (bodyOf fn_unit_Hear)] (initSt [.agg [.dat (Ty.list Ty.str) b], .agg [.dat (Ty.list Ty.int) ws, .dat Ty.int fu, .dat Ty.bool up, .dat Ty.int un, .dat Ty.int ug], .agg [.dat Ty.int mk, .dat Ty.int mu, .dat Ty.int mn, .dat Ty.int ma, .dat Ty.int mi, .dat (Ty.list Ty.int) mw, .dat Ty.bool my]] []) = segD Γ_unit_Hear tab fn_unit_Hear 0 K (goD Γ_unit_Hear tab fn_unit_Hear 0 K m) [.code (bodyOf fn_unit_Hear)] (initSt [.agg [.dat (Ty.list Ty.str) b], .agg [.dat (Ty.list Ty.int) ws, .dat Ty.int fu, .dat Ty.bool up, .dat Ty.int un, .dat Ty.int ug], .agg [.dat Ty.int mk, .dat Ty.int mu, .dat Ty.int mn, .dat Ty.int ma, .dat Ty.int mi, .dat (Ty.list Ty.int) mw, .dat Ty.bool my]] []) := rfl

set_option maxHeartbeats 4000000 in
theorem run_unit_Hear (b : List (List UInt8)) (ws : List Int) (fu : Int) (up : Bool) (un ug : Int)(mk mu mn ma mi : Int) (mw : List Int) (my : Bool) (hp : b.length ≤ 140737488355328) (K : V → List Blk → Prop) (hK : K (.tup [.agg [.dat (.list .int) (hearU b ⟨⟨ws, fu⟩, up, un, ug⟩ ⟨mk, mu, mn, ma, mi, mw, my⟩).1.1.f.words, .dat .int (hearU b ⟨⟨ws, fu⟩, up, un, ug⟩ ⟨mk, mu, mn, ma, mi, mw, my⟩).1.1.f.fuel, .dat .bool (hearU b ⟨⟨ws, fu⟩, up, un, ug⟩ ⟨mk, mu, mn, ma, mi, mw, my⟩).1.1.up, .dat .int (hearU b ⟨⟨ws, fu⟩, up, un, ug⟩ ⟨mk, mu, mn, ma, mi, mw, my⟩).1.1.n, .dat .int (hearU b ⟨⟨ws, fu⟩, up, un, ug⟩ ⟨mk, mu, mn, ma, mi, mw, my⟩).1.1.got], .one (.dat (.list .message) (hearU b ⟨⟨ws, fu⟩, up, un, ug⟩ ⟨mk, mu, mn, ma, mi, mw, my⟩).1.2), .one (.dat .int (hearU b ⟨⟨ws, fu⟩, up, un, ug⟩ ⟨mk, mu, mn, ma, mi, mw, my⟩).2)]) []) : ∃ m, goD Γ_unit_Hear tab fn_unit_Hear 0 K m [.code (bodyOf fn_unit_Hear)] (initSt [.agg [.dat (.list .str) b], .agg [.dat (.list .int) ws, .dat .int fu, .dat .bool up, .dat .int un, .dat .int ug], .agg [.dat .int mk, .dat .int mu, .dat .int mn, .dat .int ma, .dat .int mi, .dat (.list .int) mw, .dat .bool my]] []) := by
  refine ⟨1, ?_⟩
  rw [unit_Hear_w, unit_Hear_vc _ _ _ _ _ _ _ _ _ _ _ _ _ _ _ _ rfl _ rfl _ rfl _ rfl _ rfl _ rfl _ rfl]
  have bad : ∀ e : Int, e ≠ 0 → hearE b ⟨⟨ws, fu⟩, up, un, ug⟩ ⟨mk, mu, mn, ma, mi, mw, my⟩ = e → K (.tup [.agg [.dat (.list .int) [], .dat .int 0, .dat .bool false, .dat .int 0, .dat .int 0], .one (.dat (.list .message) []), .one (.dat .int e)]) [] := fun e he h => by
    rw [show hearU b ⟨⟨ws, fu⟩, up, un, ug⟩ ⟨mk, mu, mn, ma, mi, mw, my⟩ = ((noUnit, []), e) from by unfold hearU; rw [if_neg (by rw [h]; exact he), h]] at hK
    exact hK
  refine ne_s (fun h => bad _ h (if_neg h)) (fun h => ?_)
  have E1 : hearE b ⟨⟨ws, fu⟩, up, un, ug⟩ ⟨mk, mu, mn, ma, mi, mw, my⟩ = _ := if_pos h
  refine ne_s (fun h2 => bad _ h2 (E1.trans (if_neg h2))) (fun h2 => ?_)
  have E2 := E1.trans (if_pos h2)
  refine ne_s (fun h3 => bad _ h3 E2) (fun h3 => ?_)
  rw [show hearU b ⟨⟨ws, fu⟩, up, un, ug⟩ ⟨mk, mu, mn, ma, mi, mw, my⟩ = (hearsU b ⟨⟨ws, fu⟩, up, un, ug⟩ ⟨mk, mu, mn, ma, mi, mw, my⟩, 0) from if_pos (E2.trans h3)] at hK
  obtain ⟨_, c2, _⟩ := checkU_ok h2
  obtain ⟨_, _, _, _, _, _, m1, m2, _, _, m3, _⟩ := checkM_ok h3
  obtain ⟨⟨s1, s2⟩, _⟩ := ofU_ok ⟨ws, fu⟩
  simp only at c2 m1 m2 m3
  unfold hearsU at hK
  simp only at hK
  refine ⟨by simp only [len]; omega, nt_s (fun h4 => ?_) (fun h4 => ?_)⟩
  · rw [if_neg (by rw [h4]; simp)] at hK; exact hK
  rw [if_pos h4] at hK
  refine eq_s (fun h5 => ⟨⟨s1, s2, m1, m2, m3⟩, ?_⟩) (fun h5 => eq_s (fun h6 => ⟨⟨s1, s2, hp⟩, ?_⟩) (fun h6 => eq_s (fun h7 => eq_t h7 ⟨⟨s1, s2⟩, ?_⟩) (fun h7 => eq_s (fun h8 => ⟨⟨s1, s2⟩, ?_⟩) (fun h8 => ?_))))
  · rw [if_pos h5] at hK; exact hK
  · rw [if_neg h5, if_pos h6] at hK; exact hK
  · rw [if_neg h5, if_neg h6, if_pos (.inl h7)] at hK; exact hK
  · rw [if_neg h5, if_neg h6, if_pos (.inr h8)] at hK; exact hK
  · rw [if_neg h5, if_neg h6, if_neg (by omega)] at hK; exact hK
theorem sound_unit_Hear : SoundC Tryd.prog tab n_unit_Hear c_unit_Hear := soundC_of ok_unit_Hear hf_unit_Hear hB_unit_Hear (by
  intro vs bs p v bs' h hp
  unfold c_unit_Hear at h
  split at h
  · cases h
    exact ⟨by kernel_rfl, rfl, .inl (run_unit_Hear _ _ _ _ _ _ _ _ _ _ _ _ _ hp.1 _ ⟨rfl, rfl⟩)⟩
  · cases h)

def c_law_simple : Contract := fun vs bs => match vs, bs with
  | [], [] => some (none, .tup [.agg [.dat (.list .str) simpleB], .one (.dat (.list .signed) simpleL), .agg [.dat .int 1, .dat (.list .int) [3], .dat .int 1, .dat .int 0], .agg [.dat (.list .root) [], .dat (.list (.list .int)) [], .dat .int 1, .dat .int 5, .dat (.list .target) [⟨0, 2, 2⟩], .dat (.list .int) [3], .dat (.list (.list .int)) [[8, 8]]]], [])
  | _, _ => none
def Γ_law_simple : Ctx := []
theorem ok_law_simple : Ok Tryd.prog tab Γ_law_simple := ok_nil
theorem law_simple_vc (rec : List It → St → Prop) (K : V → List Blk → Prop) : segD Γ_law_simple tab fn_law_simple 0 K rec [.code (bodyOf fn_law_simple)] (initSt [] []) = (
    K (.tup [.agg [.dat (Ty.list Ty.str) (((105 : UInt8) :: ((109 : UInt8) :: ((97 : UInt8) :: ((103 : UInt8) :: ((101 : UInt8) :: ((32 : UInt8) :: ((55 : UInt8) :: []))))))) :: (((105 : UInt8) :: ((109 : UInt8) :: ((97 : UInt8) :: ((103 : UInt8) :: ((101 : UInt8) :: ((32 : UInt8) :: ((56 : UInt8) :: ((32 : UInt8) :: ((56 : UInt8) :: []))))))))) :: (((114 : UInt8) :: ((101 : UInt8) :: ((108 : UInt8) :: ((101 : UInt8) :: ((97 : UInt8) :: ((115 : UInt8) :: ((101 : UInt8) :: ((32 : UInt8) :: ((49 : UInt8) :: ((32 : UInt8) :: ((117 : UInt8) :: ((110 : UInt8) :: ((116 : UInt8) :: ((105 : UInt8) :: ((108 : UInt8) :: ((32 : UInt8) :: ((53 : UInt8) :: ((59 : UInt8) :: ((32 : UInt8) :: ((48 : UInt8) :: ((32 : UInt8) :: ((50 : UInt8) :: ((32 : UInt8) :: ((50 : UInt8) :: [])))))))))))))))))))))))) :: (((114 : UInt8) :: ((111 : UInt8) :: ((111 : UInt8) :: ((116 : UInt8) :: ((32 : UInt8) :: ((50 : UInt8) :: ((32 : UInt8) :: ((49 : UInt8) :: ((32 : UInt8) :: ((111 : UInt8) :: ((102 : UInt8) :: ((32 : UInt8) :: ((52 : UInt8) :: []))))))))))))) :: []))))], .one (.dat (Ty.list Ty.signed) ((⟨(3 : Int), (3 : Int)⟩ : Vm.Signed) :: ((⟨(3 : Int), (4 : Int)⟩ : Vm.Signed) :: ((⟨(4 : Int), (4 : Int)⟩ : Vm.Signed) :: ((⟨(4 : Int), (3 : Int)⟩ : Vm.Signed) :: []))))), .agg [.dat Ty.int (1 : Int), .dat (Ty.list Ty.int) ((3 : Int) :: []), .dat Ty.int (1 : Int), .dat Ty.int (0 : Int)], .agg [.dat (Ty.list Ty.root) [], .dat (Ty.list (Ty.list Ty.int)) [], .dat Ty.int (1 : Int), .dat Ty.int (5 : Int), .dat (Ty.list Ty.target) ((⟨(0 : Int), (2 : Int), (2 : Int)⟩ : Vm.Target) :: []), .dat (Ty.list Ty.int) ((3 : Int) :: []), .dat (Ty.list (Ty.list Ty.int)) (((8 : Int) :: ((8 : Int) :: [])) :: [])]]) []) := by kernel_rfl
theorem law_simple_w (m : Nat) (K : V → List Blk → Prop) : goD Γ_law_simple tab fn_law_simple 0 K (m + 1) [.code (bodyOf fn_law_simple)] (initSt [] []) = segD Γ_law_simple tab fn_law_simple 0 K (goD Γ_law_simple tab fn_law_simple 0 K m) [.code (bodyOf fn_law_simple)] (initSt [] []) := rfl

set_option maxHeartbeats 4000000 in
theorem run_law_simple  (K : V → List Blk → Prop) (hK : K (.tup [.agg [.dat (.list .str) simpleB], .one (.dat (.list .signed) simpleL), .agg [.dat .int 1, .dat (.list .int) [3], .dat .int 1, .dat .int 0], .agg [.dat (.list .root) [], .dat (.list (.list .int)) [], .dat .int 1, .dat .int 5, .dat (.list .target) [⟨0, 2, 2⟩], .dat (.list .int) [3], .dat (.list (.list .int)) [[8, 8]]]]) []) : ∃ m, goD Γ_law_simple tab fn_law_simple 0 K m [.code (bodyOf fn_law_simple)] (initSt [] []) := by
  refine ⟨1, ?_⟩
  rw [law_simple_w, law_simple_vc _ _]
  exact hK
theorem sound_law_simple : SoundC Tryd.prog tab n_law_simple c_law_simple := soundC_of ok_law_simple hf_law_simple hB_law_simple (by
  intro vs bs p v bs' h hp
  unfold c_law_simple at h
  split at h
  · cases h
    exact ⟨by kernel_rfl, rfl, .inl (run_law_simple  _ ⟨rfl, rfl⟩)⟩
  · cases h)

def c_slices_Repeat_Lint : Contract := fun vs bs => match vs, bs with
  | [.one (.dat (.list .int) [x]), .one (.dat .int n)], [] => some (some (0 ≤ n ∧ n ≤ 1000000), .one (.dat (.list .int) (zeros n.toNat x)), [])
  | _, _ => none
def Γ_slices_Repeat_Lint : Ctx := [(n_math_bits_Mul, c_math_bits_Mul)]
theorem ok_slices_Repeat_Lint : Ok Tryd.prog tab Γ_slices_Repeat_Lint := (ok_nil.consC hf_math_bits_Mul hB_math_bits_Mul sound_math_bits_Mul)
noncomputable def slices_Repeat_Lint_L0 : List It := [.inLoop [8, 7, 4] (Code.sub (bodyOf fn_slices_Repeat_Lint) [1, 1, 1, 1, 1, 1, 0, 0, 0]), .inBlock 0, .code (Code.sub (bodyOf fn_slices_Repeat_Lint) [1, 1, 1, 1, 1, 1, 1])]
def slices_Repeat_Lint_S0 (x0 : Int) (x1 : (List Int)) (x2 : (List Int)) : St := ⟨[(8, .one (.dat Ty.int x0)), (7, .one (.own 0)), (4, .one (.own 1))], [(0, .arr Ty.int x1), (1, .arr Ty.int x2)], 2⟩
theorem slices_Repeat_Lint_vc (x : Int) (n : Int) (rec : List It → St → Prop) (K : V → List Blk → Prop) v0 (hv0 : v0 = (u64w (((len (x :: [])) : Nat) : Int))) v1 (hv1 : v1 = (inU64 v0)) v2 (hv2 : v2 = (u64w n)) v3 (hv3 : v3 = (inU64 v2)) : segD Γ_slices_Repeat_Lint tab fn_slices_Repeat_Lint 0 K rec [.code (bodyOf fn_slices_Repeat_Lint)] (initSt [.one (.dat (Ty.list Ty.int) (x :: [])), .one (.dat Ty.int n)] []) = (
    br (lti n (0 : Int))
     (False)
     (((v1 = true) ∧ (v3 = true)) ∧
      (br (lti (0 : Int) ((v0 * v2) / two64))
       (False)
       (br (lti (9223372036854775807 : Int) ((v0 * v2) % two64))
         (False)
         ((((0 : Int) ≤ (w64 ((v0 * v2) % two64))) ∧ ((((w64 ((v0 * v2) % two64)) * ((8 : Nat) : Int)) ≤ (140737488355328 : Int)) ∧ ((w64 ((v0 * v2) % two64)) ≤ (140737488355328 : Int)))) ∧
          (rec slices_Repeat_Lint_L0 (slices_Repeat_Lint_S0 (((min (len (zeros (Int.toNat (w64 ((v0 * v2) % two64))) (Ty.dflt Ty.int))) (len (x :: []))) : Nat) : Int) (put (zeros (Int.toNat (w64 ((v0 * v2) % two64))) (Ty.dflt Ty.int)) 0 (slc (x :: []) 0 (min (len (zeros (Int.toNat (w64 ((v0 * v2) % two64))) (Ty.dflt Ty.int))) (len (x :: []))))) []))))))) := by subst hv3; subst hv2; subst hv1; subst hv0; kernel_rfl
theorem slices_Repeat_Lint_w (x : Int) (n : Int) (m : Nat) (K : V → List Blk → Prop) : goD Γ_slices_Repeat_Lint tab fn_slices_Repeat_Lint 0 K (m + 1) [.code (bodyOf fn_slices_Repeat_Lint)] (initSt [.one (.dat (Ty.list Ty.int) (x :: [])), .one (.dat Ty.int n)] []) = segD Γ_slices_Repeat_Lint tab fn_slices_Repeat_Lint 0 K (goD Γ_slices_Repeat_Lint tab fn_slices_Repeat_Lint 0 K m) [.code (bodyOf fn_slices_Repeat_Lint)] (initSt [.one (.dat (Ty.list Ty.int) (x :: [])), .one (.dat Ty.int n)] []) := rfl
theorem slices_Repeat_Lint_vc0 (x0 : Int) (x1 : (List Int)) (x2 : (List Int)) (rec : List It → St → Prop) (K : V → List Blk → Prop) : segD Γ_slices_Repeat_Lint tab fn_slices_Repeat_Lint 0 K rec (.code (Code.sub (bodyOf fn_slices_Repeat_Lint) [1, 1, 1, 1, 1, 1, 0, 0, 0]) :: slices_Repeat_Lint_L0) (slices_Repeat_Lint_S0 x0 x1 x2) = (
    br (lti x0 (((len x1) : Nat) : Int))
     ((((0 : Int) ≤ x0) ∧ ((x0 ≤ (((len x1) : Nat) : Int)) ∧ ((((len x1) : Nat) : Int) ≤ (((len x1) : Nat) : Int)))) ∧
      ((((0 : Int) ≤ (0 : Int)) ∧ (((0 : Int) ≤ x0) ∧ (x0 ≤ (((len x1) : Nat) : Int)))) ∧
      (((((Int.toNat (0 : Int)) + (Int.toNat (x0 - (0 : Int)))) ≤ (len x1)) ∧ (((Int.toNat x0) + (Int.toNat ((((len x1) : Nat) : Int) - x0))) ≤ (len x1))) ∧
      (rec slices_Repeat_Lint_L0 (slices_Repeat_Lint_S0 (w64 (x0 + (((min (Int.toNat ((((len x1) : Nat) : Int) - x0)) (len (slc x1 (Int.toNat (0 : Int)) ((Int.toNat (0 : Int)) + (Int.toNat (x0 - (0 : Int))))))) : Nat) : Int))) (put x1 (Int.toNat x0) (slc (slc x1 (Int.toNat (0 : Int)) ((Int.toNat (0 : Int)) + (Int.toNat (x0 - (0 : Int))))) 0 (min (Int.toNat ((((len x1) : Nat) : Int) - x0)) (len (slc x1 (Int.toNat (0 : Int)) ((Int.toNat (0 : Int)) + (Int.toNat (x0 - (0 : Int))))))))) x2)))))
     (K (.one (.dat (Ty.list Ty.int) x1)) [])) := by kernel_rfl
theorem slices_Repeat_Lint_w0 (x0 : Int) (x1 : (List Int)) (x2 : (List Int)) (m : Nat) (K : V → List Blk → Prop) : goD Γ_slices_Repeat_Lint tab fn_slices_Repeat_Lint 0 K (m + 1) slices_Repeat_Lint_L0 (slices_Repeat_Lint_S0 x0 x1 x2) = segD Γ_slices_Repeat_Lint tab fn_slices_Repeat_Lint 0 K (goD Γ_slices_Repeat_Lint tab fn_slices_Repeat_Lint 0 K m) (.code (Code.sub (bodyOf fn_slices_Repeat_Lint) [1, 1, 1, 1, 1, 1, 0, 0, 0]) :: slices_Repeat_Lint_L0) (slices_Repeat_Lint_S0 x0 x1 x2) := rfl

theorem u64w_id {n : Int} (h1 : 0 ≤ n) (h2 : n < 18446744073709551616) : u64w n = n := by
  unfold u64w; rw [IntKind.wrap_u64]; omega
theorem inU64_of {n : Int} (h1 : 0 ≤ n) (h2 : n < 18446744073709551616) : inU64 n = true := by simp [inU64, h1, h2]
theorem put_rep (x : Int) (n k j : Nat) : put (List.replicate k x ++ List.replicate (n - k) 0) k (List.replicate j x) = List.replicate (k + j) x ++ List.replicate (n - (k + j)) 0 := by
  unfold put
  rw [List.take_left' (by simp), List.length_replicate]
  rw [show List.drop (k + j) (List.replicate k x ++ List.replicate (n - k) (0 : Int)) = List.replicate (n - (k + j)) 0 from by
    rw [List.drop_append, List.drop_of_length_le (by simp)]
    simp
    omega]
  rw [List.replicate_append_replicate]
theorem loop_slices_Repeat_Lint (x : Int) (n : Nat) (hn : n ≤ 1000000) (K : V → List Blk → Prop) (hK : K (.one (.dat (.list .int) (zeros n x))) []) : ∀ (d k : Nat), n ≤ k + d → k ≤ n → (0 < n → 0 < k) →
    goD Γ_slices_Repeat_Lint tab fn_slices_Repeat_Lint 0 K (d + 1) slices_Repeat_Lint_L0 (slices_Repeat_Lint_S0 (k : Int) (List.replicate k x ++ List.replicate (n - k) 0) [])
  | 0, k, hd, hk, hp => by
    rw [slices_Repeat_Lint_w0, slices_Repeat_Lint_vc0 _ _ _ _ _]
    have e : k = n := by omega
    subst e
    refine lt_f (by simp [len]) ?_
    simpa [zeros] using hK
  | d + 1, k, hd, hk, hp => by
    rw [slices_Repeat_Lint_w0, slices_Repeat_Lint_vc0 _ _ _ _ _]
    have hl : len (List.replicate k x ++ List.replicate (n - k) (0 : Int)) = n := by simp [len]; omega
    rw [hl]
    by_cases c : k < n
    · refine lt_t (by omega) ⟨⟨by omega, by omega, by omega⟩, ⟨by omega, by omega, by omega⟩, ⟨by omega, by omega⟩, ?_⟩
      have e1 : slc (List.replicate k x ++ List.replicate (n - k) (0 : Int)) (Int.toNat 0) (Int.toNat 0 + Int.toNat ((k : Int) - 0)) = List.replicate k x := by
        rw [show Int.toNat 0 + Int.toNat ((k : Int) - 0) = k by omega]
        unfold slc
        rw [List.take_left' (by simp)]
        simp
      rw [e1]
      have e2 : len (List.replicate k x) = k := by simp [len]
      rw [e2]
      generalize hj : min (Int.toNat ((n : Int) - (k : Int))) k = j
      have hj' : j = min (n - k) k := by omega
      have e3 : slc (List.replicate k x) 0 j = List.replicate j x := by
        unfold slc
        rw [List.take_replicate]
        simp
        omega
      rw [e3, toNat_nat, put_rep x n k j, w64_id (by omega) (by omega), show (k : Int) + (j : Int) = ((k + j : Nat) : Int) by omega]
      exact loop_slices_Repeat_Lint x n hn K hK d (k + j) (by have := hp (by omega); omega) (by omega) (fun h => by have := hp h; omega)
    · have e : k = n := by omega
      subst e
      refine lt_f (by omega) ?_
      simpa [zeros] using hK
set_option maxHeartbeats 4000000 in
theorem run_slices_Repeat_Lint (x n : Int) (hp : 0 ≤ n ∧ n ≤ 1000000) (K : V → List Blk → Prop) (hK : K (.one (.dat (.list .int) (zeros n.toNat x))) []) : ∃ m, goD Γ_slices_Repeat_Lint tab fn_slices_Repeat_Lint 0 K m [.code (bodyOf fn_slices_Repeat_Lint)] (initSt [.one (.dat (.list .int) [x]), .one (.dat .int n)] []) := by
  obtain ⟨h1, h2⟩ := hp
  refine ⟨n.toNat + 2, ?_⟩
  rw [slices_Repeat_Lint_w, slices_Repeat_Lint_vc _ _ _ _ _ rfl _ rfl _ rfl _ rfl]
  have e1 : u64w (((len (x :: [])) : Nat) : Int) = 1 := by simp only [len, List.length_cons, List.length_nil]; exact u64w_id (by omega) (by omega)
  rw [e1, u64w_id (n := n) h1 (by omega), Int.one_mul]
  have e2 : n / two64 = 0 := by unfold two64; omega
  have e3 : n % two64 = n := by unfold two64; omega
  rw [e2, e3, w64_id (by omega) (by omega)]
  refine lt_f h1 ⟨⟨inU64_of (by omega) (by omega), inU64_of h1 (by omega)⟩, lt_f (by omega) (lt_f (by omega) ⟨⟨h1, by omega, by omega⟩, ?_⟩)⟩
  obtain ⟨k, rfl⟩ := Int.eq_ofNat_of_zero_le h1
  rw [toNat_nat] at hK ⊢
  have e4 : len (zeros k (Ty.dflt Ty.int)) = k := by simp [len, zeros]
  rw [e4]
  have := loop_slices_Repeat_Lint x k (by omega) K hK k (min k 1) (by omega) (by omega) (by omega)
  have e5 : put (zeros k (Ty.dflt Ty.int)) 0 (slc (x :: []) 0 (min k (len (x :: [])))) = List.replicate (min k 1) x ++ List.replicate (k - min k 1) 0 := by
    have h := put_rep x k 0 (min k 1)
    rw [Nat.zero_add] at h
    rw [← h]
    have : slc (x :: []) 0 (min k (len (x :: []))) = List.replicate (min k 1) x := by
      simp only [len, List.length_cons, List.length_nil, slc]
      cases k with
      | zero => simp
      | succ k => rw [show min (k + 1) (0 + 1) = 1 by omega]; rfl
    rw [this]
    rfl
  rw [e5, show min k (len (x :: [])) = min k 1 from rfl]
  exact this
theorem sound_slices_Repeat_Lint : SoundC Tryd.prog tab n_slices_Repeat_Lint c_slices_Repeat_Lint := soundC_of ok_slices_Repeat_Lint hf_slices_Repeat_Lint hB_slices_Repeat_Lint (by
  intro vs bs p v bs' h hp
  unfold c_slices_Repeat_Lint at h
  split at h
  · cases h
    exact ⟨by kernel_rfl, rfl, .inl (run_slices_Repeat_Lint _ _ hp.1 _ ⟨rfl, rfl⟩)⟩
  · cases h)

def c_flash_New : Contract := fun vs bs => match vs, bs with
  | [.one (.dat .int n)], [] => some (none, .tup [.agg [.dat (.list .int) (newFlash n).1.words, .dat .int (newFlash n).1.fuel], .one (.dat .int (newFlash n).2)], [])
  | _, _ => none
def Γ_flash_New : Ctx := [(n_slices_Repeat_Lint, c_slices_Repeat_Lint)]
theorem ok_flash_New : Ok Tryd.prog tab Γ_flash_New := (ok_nil.consC hf_slices_Repeat_Lint hB_slices_Repeat_Lint sound_slices_Repeat_Lint)
theorem flash_New_vc (n : Int) (rec : List It → St → Prop) (K : V → List Blk → Prop) : segD Γ_flash_New tab fn_flash_New 0 K rec [.code (bodyOf fn_flash_New)] (initSt [.one (.dat Ty.int n)] []) = (
    br (lti n (1 : Int))
     (K (.tup [.agg [.dat (Ty.list Ty.int) [], .dat Ty.int (0 : Int)], .one (.dat Ty.int (3 : Int))]) [])
     (br (lti (6 : Int) n)
       (K (.tup [.agg [.dat (Ty.list Ty.int) [], .dat Ty.int (0 : Int)], .one (.dat Ty.int (3 : Int))]) [])
       ((((0 : Int) ≤ (w64 (n * (32 : Int)))) ∧ ((w64 (n * (32 : Int))) ≤ (1000000 : Int))) ∧
        (K (.tup [.agg [.dat (Ty.list Ty.int) (zeros (Int.toNat (w64 (n * (32 : Int)))) (65535 : Int)), .dat Ty.int (-(1 : Int))], .one (.dat Ty.int (0 : Int))]) [])))) := by kernel_rfl
theorem flash_New_w (n : Int) (m : Nat) (K : V → List Blk → Prop) : goD Γ_flash_New tab fn_flash_New 0 K (m + 1) [.code (bodyOf fn_flash_New)] (initSt [.one (.dat Ty.int n)] []) = segD Γ_flash_New tab fn_flash_New 0 K (goD Γ_flash_New tab fn_flash_New 0 K m) [.code (bodyOf fn_flash_New)] (initSt [.one (.dat Ty.int n)] []) := rfl

set_option maxHeartbeats 4000000 in
theorem run_flash_New (n : Int) (K : V → List Blk → Prop) (hK : K (.tup [.agg [.dat (.list .int) (newFlash n).1.words, .dat .int (newFlash n).1.fuel], .one (.dat .int (newFlash n).2)]) []) : ∃ m, goD Γ_flash_New tab fn_flash_New 0 K m [.code (bodyOf fn_flash_New)] (initSt [.one (.dat .int n)] []) := by
  refine ⟨1, ?_⟩
  rw [flash_New_w, flash_New_vc _ _ _]
  unfold newFlash at hK
  refine lt_s (fun h => ?_) (fun h => lt_s (fun h2 => ?_) (fun h2 => ?_))
  · rw [if_neg (by omega)] at hK; exact hK
  · rw [if_neg (by omega)] at hK; exact hK
  · rw [if_pos ⟨h, h2⟩] at hK
    rw [w64_id (by omega) (by omega)]
    exact ⟨⟨by omega, by omega⟩, hK⟩
theorem sound_flash_New : SoundC Tryd.prog tab n_flash_New c_flash_New := soundC_of ok_flash_New hf_flash_New hB_flash_New (by
  intro vs bs p v bs' h hp
  unfold c_flash_New at h
  split at h
  · cases h
    exact ⟨by kernel_rfl, rfl, .inl (run_flash_New _ _ ⟨rfl, rfl⟩)⟩
  · cases h)

def c_log_Format : Contract := fun vs bs => match vs, bs with
  | [.agg [.dat (.list .int) ws, .dat .int fu]], [] => some (none, .tup [.agg [.dat (.list .int) (formatF ⟨ws, fu⟩).1.words, .dat .int (formatF ⟨ws, fu⟩).1.fuel], .one (.dat .int (formatF ⟨ws, fu⟩).2)], [])
  | _, _ => none
def Γ_log_Format : Ctx := [(n_flash_Check, c_flash_Check), (n_flash_Copy, c_flash_Copy), (n_flash_Wipe, c_flash_Wipe), (n_flash_Burn, (orC c_flash_Burn c_flash_Burn_b))]
theorem ok_log_Format : Ok Tryd.prog tab Γ_log_Format := ((((ok_nil.consC hf_flash_Burn hB_flash_Burn (soundC_or sound_flash_Burn sound_flash_Burn_b)).consC hf_flash_Wipe hB_flash_Wipe sound_flash_Wipe).consC hf_flash_Copy hB_flash_Copy sound_flash_Copy).consC hf_flash_Check hB_flash_Check sound_flash_Check)
theorem log_Format_vc (ws : List Int) (fu : Int) (rec : List It → St → Prop) (K : V → List Blk → Prop) v0 (hv0 : v0 = (checkFlash (⟨ws, fu⟩ : Flash))) v1 (hv1 : v1 = (wipeCh (1 : Int))) v2 (hv2 : v2 = (doCh (⟨ws, fu⟩ : Flash) v1)) v3 (hv3 : v3 = (wipeCh (0 : Int))) v4 (hv4 : v4 = (doCh (⟨((v2).fst).words, ((v2).fst).fuel⟩ : Flash) v3)) v5 (hv5 : v5 = (burnCh (0 : Int) ((1 : Int) :: []))) v6 (hv6 : v6 = (doCh (⟨((v4).fst).words, ((v4).fst).fuel⟩ : Flash) v5)) : segD Γ_log_Format tab fn_log_Format 0 K rec [.code (bodyOf fn_log_Format)] (initSt [.agg [.dat (Ty.list Ty.int) ws, .dat Ty.int fu]] []) = (
    br (!(eqi v0 (0 : Int)))
     (K (.tup [.agg [.dat (Ty.list Ty.int) [], .dat Ty.int (0 : Int)], .one (.dat Ty.int v0)]) [])
     (br (lti (((len ws) : Nat) : Int) (64 : Int))
       (K (.tup [.agg [.dat (Ty.list Ty.int) [], .dat Ty.int (0 : Int)], .one (.dat Ty.int (4 : Int))]) [])
       ((((len ws) * 8) ≤ 140737488355328) ∧
        ((((-(1 : Int)) ≤ fu) ∧ ((fu ≤ (100000 : Int)) ∧ (((0 : Int) ≤ (1 : Int)) ∧ (((((1 : Int) + (1 : Int)) * (32 : Int)) ≤ (((len ws) : Nat) : Int)) ∧ ((len ws) ≤ 192))))) ∧
        (br (!(v2).snd)
         (K (.tup [.agg [.dat (Ty.list Ty.int) ((v2).fst).words, .dat Ty.int ((v2).fst).fuel], .one (.dat Ty.int (7 : Int))]) [])
         ((((-(1 : Int)) ≤ ((v2).fst).fuel) ∧ ((((v2).fst).fuel ≤ (100000 : Int)) ∧ (((0 : Int) ≤ (0 : Int)) ∧ (((((0 : Int) + (1 : Int)) * (32 : Int)) ≤ (((len ((v2).fst).words) : Nat) : Int)) ∧ ((len ((v2).fst).words) ≤ 192))))) ∧
          (br (!(v4).snd)
           (K (.tup [.agg [.dat (Ty.list Ty.int) ((v4).fst).words, .dat Ty.int ((v4).fst).fuel], .one (.dat Ty.int (7 : Int))]) [])
           ((((-(1 : Int)) ≤ ((v4).fst).fuel) ∧ ((((v4).fst).fuel ≤ (100000 : Int)) ∧ (((0 : Int) ≤ (0 : Int)) ∧ ((((0 : Int) + (((len ((1 : Int) :: [])) : Nat) : Int)) ≤ (((len ((v4).fst).words) : Nat) : Int)) ∧ ((len ((v4).fst).words) ≤ 192))))) ∧
            (br (!(v6).snd)
             (K (.tup [.agg [.dat (Ty.list Ty.int) ((v6).fst).words, .dat Ty.int ((v6).fst).fuel], .one (.dat Ty.int (7 : Int))]) [])
             (K (.tup [.agg [.dat (Ty.list Ty.int) ((v6).fst).words, .dat Ty.int ((v6).fst).fuel], .one (.dat Ty.int (0 : Int))]) [])))))))))) := by subst hv6; subst hv5; subst hv4; subst hv3; subst hv2; subst hv1; subst hv0; kernel_rfl
theorem log_Format_w (ws : List Int) (fu : Int) (m : Nat) (K : V → List Blk → Prop) : goD Γ_log_Format tab fn_log_Format 0 K (m + 1) [.code (bodyOf fn_log_Format)] (initSt [.agg [.dat (Ty.list Ty.int) ws, .dat Ty.int fu]] []) = segD Γ_log_Format tab fn_log_Format 0 K (goD Γ_log_Format tab fn_log_Format 0 K m) [.code (bodyOf fn_log_Format)] (initSt [.agg [.dat (Ty.list Ty.int) ws, .dat Ty.int fu]] []) := rfl

set_option maxHeartbeats 4000000 in
theorem run_log_Format (ws : List Int) (fu : Int) (K : V → List Blk → Prop) (hK : K (.tup [.agg [.dat (.list .int) (formatF ⟨ws, fu⟩).1.words, .dat .int (formatF ⟨ws, fu⟩).1.fuel], .one (.dat .int (formatF ⟨ws, fu⟩).2)]) []) : ∃ m, goD Γ_log_Format tab fn_log_Format 0 K m [.code (bodyOf fn_log_Format)] (initSt [.agg [.dat (.list .int) ws, .dat .int fu]] []) := by
  refine ⟨1, ?_⟩
  rw [log_Format_w, log_Format_vc _ _ _ _ _ rfl _ rfl _ rfl _ rfl _ rfl _ rfl _ rfl]
  unfold formatF at hK
  refine ne_s (fun h => ?_) (fun h => ?_)
  · rw [if_neg h] at hK; exact hK
  rw [if_pos h] at hK
  obtain ⟨c1, c2, c3, c4⟩ := checkFlash_ok h
  obtain ⟨c5, c6⟩ := okLen_le c1
  simp only at c2 c3 c5 c6
  refine lt_s (fun h2 => ?_) (fun h2 => ?_)
  · rw [if_neg (by simp only [len] at h2 ⊢; omega)] at hK; exact hK
  rw [if_pos (by simp only [len] at h2 ⊢; omega)] at hK
  unfold formatCh at hK
  rw [doCh_append, doCh_append] at hK
  obtain ⟨f1, f2⟩ := doCh_fuel ⟨ws, fu⟩ (wipeCh 1) c2 c3
  have l1 := doCh_len ⟨ws, fu⟩ (wipeCh 1)
  obtain ⟨g1, g2⟩ := doCh_fuel (doCh ⟨ws, fu⟩ (wipeCh 1)).1 (wipeCh 0) f1 f2
  have l2 := doCh_len (doCh ⟨ws, fu⟩ (wipeCh 1)).1 (wipeCh 0)
  simp only [len] at h2 l1 l2 ⊢
  refine ⟨by omega, ⟨c2, c3, by omega, by omega, by omega⟩, nt_s (fun h3 => ?_) (fun h3 => ⟨⟨f1, f2, by omega, by omega, by omega⟩, nt_s (fun h4 => ?_) (fun h4 => ⟨⟨g1, g2, by omega, ?_, ?_⟩, nt_s (fun h5 => ?_) (fun h5 => ?_)⟩)⟩)⟩
  · rw [if_neg (show ¬ (doCh ⟨ws, fu⟩ (wipeCh 1)).2 = true by simp [h3]), if_neg (by simp [h3])] at hK
    simp only [power, powerE, h3] at hK; exact hK
  · rw [if_pos h3, if_neg (show ¬ (doCh (doCh ⟨ws, fu⟩ (wipeCh 1)).1 (wipeCh 0)).2 = true from by rw [show (doCh (doCh ⟨ws, fu⟩ (wipeCh 1)).1 (wipeCh 0)).2 = false from h4]; simp)] at hK
    simp only [power] at hK
    rw [show (doCh (doCh ⟨ws, fu⟩ (wipeCh 1)).1 (wipeCh 0)).2 = false from h4] at hK
    exact hK
  · show (0 : Int) + _ ≤ ((doCh (doCh ⟨ws, fu⟩ (wipeCh 1)).1 (wipeCh 0)).1.words.length : Int)
    simp only [List.length_cons, List.length_nil]; omega
  · show (doCh (doCh ⟨ws, fu⟩ (wipeCh 1)).1 (wipeCh 0)).1.words.length ≤ _
    omega
  · rw [if_pos h3, if_pos (show (doCh (doCh ⟨ws, fu⟩ (wipeCh 1)).1 (wipeCh 0)).2 = true from h4)] at hK
    simp only [power] at hK
    rw [show (doCh (doCh (doCh ⟨ws, fu⟩ (wipeCh 1)).1 (wipeCh 0)).1 (burnCh 0 [1])).2 = false from h5] at hK
    exact hK
  · rw [if_pos h3, if_pos (show (doCh (doCh ⟨ws, fu⟩ (wipeCh 1)).1 (wipeCh 0)).2 = true from h4)] at hK
    simp only [power] at hK
    rw [show (doCh (doCh (doCh ⟨ws, fu⟩ (wipeCh 1)).1 (wipeCh 0)).1 (burnCh 0 [1])).2 = true from h5] at hK
    exact hK
theorem sound_log_Format : SoundC Tryd.prog tab n_log_Format c_log_Format := soundC_of ok_log_Format hf_log_Format hB_log_Format (by
  intro vs bs p v bs' h hp
  unfold c_log_Format at h
  split at h
  · cases h
    exact ⟨by kernel_rfl, rfl, .inl (run_log_Format _ _ _ ⟨rfl, rfl⟩)⟩
  · cases h)

def c_unit_New : Contract := fun vs bs => match vs, bs with
  | [.one (.dat (.list .int) l), .one (.dat .int name)], [] => some (none, .tup [.agg [.dat (.list .int) (newU l name).1.f.words, .dat .int (newU l name).1.f.fuel, .dat .bool (newU l name).1.up, .dat .int (newU l name).1.n, .dat .int (newU l name).1.got], .one (.dat .int (newU l name).2)], [])
  | _, _ => none
def Γ_unit_New : Ctx := [(n_meta_CheckImage, c_meta_CheckImage), (n_flash_New, c_flash_New), (n_log_Format, c_log_Format), (n_slot_Fill, c_slot_Fill), (n_slot_Seal, c_slot_Seal), (n_log_Append, c_log_Append)]
theorem ok_unit_New : Ok Tryd.prog tab Γ_unit_New := ((((((ok_nil.consC hf_log_Append hB_log_Append sound_log_Append).consC hf_slot_Seal hB_slot_Seal sound_slot_Seal).consC hf_slot_Fill hB_slot_Fill sound_slot_Fill).consC hf_log_Format hB_log_Format sound_log_Format).consC hf_flash_New hB_flash_New sound_flash_New).consC hf_meta_CheckImage hB_meta_CheckImage sound_meta_CheckImage)
theorem unit_New_vc (l : List Int) (name : Int) (rec : List It → St → Prop) (K : V → List Blk → Prop) v0 (hv0 : v0 = (checkImage l)) v1 (hv1 : v1 = (applyCh (zeros (Int.toNat ((6 : Int) * (32 : Int))) (65535 : Int)) formatCh)) v2 (hv2 : v2 = (fillS (⟨v1, (-(1 : Int))⟩ : Vm.Flash) (0 : Int) (0 : Int) l)) v3 (hv3 : v3 = (sealS (⟨((v2).fst).words, ((v2).fst).fuel⟩ : Vm.Flash) (0 : Int) (((len l) : Nat) : Int) name)) v4 (hv4 : v4 = (smR [])) v5 (hv5 : v5 = (appendF (⟨((v3).fst).words, ((v3).fst).fuel⟩ : Vm.Flash) ((1 : Int) :: ((0 : Int) :: ((0 : Int) :: []))) [])) : segD Γ_unit_New tab fn_unit_New 0 K rec [.code (bodyOf fn_unit_New)] (initSt [.one (.dat (Ty.list Ty.int) l), .one (.dat Ty.int name)] []) = (
    br (!(eqi v0 (0 : Int)))
     (K (.tup [.agg [.dat (Ty.list Ty.int) [], .dat Ty.int (0 : Int), .dat Ty.bool false, .dat Ty.int (0 : Int), .dat Ty.int (0 : Int)], .one (.dat Ty.int v0)]) [])
     (((List.length l) ≤ 140737488355328) ∧
      (br (!(eqi (v3).snd (0 : Int)))
       (K (.tup [.agg [.dat (Ty.list Ty.int) [], .dat Ty.int (0 : Int), .dat Ty.bool false, .dat Ty.int (0 : Int), .dat Ty.int (0 : Int)], .one (.dat Ty.int (v3).snd)]) [])
       ((((List.length ((1 : Int) :: ((0 : Int) :: ((0 : Int) :: [])))) ≤ 140737488355328) ∧ (((0 * 24) ≤ 140737488351232) ∧ (v4 = true))) ∧
        (K (.tup [.agg [.dat (Ty.list Ty.int) ((v5).fst).words, .dat Ty.int ((v5).fst).fuel, .dat Ty.bool true, .dat Ty.int (0 : Int), .dat Ty.int (0 : Int)], .one (.dat Ty.int (0 : Int))]) []))))) := by subst hv5; subst hv4; subst hv3; subst hv2; subst hv1; subst hv0; kernel_rfl
theorem unit_New_w (l : List Int) (name : Int) (m : Nat) (K : V → List Blk → Prop) : goD Γ_unit_New tab fn_unit_New 0 K (m + 1) [.code (bodyOf fn_unit_New)] (initSt [.one (.dat (Ty.list Ty.int) l), .one (.dat Ty.int name)] []) = segD Γ_unit_New tab fn_unit_New 0 K (goD Γ_unit_New tab fn_unit_New 0 K m) [.code (bodyOf fn_unit_New)] (initSt [.one (.dat (Ty.list Ty.int) l), .one (.dat Ty.int name)] []) := rfl

set_option maxHeartbeats 4000000 in
theorem run_unit_New (l : List Int) (name : Int) (K : V → List Blk → Prop) (hK : K (.tup [.agg [.dat (.list .int) (newU l name).1.f.words, .dat .int (newU l name).1.f.fuel, .dat .bool (newU l name).1.up, .dat .int (newU l name).1.n, .dat .int (newU l name).1.got], .one (.dat .int (newU l name).2)]) []) : ∃ m, goD Γ_unit_New tab fn_unit_New 0 K m [.code (bodyOf fn_unit_New)] (initSt [.one (.dat (.list .int) l), .one (.dat .int name)] []) := by
  obtain ⟨F, hF⟩ : ∃ F, F = applyCh (zeros (Int.toNat ((6 : Int) * (32 : Int))) (65535 : Int)) formatCh := ⟨_, rfl⟩
  refine ⟨1, Eq.mpr (unit_New_vc l name (goD Γ_unit_New tab fn_unit_New 0 K 0) K _ rfl F hF _ rfl _ rfl _ rfl _ rfl) ?_⟩
  have e : (formatF (newFlash 6).1).1 = ⟨F, -1⟩ := by rw [hF]; kernel_rfl
  clear hF
  unfold newU factoryU at hK
  rw [e] at hK
  refine ne_s (fun h => ?_) (fun h => ⟨?_, ne_s (fun h2 => ?_) (fun h2 => ⟨⟨by simp, by omega, rfl⟩, ?_⟩)⟩)
  · rw [if_neg h] at hK; exact hK
  · have := checkImage_ok h; omega
  · rw [if_pos h, if_neg (show ¬ (sealS (fillS ⟨F, -1⟩ 0 0 l).1 0 (l.length : Int) name).2 = 0 from h2)] at hK; exact hK
  · rw [if_pos h, if_pos (show (sealS (fillS ⟨F, -1⟩ 0 0 l).1 0 (l.length : Int) name).2 = 0 from h2)] at hK; exact hK
theorem sound_unit_New : SoundC Tryd.prog tab n_unit_New c_unit_New := soundC_of ok_unit_New hf_unit_New hB_unit_New (by
  intro vs bs p v bs' h hp
  unfold c_unit_New at h
  split at h
  · cases h
    exact ⟨by kernel_rfl, rfl, .inl (run_unit_New _ _ _ ⟨rfl, rfl⟩)⟩
  · cases h)

def c_unit_Runs : Contract := fun vs bs => match vs, bs with
  | [.agg [.dat (.list .int) ws, .dat .int fu, .dat .bool up, .dat .int un, .dat .int ug]], [] => some (none, .tup [.one (.dat (.list .int) (runsU ⟨⟨ws, fu⟩, up, un, ug⟩).1), .one (.dat .int (runsU ⟨⟨ws, fu⟩, up, un, ug⟩).2.1), .one (.dat .int (runsU ⟨⟨ws, fu⟩, up, un, ug⟩).2.2)], [])
  | _, _ => none
def Γ_unit_Runs : Ctx := [(n_unit_Check, c_unit_Check), (n_unit_of, c_unit_of), (n_slot_Image, c_slot_Image)]
theorem ok_unit_Runs : Ok Tryd.prog tab Γ_unit_Runs := (((ok_nil.consC hf_slot_Image hB_slot_Image sound_slot_Image).consC hf_unit_of hB_unit_of sound_unit_of).consC hf_unit_Check hB_unit_Check sound_unit_Check)
theorem unit_Runs_vc (ws : List Int) (fu : Int) (up : Bool) (un : Int) (ug : Int) (rec : List It → St → Prop) (K : V → List Blk → Prop) v0 (hv0 : v0 = (checkU (⟨(⟨ws, fu⟩ : Vm.Flash), up, un, ug⟩ : Vm.UnitD))) v1 (hv1 : v1 = (ofU (⟨ws, fu⟩ : Vm.Flash))) v2 (hv2 : v2 = (imageS (⟨ws, fu⟩ : Vm.Flash) (v1).slot)) : segD Γ_unit_Runs tab fn_unit_Runs 0 K rec [.code (bodyOf fn_unit_Runs)] (initSt [.agg [.dat (Ty.list Ty.int) ws, .dat Ty.int fu, .dat Ty.bool up, .dat Ty.int un, .dat Ty.int ug]] []) = (
    br (!(eqi v0 (0 : Int)))
     (K (.tup [.one (.dat (Ty.list Ty.int) []), .one (.dat Ty.int (0 : Int)), .one (.dat Ty.int v0)]) [])
     (K (.tup [.one (.dat (Ty.list Ty.int) (v2).fst), .one (.dat Ty.int ((v2).snd).fst), .one (.dat Ty.int ((v2).snd).snd)]) [])) := by subst hv2; subst hv1; subst hv0; kernel_rfl
theorem unit_Runs_w (ws : List Int) (fu : Int) (up : Bool) (un : Int) (ug : Int) (m : Nat) (K : V → List Blk → Prop) : goD Γ_unit_Runs tab fn_unit_Runs 0 K (m + 1) [.code (bodyOf fn_unit_Runs)] (initSt [.agg [.dat (Ty.list Ty.int) ws, .dat Ty.int fu, .dat Ty.bool up, .dat Ty.int un, .dat Ty.int ug]] []) = segD Γ_unit_Runs tab fn_unit_Runs 0 K (goD Γ_unit_Runs tab fn_unit_Runs 0 K m) [.code (bodyOf fn_unit_Runs)] (initSt [.agg [.dat (Ty.list Ty.int) ws, .dat Ty.int fu, .dat Ty.bool up, .dat Ty.int un, .dat Ty.int ug]] []) := rfl

set_option maxHeartbeats 4000000 in
theorem run_unit_Runs (ws : List Int) (fu : Int) (up : Bool) (un ug : Int) (K : V → List Blk → Prop) (hK : K (.tup [.one (.dat (.list .int) (runsU ⟨⟨ws, fu⟩, up, un, ug⟩).1), .one (.dat .int (runsU ⟨⟨ws, fu⟩, up, un, ug⟩).2.1), .one (.dat .int (runsU ⟨⟨ws, fu⟩, up, un, ug⟩).2.2)]) []) : ∃ m, goD Γ_unit_Runs tab fn_unit_Runs 0 K m [.code (bodyOf fn_unit_Runs)] (initSt [.agg [.dat (.list .int) ws, .dat .int fu, .dat .bool up, .dat .int un, .dat .int ug]] []) := by
  refine ⟨1, ?_⟩
  rw [unit_Runs_w, unit_Runs_vc _ _ _ _ _ _ _ _ rfl _ rfl _ rfl]
  unfold runsU at hK
  refine ne_s (fun h => ?_) (fun h => ?_)
  · rw [if_neg h] at hK; exact hK
  · rw [if_pos h] at hK; exact hK
theorem sound_unit_Runs : SoundC Tryd.prog tab n_unit_Runs c_unit_Runs := soundC_of ok_unit_Runs hf_unit_Runs hB_unit_Runs (by
  intro vs bs p v bs' h hp
  unfold c_unit_Runs at h
  split at h
  · cases h
    exact ⟨by kernel_rfl, rfl, .inl (run_unit_Runs _ _ _ _ _ _ ⟨rfl, rfl⟩)⟩
  · cases h)

def c_unit_Read : Contract := fun vs bs => match vs, bs with
  | [.agg [.dat (.list .int) ws, .dat .int fu, .dat .bool up, .dat .int un, .dat .int ug]], [] => some (none, .tup [.agg [.dat .int (readU ⟨⟨ws, fu⟩, up, un, ug⟩).1.slot, .dat .int (readU ⟨⟨ws, fu⟩, up, un, ug⟩).1.by_, .dat .int (readU ⟨⟨ws, fu⟩, up, un, ug⟩).1.ready], .one (.dat .int (readU ⟨⟨ws, fu⟩, up, un, ug⟩).2)], [])
  | _, _ => none
def Γ_unit_Read : Ctx := [(n_unit_Check, c_unit_Check), (n_unit_of, c_unit_of)]
theorem ok_unit_Read : Ok Tryd.prog tab Γ_unit_Read := ((ok_nil.consC hf_unit_of hB_unit_of sound_unit_of).consC hf_unit_Check hB_unit_Check sound_unit_Check)
theorem unit_Read_vc (ws : List Int) (fu : Int) (up : Bool) (un : Int) (ug : Int) (rec : List It → St → Prop) (K : V → List Blk → Prop) v0 (hv0 : v0 = (checkU (⟨(⟨ws, fu⟩ : Vm.Flash), up, un, ug⟩ : Vm.UnitD))) v1 (hv1 : v1 = (ofU (⟨ws, fu⟩ : Vm.Flash))) : segD Γ_unit_Read tab fn_unit_Read 0 K rec [.code (bodyOf fn_unit_Read)] (initSt [.agg [.dat (Ty.list Ty.int) ws, .dat Ty.int fu, .dat Ty.bool up, .dat Ty.int un, .dat Ty.int ug]] []) = (
    br (!(eqi v0 (0 : Int)))
     (K (.tup [.agg [.dat Ty.int (0 : Int), .dat Ty.int (0 : Int), .dat Ty.int (0 : Int)], .one (.dat Ty.int v0)]) [])
     (K (.tup [.agg [.dat Ty.int (v1).slot, .dat Ty.int (v1).by_, .dat Ty.int (v1).ready], .one (.dat Ty.int (0 : Int))]) [])) := by subst hv1; subst hv0; kernel_rfl
theorem unit_Read_w (ws : List Int) (fu : Int) (up : Bool) (un : Int) (ug : Int) (m : Nat) (K : V → List Blk → Prop) : goD Γ_unit_Read tab fn_unit_Read 0 K (m + 1) [.code (bodyOf fn_unit_Read)] (initSt [.agg [.dat (Ty.list Ty.int) ws, .dat Ty.int fu, .dat Ty.bool up, .dat Ty.int un, .dat Ty.int ug]] []) = segD Γ_unit_Read tab fn_unit_Read 0 K (goD Γ_unit_Read tab fn_unit_Read 0 K m) [.code (bodyOf fn_unit_Read)] (initSt [.agg [.dat (Ty.list Ty.int) ws, .dat Ty.int fu, .dat Ty.bool up, .dat Ty.int un, .dat Ty.int ug]] []) := rfl

set_option maxHeartbeats 4000000 in
theorem run_unit_Read (ws : List Int) (fu : Int) (up : Bool) (un ug : Int) (K : V → List Blk → Prop) (hK : K (.tup [.agg [.dat .int (readU ⟨⟨ws, fu⟩, up, un, ug⟩).1.slot, .dat .int (readU ⟨⟨ws, fu⟩, up, un, ug⟩).1.by_, .dat .int (readU ⟨⟨ws, fu⟩, up, un, ug⟩).1.ready], .one (.dat .int (readU ⟨⟨ws, fu⟩, up, un, ug⟩).2)]) []) : ∃ m, goD Γ_unit_Read tab fn_unit_Read 0 K m [.code (bodyOf fn_unit_Read)] (initSt [.agg [.dat (.list .int) ws, .dat .int fu, .dat .bool up, .dat .int un, .dat .int ug]] []) := by
  refine ⟨1, ?_⟩
  rw [unit_Read_w, unit_Read_vc _ _ _ _ _ _ _ _ rfl _ rfl]
  unfold readU at hK
  refine ne_s (fun h => ?_) (fun h => ?_)
  · rw [if_neg h] at hK; exact hK
  · rw [if_pos h] at hK; exact hK
theorem sound_unit_Read : SoundC Tryd.prog tab n_unit_Read c_unit_Read := soundC_of ok_unit_Read hf_unit_Read hB_unit_Read (by
  intro vs bs p v bs' h hp
  unfold c_unit_Read at h
  split at h
  · cases h
    exact ⟨by kernel_rfl, rfl, .inl (run_unit_Read _ _ _ _ _ _ ⟨rfl, rfl⟩)⟩
  · cases h)

def c_law_united : Contract := fun vs bs => match vs, bs with
  | [], [] => some (none, .one (.dat .bool true), [])
  | _, _ => none
def Γ_law_united : Ctx := [(n_law_simple, c_law_simple), (n_unit_New, c_unit_New), (n_unit_Hear, c_unit_Hear), (n_unit_Runs, c_unit_Runs), (n_unit_Read, c_unit_Read), (n_slices_Equal_Lint, c_slices_Equal_Lint)]
theorem ok_law_united : Ok Tryd.prog tab Γ_law_united := ((((((ok_nil.consC hf_slices_Equal_Lint hB_slices_Equal_Lint sound_slices_Equal_Lint).consC hf_unit_Read hB_unit_Read sound_unit_Read).consC hf_unit_Runs hB_unit_Runs sound_unit_Runs).consC hf_unit_Hear hB_unit_Hear sound_unit_Hear).consC hf_unit_New hB_unit_New sound_unit_New).consC hf_law_simple hB_law_simple sound_law_simple)
noncomputable def law_united_L0 : List It := [.inLoop [35, 34, 33, 7, 6, 5, 1, 0] (Code.sub (bodyOf fn_law_united) [1, 1, 1, 1, 0, 1, 0, 0]), .inBlock 0, .code (Code.sub (bodyOf fn_law_united) [1, 1, 1, 1, 1])]
def law_united_S0 (x0 : Int) (x1 : Int) (x2 : Int) (x3 : Bool) (x4 : (List Vm.Message)) (x5 : (List Vm.Message)) (x6 : (List Int)) (x7 : Int) (x8 : Bool) (x9 : Int) (x10 : Int) (x11 : (List (List UInt8))) : St := ⟨[(35, .one (.dat Ty.int x0)), (34, .one (.dat Ty.int x1)), (33, .one (.own 0)), (7, .one (.own 1)), (6, .one (.dat Ty.int x2)), (5, .one (.ptr 2 0)), (1, .one (.ptr 3 0)), (0, .one (.dat Ty.bool x3))], [(0, .arr Ty.message x4), (1, .arr Ty.message x5), (2, .box [.dat (Ty.list Ty.int) x6, .dat Ty.int x7, .dat Ty.bool x8, .dat Ty.int x9, .dat Ty.int x10]), (3, .box [.dat (Ty.list Ty.str) x11])], 4⟩
theorem law_united_vc (rec : List It → St → Prop) (K : V → List Blk → Prop) v0 (hv0 : v0 = (applyCh (zeros (Int.toNat ((6 : Int) * (32 : Int))) (65535 : Int)) formatCh)) v1 (hv1 : v1 = (burnCh (((68 : Int) + ((64 : Int) * (0 : Int))) + (0 : Int)) ((7 : Int) :: []))) v2 (hv2 : v2 = (applyCh v0 v1)) v3 (hv3 : v3 = (headOf (((List.length ((7 : Int) :: [])) : Nat) : Int) (1 : Int))) v4 (hv4 : v4 = (burnCh ((64 : Int) + ((64 : Int) * (0 : Int))) v3)) v5 (hv5 : v5 = (applyCh v2 v4)) v6 (hv6 : v6 = (liveS v5)) v7 (hv7 : v7 = (hereCh v6 0 ((1 : Int) :: ((0 : Int) :: ((0 : Int) :: []))))) v8 (hv8 : v8 = (applyCh v5 v7)) : segD Γ_law_united tab fn_law_united 0 K rec [.code (bodyOf fn_law_united)] (initSt [] []) = (
    rec law_united_L0 (law_united_S0 (0 : Int) (((len ((⟨(1 : Int), (0 : Int), (1 : Int), (0 : Int), (0 : Int), ((8 : Int) :: ((8 : Int) :: [])), false⟩ : Vm.Message) :: ((⟨(2 : Int), (0 : Int), (1 : Int), (2 : Int), (2 : Int), [], false⟩ : Vm.Message) :: ((⟨(4 : Int), (0 : Int), (1 : Int), (0 : Int), (0 : Int), [], false⟩ : Vm.Message) :: [])))) : Nat) : Int) (0 : Int) false ((⟨(1 : Int), (0 : Int), (1 : Int), (0 : Int), (0 : Int), ((8 : Int) :: ((8 : Int) :: [])), false⟩ : Vm.Message) :: ((⟨(2 : Int), (0 : Int), (1 : Int), (2 : Int), (2 : Int), [], false⟩ : Vm.Message) :: ((⟨(4 : Int), (0 : Int), (1 : Int), (0 : Int), (0 : Int), [], false⟩ : Vm.Message) :: []))) [] v8 (-(1 : Int)) true (0 : Int) (0 : Int) simpleB)) := by subst hv8; subst hv7; subst hv6; subst hv5; subst hv4; subst hv3; subst hv2; subst hv1; subst hv0; kernel_rfl
theorem law_united_w (m : Nat) (K : V → List Blk → Prop) : goD Γ_law_united tab fn_law_united 0 K (m + 1) [.code (bodyOf fn_law_united)] (initSt [] []) = segD Γ_law_united tab fn_law_united 0 K (goD Γ_law_united tab fn_law_united 0 K m) [.code (bodyOf fn_law_united)] (initSt [] []) := rfl
theorem law_united_vc0 (x0 : Int) (x1 : Int) (x2 : Int) (x3 : Bool) (x4 : (List Vm.Message)) (x5 : (List Vm.Message)) (x6 : (List Int)) (x7 : Int) (x8 : Bool) (x9 : Int) (x10 : Int) (x11 : (List (List UInt8))) (rec : List It → St → Prop) (K : V → List Blk → Prop) v0 (hv0 : v0 = (hearU x11 (⟨(⟨x6, x7⟩ : Vm.Flash), x8, x9, x10⟩ : Vm.UnitD) (⟨((nth x4 (Int.toNat x0) (Ty.dflt Ty.message))).kind, ((nth x4 (Int.toNat x0) (Ty.dflt Ty.message))).unit, ((nth x4 (Int.toNat x0) (Ty.dflt Ty.message))).n, ((nth x4 (Int.toNat x0) (Ty.dflt Ty.message))).at_, ((nth x4 (Int.toNat x0) (Ty.dflt Ty.message))).image, ((nth x4 (Int.toNat x0) (Ty.dflt Ty.message))).words, ((nth x4 (Int.toNat x0) (Ty.dflt Ty.message))).yes⟩ : Vm.Message))) v1 (hv1 : v1 = (runsU (⟨(⟨x6, x7⟩ : Vm.Flash), x8, x9, x10⟩ : Vm.UnitD))) v2 (hv2 : v2 = (readU (⟨(⟨x6, x7⟩ : Vm.Flash), x8, x9, x10⟩ : Vm.UnitD))) v3 (hv3 : v3 = (eqIs (v1).fst ((8 : Int) :: ((8 : Int) :: [])))) : segD Γ_law_united tab fn_law_united 0 K rec (.code (Code.sub (bodyOf fn_law_united) [1, 1, 1, 1, 0, 1, 0, 0]) :: law_united_L0) (law_united_S0 x0 x1 x2 x3 x4 x5 x6 x7 x8 x9 x10 x11) = (
    br (lti x0 x1)
     ((((0 : Int) ≤ x0) ∧ (x0 < (((len x4) : Nat) : Int))) ∧
      (((Int.toNat x0) < (len x4)) ∧
      (((List.length x11) ≤ 140737488355328) ∧
      (br (!(eqi x2 (0 : Int)))
       (K (.one (.dat Ty.bool false)) [])
       (br (!(eqi (v0).snd (0 : Int)))
         (K (.one (.dat Ty.bool false)) [])
         (((((len x5) + (len ((v0).fst).snd)) * 72) ≤ 140737488355328) ∧
          (rec law_united_L0 (law_united_S0 (w64 (x0 + (1 : Int))) x1 x2 x3 x4 (cat x5 ((v0).fst).snd) ((((v0).fst).fst).f).words ((((v0).fst).fst).f).fuel (((v0).fst).fst).up (((v0).fst).fst).n (((v0).fst).fst).got x11))))))))
     (br (eqi ((v1).snd).snd (0 : Int))
       (br (eqi (v2).snd (0 : Int))
         (((List.length (v1).fst) ≤ 140737488355328) ∧
          (br v3
           (br (eqi ((v1).snd).fst (2 : Int))
             (br ((eqi ((v2).fst).slot (1 : Int)) && ((eqi ((v2).fst).by_ (1 : Int)) && ((eqi ((v2).fst).ready (0 : Int)) && true)))
               (br (eqi (((len x5) : Nat) : Int) (2 : Int))
                 ((((0 : Int) ≤ (0 : Int)) ∧ ((0 : Int) < (((len x5) : Nat) : Int))) ∧
                  (((Int.toNat (0 : Int)) < (len x5)) ∧
                  (br ((nth x5 (Int.toNat (0 : Int)) (Ty.dflt Ty.message))).yes
                   ((((0 : Int) ≤ (1 : Int)) ∧ ((1 : Int) < (((len x5) : Nat) : Int))) ∧
                    (((Int.toNat (1 : Int)) < (len x5)) ∧
                    (K (.one (.dat Ty.bool (eqi ((nth x5 (Int.toNat (1 : Int)) (Ty.dflt Ty.message))).kind (6 : Int)))) [])))
                   (K (.one (.dat Ty.bool false)) []))))
                 (K (.one (.dat Ty.bool false)) []))
               (K (.one (.dat Ty.bool false)) []))
             (K (.one (.dat Ty.bool false)) []))
           (K (.one (.dat Ty.bool false)) [])))
         (K (.one (.dat Ty.bool false)) []))
       (K (.one (.dat Ty.bool false)) []))) := by subst hv3; subst hv2; subst hv1; subst hv0; kernel_rfl
theorem law_united_w0 (x0 : Int) (x1 : Int) (x2 : Int) (x3 : Bool) (x4 : (List Vm.Message)) (x5 : (List Vm.Message)) (x6 : (List Int)) (x7 : Int) (x8 : Bool) (x9 : Int) (x10 : Int) (x11 : (List (List UInt8))) (m : Nat) (K : V → List Blk → Prop) : goD Γ_law_united tab fn_law_united 0 K (m + 1) law_united_L0 (law_united_S0 x0 x1 x2 x3 x4 x5 x6 x7 x8 x9 x10 x11) = segD Γ_law_united tab fn_law_united 0 K (goD Γ_law_united tab fn_law_united 0 K m) (.code (Code.sub (bodyOf fn_law_united) [1, 1, 1, 1, 0, 1, 0, 0]) :: law_united_L0) (law_united_S0 x0 x1 x2 x3 x4 x5 x6 x7 x8 x9 x10 x11) := rfl

set_option maxHeartbeats 4000000 in
theorem run_law_united  (K : V → List Blk → Prop) (hK : K (.one (.dat .bool true)) []) : ∃ m, goD Γ_law_united tab fn_law_united 0 K m [.code (bodyOf fn_law_united)] (initSt [] []) := by
  refine ⟨5, ?_⟩
  have e : goD Γ_law_united tab fn_law_united 0 K 5 [.code (bodyOf fn_law_united)] (initSt [] []) = (((0 : Int) ≤ 0 ∧ (0 : Int) < 3) ∧ 0 < 3 ∧ simpleB.length ≤ 140737488355328 ∧ (0 + 0) * 72 ≤ 140737488355328 ∧
      ((0 : Int) ≤ 1 ∧ (1 : Int) < 3) ∧ 1 < 3 ∧ simpleB.length ≤ 140737488355328 ∧ (0 + 1) * 72 ≤ 140737488355328 ∧
      ((0 : Int) ≤ 2 ∧ (2 : Int) < 3) ∧ 2 < 3 ∧ simpleB.length ≤ 140737488355328 ∧ (1 + 1) * 72 ≤ 140737488355328 ∧
      2 ≤ 140737488355328 ∧ ((0 : Int) ≤ 0 ∧ (0 : Int) < 2) ∧ 0 < 2 ∧ ((0 : Int) ≤ 1 ∧ (1 : Int) < 2) ∧ 1 < 2 ∧ K (.one (.dat .bool true)) []) := by kernel_rfl
  rw [e]
  exact ⟨by omega, by omega, by decide, by omega, by omega, by omega, by decide, by omega, by omega, by omega, by decide, by omega, by omega, by omega, by omega, by omega, by omega, hK⟩
theorem sound_law_united : SoundC Tryd.prog tab n_law_united c_law_united := soundC_of ok_law_united hf_law_united hB_law_united (by
  intro vs bs p v bs' h hp
  unfold c_law_united at h
  split at h
  · cases h
    exact ⟨by kernel_rfl, rfl, .inl (run_law_united  _ ⟨rfl, rfl⟩)⟩
  · cases h)

def c_ref_SameMessages_1 : Contract := fun vs bs => match vs, bs with
  | [.agg [.dat .int mk, .dat .int mu, .dat .int mn, .dat .int ma, .dat .int mi, .dat (.list .int) mw, .dat .bool my], .agg [.dat .int qk, .dat .int qu, .dat .int qn, .dat .int qa, .dat .int qi, .dat (.list .int) qw, .dat .bool qy]], [] => some (some (Sm mw), .one (.dat .bool (sameMsg ⟨mk, mu, mn, ma, mi, mw, my⟩ ⟨qk, qu, qn, qa, qi, qw, qy⟩)), [])
  | _, _ => none
def Γ_ref_SameMessages_1 : Ctx := [(n_slices_Equal_Lint, c_slices_Equal_Lint)]
theorem ok_ref_SameMessages_1 : Ok Tryd.prog tab Γ_ref_SameMessages_1 := (ok_nil.consC hf_slices_Equal_Lint hB_slices_Equal_Lint sound_slices_Equal_Lint)
theorem ref_SameMessages_1_vc (mk : Int) (mu : Int) (mn : Int) (ma : Int) (mi : Int) (mw : List Int) (my : Bool) (qk : Int) (qu : Int) (qn : Int) (qa : Int) (qi : Int) (qw : List Int) (qy : Bool) (rec : List It → St → Prop) (K : V → List Blk → Prop) v0 (hv0 : v0 = (eqIs mw qw)) : segD Γ_ref_SameMessages_1 tab fn_ref_SameMessages_1 0 K rec [.code (bodyOf fn_ref_SameMessages_1)] (initSt [.agg [.dat Ty.int mk, .dat Ty.int mu, .dat Ty.int mn, .dat Ty.int ma, .dat Ty.int mi, .dat (Ty.list Ty.int) mw, .dat Ty.bool my], .agg [.dat Ty.int qk, .dat Ty.int qu, .dat Ty.int qn, .dat Ty.int qa, .dat Ty.int qi, .dat (Ty.list Ty.int) qw, .dat Ty.bool qy]] []) = (
    br (eqi mk qk)
     (br (eqi mu qu)
       (br (eqi mn qn)
         (br (eqi ma qa)
           (br (eqi mi qi)
             (br (eqb my qy)
               (((List.length mw) ≤ 140737488355328) ∧
                (K (.one (.dat Ty.bool v0)) []))
               (K (.one (.dat Ty.bool false)) []))
             (K (.one (.dat Ty.bool false)) []))
           (K (.one (.dat Ty.bool false)) []))
         (K (.one (.dat Ty.bool false)) []))
       (K (.one (.dat Ty.bool false)) []))
     (K (.one (.dat Ty.bool false)) [])) := by subst hv0; kernel_rfl
theorem ref_SameMessages_1_w (mk : Int) (mu : Int) (mn : Int) (ma : Int) (mi : Int) (mw : List Int) (my : Bool) (qk : Int) (qu : Int) (qn : Int) (qa : Int) (qi : Int) (qw : List Int) (qy : Bool) (m : Nat) (K : V → List Blk → Prop) : goD Γ_ref_SameMessages_1 tab fn_ref_SameMessages_1 0 K (m + 1) [.code (bodyOf fn_ref_SameMessages_1)] (initSt [.agg [.dat Ty.int mk, .dat Ty.int mu, .dat Ty.int mn, .dat Ty.int ma, .dat Ty.int mi, .dat (Ty.list Ty.int) mw, .dat Ty.bool my], .agg [.dat Ty.int qk, .dat Ty.int qu, .dat Ty.int qn, .dat Ty.int qa, .dat Ty.int qi, .dat (Ty.list Ty.int) qw, .dat Ty.bool qy]] []) = segD Γ_ref_SameMessages_1 tab fn_ref_SameMessages_1 0 K (goD Γ_ref_SameMessages_1 tab fn_ref_SameMessages_1 0 K m) [.code (bodyOf fn_ref_SameMessages_1)] (initSt [.agg [.dat Ty.int mk, .dat Ty.int mu, .dat Ty.int mn, .dat Ty.int ma, .dat Ty.int mi, .dat (Ty.list Ty.int) mw, .dat Ty.bool my], .agg [.dat Ty.int qk, .dat Ty.int qu, .dat Ty.int qn, .dat Ty.int qa, .dat Ty.int qi, .dat (Ty.list Ty.int) qw, .dat Ty.bool qy]] []) := rfl

set_option maxHeartbeats 4000000 in
theorem run_ref_SameMessages_1 (mk mu mn ma mi : Int) (mw : List Int) (my : Bool)(qk qu qn qa qi : Int) (qw : List Int) (qy : Bool) (hp : Sm mw) (K : V → List Blk → Prop) (hK : K (.one (.dat .bool (sameMsg ⟨mk, mu, mn, ma, mi, mw, my⟩ ⟨qk, qu, qn, qa, qi, qw, qy⟩))) []) : ∃ m, goD Γ_ref_SameMessages_1 tab fn_ref_SameMessages_1 0 K m [.code (bodyOf fn_ref_SameMessages_1)] (initSt [.agg [.dat .int mk, .dat .int mu, .dat .int mn, .dat .int ma, .dat .int mi, .dat (.list .int) mw, .dat .bool my], .agg [.dat .int qk, .dat .int qu, .dat .int qn, .dat .int qa, .dat .int qi, .dat (.list .int) qw, .dat .bool qy]] []) := by
  refine ⟨1, ?_⟩
  rw [ref_SameMessages_1_w, ref_SameMessages_1_vc _ _ _ _ _ _ _ _ _ _ _ _ _ _ _ _ _ rfl]
  unfold sameMsg at hK
  simp only at hK
  refine br_split (fun h1 => br_split (fun h2 => br_split (fun h3 => br_split (fun h4 => br_split (fun h5 => br_split (fun h6 => ⟨hp, ?_⟩) (fun h6 => ?_)) (fun h5 => ?_)) (fun h4 => ?_)) (fun h3 => ?_)) (fun h2 => ?_)) (fun h1 => ?_)
  · rw [h1, h2, h3, h4, h5, h6] at hK; exact hK
  · rw [h1, h2, h3, h4, h5, h6] at hK; exact hK
  · rw [h1, h2, h3, h4, h5] at hK; exact hK
  · rw [h1, h2, h3, h4] at hK; exact hK
  · rw [h1, h2, h3] at hK; exact hK
  · rw [h1, h2] at hK; exact hK
  · rw [h1] at hK; exact hK
theorem sound_ref_SameMessages_1 : SoundC Tryd.prog tab n_ref_SameMessages_1 c_ref_SameMessages_1 := soundC_of ok_ref_SameMessages_1 hf_ref_SameMessages_1 hB_ref_SameMessages_1 (by
  intro vs bs p v bs' h hp
  unfold c_ref_SameMessages_1 at h
  split at h
  · cases h
    exact ⟨by kernel_rfl, rfl, .inl (run_ref_SameMessages_1 _ _ _ _ _ _ _ _ _ _ _ _ _ _ hp.1 _ ⟨rfl, rfl⟩)⟩
  · cases h)

def c_slices_EqualFunc_LMessage : Contract := fun vs bs => match vs, bs with
  | [.one (.dat (.list .message) a), .one (.dat (.list .message) b), .one (.fn f [])], [] => (match Nat.beq f n_ref_SameMessages_1 with | true => some (some (a.length ≤ 140737488355328 ∧ smM a = true), .one (.dat .bool (sameMsgs a b)), []) | false => none)
  | _, _ => none
def Γ_slices_EqualFunc_LMessage : Ctx := [(n_ref_SameMessages_1, c_ref_SameMessages_1)]
theorem ok_slices_EqualFunc_LMessage : Ok Tryd.prog tab Γ_slices_EqualFunc_LMessage := (ok_nil.consC hf_ref_SameMessages_1 hB_ref_SameMessages_1 sound_ref_SameMessages_1)
noncomputable def slices_EqualFunc_LMessage_0_L0 : List It := [.inLoop [17, 16, 15, 6, 1, 2] (Code.sub (bodyOf fn_slices_EqualFunc_LMessage) [1, 1, 0, 1, 0, 0]), .inBlock 0, .code (Code.sub (bodyOf fn_slices_EqualFunc_LMessage) [1, 1, 1])]
def slices_EqualFunc_LMessage_0_S0 (x0 : Int) (x1 : Int) (x2 : (List Vm.Message)) (x3 : Bool) (x4 : (List Vm.Message)) : St := ⟨[(17, .one (.dat Ty.int x0)), (16, .one (.dat Ty.int x1)), (15, .one (.dat (Ty.list Ty.message) x2)), (6, .one (.dat Ty.bool x3)), (1, .one (.dat (Ty.list Ty.message) x4)), (2, .one (.fn n_ref_SameMessages_1 []))], [], 0⟩
theorem slices_EqualFunc_LMessage_0_vc (a : List Message) (b : List Message) (rec : List It → St → Prop) (K : V → List Blk → Prop) : segD Γ_slices_EqualFunc_LMessage tab fn_slices_EqualFunc_LMessage 0 K rec [.code (bodyOf fn_slices_EqualFunc_LMessage)] (initSt [.one (.dat (Ty.list Ty.message) a), .one (.dat (Ty.list Ty.message) b), .one (.fn n_ref_SameMessages_1 [])] []) = (
    br (!(eqi (((len a) : Nat) : Int) (((len b) : Nat) : Int)))
     (K (.one (.dat Ty.bool false)) [])
     (rec slices_EqualFunc_LMessage_0_L0 (slices_EqualFunc_LMessage_0_S0 (0 : Int) (((len a) : Nat) : Int) a false b))) := by kernel_rfl
theorem slices_EqualFunc_LMessage_0_w (a : List Message) (b : List Message) (m : Nat) (K : V → List Blk → Prop) : goD Γ_slices_EqualFunc_LMessage tab fn_slices_EqualFunc_LMessage 0 K (m + 1) [.code (bodyOf fn_slices_EqualFunc_LMessage)] (initSt [.one (.dat (Ty.list Ty.message) a), .one (.dat (Ty.list Ty.message) b), .one (.fn n_ref_SameMessages_1 [])] []) = segD Γ_slices_EqualFunc_LMessage tab fn_slices_EqualFunc_LMessage 0 K (goD Γ_slices_EqualFunc_LMessage tab fn_slices_EqualFunc_LMessage 0 K m) [.code (bodyOf fn_slices_EqualFunc_LMessage)] (initSt [.one (.dat (Ty.list Ty.message) a), .one (.dat (Ty.list Ty.message) b), .one (.fn n_ref_SameMessages_1 [])] []) := rfl
theorem slices_EqualFunc_LMessage_0_vc0 (x0 : Int) (x1 : Int) (x2 : (List Vm.Message)) (x3 : Bool) (x4 : (List Vm.Message)) (rec : List It → St → Prop) (K : V → List Blk → Prop) v0 (hv0 : v0 = (sameMsg (⟨((nth x2 (Int.toNat x0) (Ty.dflt Ty.message))).kind, ((nth x2 (Int.toNat x0) (Ty.dflt Ty.message))).unit, ((nth x2 (Int.toNat x0) (Ty.dflt Ty.message))).n, ((nth x2 (Int.toNat x0) (Ty.dflt Ty.message))).at_, ((nth x2 (Int.toNat x0) (Ty.dflt Ty.message))).image, ((nth x2 (Int.toNat x0) (Ty.dflt Ty.message))).words, ((nth x2 (Int.toNat x0) (Ty.dflt Ty.message))).yes⟩ : Vm.Message) (⟨((nth x4 (Int.toNat x0) (Ty.dflt Ty.message))).kind, ((nth x4 (Int.toNat x0) (Ty.dflt Ty.message))).unit, ((nth x4 (Int.toNat x0) (Ty.dflt Ty.message))).n, ((nth x4 (Int.toNat x0) (Ty.dflt Ty.message))).at_, ((nth x4 (Int.toNat x0) (Ty.dflt Ty.message))).image, ((nth x4 (Int.toNat x0) (Ty.dflt Ty.message))).words, ((nth x4 (Int.toNat x0) (Ty.dflt Ty.message))).yes⟩ : Vm.Message))) : segD Γ_slices_EqualFunc_LMessage tab fn_slices_EqualFunc_LMessage 0 K rec (.code (Code.sub (bodyOf fn_slices_EqualFunc_LMessage) [1, 1, 0, 1, 0, 0]) :: slices_EqualFunc_LMessage_0_L0) (slices_EqualFunc_LMessage_0_S0 x0 x1 x2 x3 x4) = (
    br (lti x0 x1)
     ((((0 : Int) ≤ x0) ∧ (x0 < (((len x2) : Nat) : Int))) ∧
      ((((0 : Int) ≤ x0) ∧ (x0 < (((len x4) : Nat) : Int))) ∧
      (((List.length ((nth x2 (Int.toNat x0) (Ty.dflt Ty.message))).words) ≤ 140737488355328) ∧
      (br (!v0)
       (K (.one (.dat Ty.bool false)) [])
       (rec slices_EqualFunc_LMessage_0_L0 (slices_EqualFunc_LMessage_0_S0 (w64 (x0 + (1 : Int))) x1 x2 x3 x4))))))
     (K (.one (.dat Ty.bool true)) [])) := by subst hv0; kernel_rfl
theorem slices_EqualFunc_LMessage_0_w0 (x0 : Int) (x1 : Int) (x2 : (List Vm.Message)) (x3 : Bool) (x4 : (List Vm.Message)) (m : Nat) (K : V → List Blk → Prop) : goD Γ_slices_EqualFunc_LMessage tab fn_slices_EqualFunc_LMessage 0 K (m + 1) slices_EqualFunc_LMessage_0_L0 (slices_EqualFunc_LMessage_0_S0 x0 x1 x2 x3 x4) = segD Γ_slices_EqualFunc_LMessage tab fn_slices_EqualFunc_LMessage 0 K (goD Γ_slices_EqualFunc_LMessage tab fn_slices_EqualFunc_LMessage 0 K m) (.code (Code.sub (bodyOf fn_slices_EqualFunc_LMessage) [1, 1, 0, 1, 0, 0]) :: slices_EqualFunc_LMessage_0_L0) (slices_EqualFunc_LMessage_0_S0 x0 x1 x2 x3 x4) := rfl

theorem loop_slices_EqualFunc_LMessage_0 (a b : List Vm.Message) (hl : a.length = b.length) (hs : a.length ≤ 140737488355328) (hr : smM a = true) (K : V → List Blk → Prop) : ∀ (d k : Nat), k + d = a.length → K (.one (.dat .bool (sameMsgs (a.drop k) (b.drop k)))) [] →
    goD Γ_slices_EqualFunc_LMessage tab fn_slices_EqualFunc_LMessage 0 K (d + 1) slices_EqualFunc_LMessage_0_L0 (slices_EqualFunc_LMessage_0_S0 (k : Int) (((len a) : Nat) : Int) a false b)
  | 0, k, hk, hK => by
    rw [slices_EqualFunc_LMessage_0_w0, slices_EqualFunc_LMessage_0_vc0 _ _ _ _ _ _ _ _ rfl]
    refine lt_f (by simp only [len]; omega) ?_
    rw [List.drop_of_length_le (by omega), List.drop_of_length_le (by omega)] at hK
    exact hK
  | d + 1, k, hk, hK => by
    rw [slices_EqualFunc_LMessage_0_w0, slices_EqualFunc_LMessage_0_vc0 _ _ _ _ _ _ _ _ rfl, toNat_nat]
    have hm : nth a k (Ty.dflt .message) ∈ a := by
      have : k < a.length := by omega
      simp [nth, List.getD_eq_getElem?_getD, this]
    rw [drop_step (l := a) (by omega) (Ty.dflt .message), drop_step (l := b) (by omega) (Ty.dflt .message)] at hK
    simp only [sameMsgs] at hK
    refine lt_t (by simp only [len]; omega) ⟨⟨by omega, by simp only [len]; omega⟩, ⟨by omega, by simp only [len]; omega⟩, by simpa using List.all_eq_true.1 hr _ hm, nt_s (fun hne => ?_) (fun heq => ?_)⟩
    · rw [show sameMsg (nth a k (Ty.dflt .message)) (nth b k (Ty.dflt .message)) = false from hne] at hK
      exact hK
    · rw [w64_succ (by omega)]
      rw [show sameMsg (nth a k (Ty.dflt .message)) (nth b k (Ty.dflt .message)) = true from heq, Bool.true_and] at hK
      exact loop_slices_EqualFunc_LMessage_0 a b hl hs hr K d (k + 1) (by omega) hK
set_option maxHeartbeats 4000000 in
theorem run_slices_EqualFunc_LMessage_0 (a b : List Vm.Message) (hp : a.length ≤ 140737488355328 ∧ smM a = true) (K : V → List Blk → Prop) (hK : K (.one (.dat .bool (sameMsgs a b))) []) : ∃ m, goD Γ_slices_EqualFunc_LMessage tab fn_slices_EqualFunc_LMessage 0 K m [.code (bodyOf fn_slices_EqualFunc_LMessage)] (initSt [.one (.dat (.list .message) a), .one (.dat (.list .message) b), .one (.fn n_ref_SameMessages_1 [])] []) := by
  refine ⟨a.length + 2, ?_⟩
  rw [slices_EqualFunc_LMessage_0_w, slices_EqualFunc_LMessage_0_vc _ _ _ _]
  refine ne_s (fun h => ?_) (fun h => ?_)
  · rw [sameMsgs_len a b (by simp only [len] at h; omega)] at hK
    exact hK
  · exact loop_slices_EqualFunc_LMessage_0 a b (by simp only [len] at h; omega) hp.1 hp.2 K a.length 0 (by omega) hK
theorem sound_slices_EqualFunc_LMessage : SoundC Tryd.prog tab n_slices_EqualFunc_LMessage c_slices_EqualFunc_LMessage := soundC_of ok_slices_EqualFunc_LMessage hf_slices_EqualFunc_LMessage hB_slices_EqualFunc_LMessage (by
  intro vs bs p v bs' h hp
  unfold c_slices_EqualFunc_LMessage at h
  split at h
  · split at h
    · rename_i hfn
      have hfn := Nat.eq_of_beq_eq_true hfn
      subst hfn
      cases h
      exact ⟨by kernel_rfl, rfl, .inl (run_slices_EqualFunc_LMessage_0 _ _ hp.1 _ ⟨rfl, rfl⟩)⟩
    · cases h
  · cases h)

def c_ref_SameMessages : Contract := fun vs bs => match vs, bs with
  | [.one (.dat (.list .message) a), .one (.dat (.list .message) b)], [] => some (some (a.length ≤ 140737488355328 ∧ smM a = true), .one (.dat .bool (sameMsgs a b)), [])
  | _, _ => none
def Γ_ref_SameMessages : Ctx := [(n_slices_EqualFunc_LMessage, c_slices_EqualFunc_LMessage), (n_ref_SameMessages_1, c_ref_SameMessages_1)]
theorem ok_ref_SameMessages : Ok Tryd.prog tab Γ_ref_SameMessages := ((ok_nil.consC hf_ref_SameMessages_1 hB_ref_SameMessages_1 sound_ref_SameMessages_1).consC hf_slices_EqualFunc_LMessage hB_slices_EqualFunc_LMessage sound_slices_EqualFunc_LMessage)
theorem ref_SameMessages_vc (a : List Message) (b : List Message) (rec : List It → St → Prop) (K : V → List Blk → Prop) v0 (hv0 : v0 = (smM a)) v1 (hv1 : v1 = (sameMsgs a b)) : segD Γ_ref_SameMessages tab fn_ref_SameMessages 0 K rec [.code (bodyOf fn_ref_SameMessages)] (initSt [.one (.dat (Ty.list Ty.message) a), .one (.dat (Ty.list Ty.message) b)] []) = (
    (((List.length a) ≤ 140737488355328) ∧ (v0 = true)) ∧
    (K (.one (.dat Ty.bool v1)) [])) := by subst hv1; subst hv0; kernel_rfl
theorem ref_SameMessages_w (a : List Message) (b : List Message) (m : Nat) (K : V → List Blk → Prop) : goD Γ_ref_SameMessages tab fn_ref_SameMessages 0 K (m + 1) [.code (bodyOf fn_ref_SameMessages)] (initSt [.one (.dat (Ty.list Ty.message) a), .one (.dat (Ty.list Ty.message) b)] []) = segD Γ_ref_SameMessages tab fn_ref_SameMessages 0 K (goD Γ_ref_SameMessages tab fn_ref_SameMessages 0 K m) [.code (bodyOf fn_ref_SameMessages)] (initSt [.one (.dat (Ty.list Ty.message) a), .one (.dat (Ty.list Ty.message) b)] []) := rfl

set_option maxHeartbeats 4000000 in
theorem run_ref_SameMessages (a b : List Vm.Message) (hp : a.length ≤ 140737488355328 ∧ smM a = true) (K : V → List Blk → Prop) (hK : K (.one (.dat .bool (sameMsgs a b))) []) : ∃ m, goD Γ_ref_SameMessages tab fn_ref_SameMessages 0 K m [.code (bodyOf fn_ref_SameMessages)] (initSt [.one (.dat (.list .message) a), .one (.dat (.list .message) b)] []) := by
  refine ⟨1, ?_⟩
  rw [ref_SameMessages_w, ref_SameMessages_vc _ _ _ _ _ rfl _ rfl]
  exact ⟨hp, hK⟩
theorem sound_ref_SameMessages : SoundC Tryd.prog tab n_ref_SameMessages c_ref_SameMessages := soundC_of ok_ref_SameMessages hf_ref_SameMessages hB_ref_SameMessages (by
  intro vs bs p v bs' h hp
  unfold c_ref_SameMessages at h
  split at h
  · cases h
    exact ⟨by kernel_rfl, rfl, .inl (run_ref_SameMessages _ _ hp.1 _ ⟨rfl, rfl⟩)⟩
  · cases h)

def c_ref_SameFlash : Contract := fun vs bs => match vs, bs with
  | [.agg [.dat (.list .int) ws, .dat .int fu], .agg [.dat (.list .int) us, .dat .int fv]], [] => some (some (Sm ws), .one (.dat .bool (sameFlash ⟨ws, fu⟩ ⟨us, fv⟩)), [])
  | _, _ => none
def Γ_ref_SameFlash : Ctx := [(n_slices_Equal_Lint, c_slices_Equal_Lint)]
theorem ok_ref_SameFlash : Ok Tryd.prog tab Γ_ref_SameFlash := (ok_nil.consC hf_slices_Equal_Lint hB_slices_Equal_Lint sound_slices_Equal_Lint)
theorem ref_SameFlash_vc (ws : List Int) (fu : Int) (us : List Int) (fv : Int) (rec : List It → St → Prop) (K : V → List Blk → Prop) v0 (hv0 : v0 = (eqIs ws us)) : segD Γ_ref_SameFlash tab fn_ref_SameFlash 0 K rec [.code (bodyOf fn_ref_SameFlash)] (initSt [.agg [.dat (Ty.list Ty.int) ws, .dat Ty.int fu], .agg [.dat (Ty.list Ty.int) us, .dat Ty.int fv]] []) = (
    br (eqi fu fv)
     (((List.length ws) ≤ 140737488355328) ∧
      (K (.one (.dat Ty.bool v0)) []))
     (K (.one (.dat Ty.bool false)) [])) := by subst hv0; kernel_rfl
theorem ref_SameFlash_w (ws : List Int) (fu : Int) (us : List Int) (fv : Int) (m : Nat) (K : V → List Blk → Prop) : goD Γ_ref_SameFlash tab fn_ref_SameFlash 0 K (m + 1) [.code (bodyOf fn_ref_SameFlash)] (initSt [.agg [.dat (Ty.list Ty.int) ws, .dat Ty.int fu], .agg [.dat (Ty.list Ty.int) us, .dat Ty.int fv]] []) = segD Γ_ref_SameFlash tab fn_ref_SameFlash 0 K (goD Γ_ref_SameFlash tab fn_ref_SameFlash 0 K m) [.code (bodyOf fn_ref_SameFlash)] (initSt [.agg [.dat (Ty.list Ty.int) ws, .dat Ty.int fu], .agg [.dat (Ty.list Ty.int) us, .dat Ty.int fv]] []) := rfl

set_option maxHeartbeats 4000000 in
theorem run_ref_SameFlash (ws : List Int) (fu : Int) (us : List Int) (fv : Int) (hp : Sm ws) (K : V → List Blk → Prop) (hK : K (.one (.dat .bool (sameFlash ⟨ws, fu⟩ ⟨us, fv⟩))) []) : ∃ m, goD Γ_ref_SameFlash tab fn_ref_SameFlash 0 K m [.code (bodyOf fn_ref_SameFlash)] (initSt [.agg [.dat (.list .int) ws, .dat .int fu], .agg [.dat (.list .int) us, .dat .int fv]] []) := by
  refine ⟨1, ?_⟩
  rw [ref_SameFlash_w, ref_SameFlash_vc _ _ _ _ _ _ _ rfl]
  refine eq_s (fun h => ⟨hp, ?_⟩) (fun h => ?_)
  · rw [show sameFlash ⟨ws, fu⟩ ⟨us, fv⟩ = eqIs ws us from by simp [sameFlash, h]] at hK; exact hK
  · rw [show sameFlash ⟨ws, fu⟩ ⟨us, fv⟩ = false from by simp [sameFlash, h]] at hK; exact hK
theorem sound_ref_SameFlash : SoundC Tryd.prog tab n_ref_SameFlash c_ref_SameFlash := soundC_of ok_ref_SameFlash hf_ref_SameFlash hB_ref_SameFlash (by
  intro vs bs p v bs' h hp
  unfold c_ref_SameFlash at h
  split at h
  · cases h
    exact ⟨by kernel_rfl, rfl, .inl (run_ref_SameFlash _ _ _ _ hp.1 _ ⟨rfl, rfl⟩)⟩
  · cases h)

def c_ref_SameUnit : Contract := fun vs bs => match vs, bs with
  | [.agg [.dat (.list .int) ws, .dat .int fu, .dat .bool up, .dat .int un, .dat .int ug], .agg [.dat (.list .int) ws2, .dat .int fu2, .dat .bool up2, .dat .int un2, .dat .int ug2]], [] => some (some (Sm ws), .one (.dat .bool (sameUnit ⟨⟨ws, fu⟩, up, un, ug⟩ ⟨⟨ws2, fu2⟩, up2, un2, ug2⟩)), [])
  | _, _ => none
def Γ_ref_SameUnit : Ctx := [(n_ref_SameFlash, c_ref_SameFlash)]
theorem ok_ref_SameUnit : Ok Tryd.prog tab Γ_ref_SameUnit := (ok_nil.consC hf_ref_SameFlash hB_ref_SameFlash sound_ref_SameFlash)
theorem ref_SameUnit_vc (ws : List Int) (fu : Int) (up : Bool) (un : Int) (ug : Int) (ws2 : List Int) (fu2 : Int) (up2 : Bool) (un2 : Int) (ug2 : Int) (rec : List It → St → Prop) (K : V → List Blk → Prop) v0 (hv0 : v0 = (sameFlash (⟨ws, fu⟩ : Vm.Flash) (⟨ws2, fu2⟩ : Vm.Flash))) : segD Γ_ref_SameUnit tab fn_ref_SameUnit 0 K rec [.code (bodyOf fn_ref_SameUnit)] (initSt [.agg [.dat (Ty.list Ty.int) ws, .dat Ty.int fu, .dat Ty.bool up, .dat Ty.int un, .dat Ty.int ug], .agg [.dat (Ty.list Ty.int) ws2, .dat Ty.int fu2, .dat Ty.bool up2, .dat Ty.int un2, .dat Ty.int ug2]] []) = (
    ((List.length ws) ≤ 140737488355328) ∧
    (br v0
     (br (eqb up up2)
       (br (eqi un un2)
         (K (.one (.dat Ty.bool (eqi ug ug2))) [])
         (K (.one (.dat Ty.bool false)) []))
       (K (.one (.dat Ty.bool false)) []))
     (K (.one (.dat Ty.bool false)) []))) := by subst hv0; kernel_rfl
theorem ref_SameUnit_w (ws : List Int) (fu : Int) (up : Bool) (un : Int) (ug : Int) (ws2 : List Int) (fu2 : Int) (up2 : Bool) (un2 : Int) (ug2 : Int) (m : Nat) (K : V → List Blk → Prop) : goD Γ_ref_SameUnit tab fn_ref_SameUnit 0 K (m + 1) [.code (bodyOf fn_ref_SameUnit)] (initSt [.agg [.dat (Ty.list Ty.int) ws, .dat Ty.int fu, .dat Ty.bool up, .dat Ty.int un, .dat Ty.int ug], .agg [.dat (Ty.list Ty.int) ws2, .dat Ty.int fu2, .dat Ty.bool up2, .dat Ty.int un2, .dat Ty.int ug2]] []) = segD Γ_ref_SameUnit tab fn_ref_SameUnit 0 K (goD Γ_ref_SameUnit tab fn_ref_SameUnit 0 K m) [.code (bodyOf fn_ref_SameUnit)] (initSt [.agg [.dat (Ty.list Ty.int) ws, .dat Ty.int fu, .dat Ty.bool up, .dat Ty.int un, .dat Ty.int ug], .agg [.dat (Ty.list Ty.int) ws2, .dat Ty.int fu2, .dat Ty.bool up2, .dat Ty.int un2, .dat Ty.int ug2]] []) := rfl

set_option maxHeartbeats 4000000 in
theorem run_ref_SameUnit (ws : List Int) (fu : Int) (up : Bool) (un ug : Int)(ws2 : List Int) (fu2 : Int) (up2 : Bool) (un2 ug2 : Int) (hp : Sm ws) (K : V → List Blk → Prop) (hK : K (.one (.dat .bool (sameUnit ⟨⟨ws, fu⟩, up, un, ug⟩ ⟨⟨ws2, fu2⟩, up2, un2, ug2⟩))) []) : ∃ m, goD Γ_ref_SameUnit tab fn_ref_SameUnit 0 K m [.code (bodyOf fn_ref_SameUnit)] (initSt [.agg [.dat (.list .int) ws, .dat .int fu, .dat .bool up, .dat .int un, .dat .int ug], .agg [.dat (.list .int) ws2, .dat .int fu2, .dat .bool up2, .dat .int un2, .dat .int ug2]] []) := by
  refine ⟨1, ?_⟩
  rw [ref_SameUnit_w, ref_SameUnit_vc _ _ _ _ _ _ _ _ _ _ _ _ _ rfl]
  unfold sameUnit at hK
  simp only at hK
  refine ⟨hp, br_split (fun h1 => br_split (fun h2 => br_split (fun h3 => ?_) (fun h3 => ?_)) (fun h2 => ?_)) (fun h1 => ?_)⟩
  · rw [h1, h2, h3] at hK; exact hK
  · rw [h1, h2, h3] at hK; exact hK
  · rw [h1, h2] at hK; exact hK
  · rw [h1] at hK; exact hK
theorem sound_ref_SameUnit : SoundC Tryd.prog tab n_ref_SameUnit c_ref_SameUnit := soundC_of ok_ref_SameUnit hf_ref_SameUnit hB_ref_SameUnit (by
  intro vs bs p v bs' h hp
  unfold c_ref_SameUnit at h
  split at h
  · cases h
    exact ⟨by kernel_rfl, rfl, .inl (run_ref_SameUnit _ _ _ _ _ _ _ _ _ _ hp.1 _ ⟨rfl, rfl⟩)⟩
  · cases h)

def c_law_UnitTwice : Contract := fun vs bs => match vs, bs with
  | [.agg [.dat (.list .str) b], .agg [.dat (.list .int) _, .dat .int _, .dat .bool _, .dat .int _, .dat .int _], .agg [.dat .int _, .dat .int _, .dat .int _, .dat .int _, .dat .int _, .dat (.list .int) _, .dat .bool _]], [] => some (some (b.length ≤ 140737488355328), .one (.dat .bool true), [])
  | _, _ => none
def Γ_law_UnitTwice : Ctx := [(n_unit_Hear, c_unit_Hear), (n_law_united, c_law_united), (n_ref_SameMessages, c_ref_SameMessages), (n_ref_SameUnit, c_ref_SameUnit)]
theorem ok_law_UnitTwice : Ok Tryd.prog tab Γ_law_UnitTwice := ((((ok_nil.consC hf_ref_SameUnit hB_ref_SameUnit sound_ref_SameUnit).consC hf_ref_SameMessages hB_ref_SameMessages sound_ref_SameMessages).consC hf_law_united hB_law_united sound_law_united).consC hf_unit_Hear hB_unit_Hear sound_unit_Hear)
theorem law_UnitTwice_vc (b : List (List UInt8)) (ws : List Int) (fu : Int) (up : Bool) (un : Int) (ug : Int) (mk : Int) (mu : Int) (mn : Int) (ma : Int) (mi : Int) (mw : List Int) (my : Bool) (rec : List It → St → Prop) (K : V → List Blk → Prop) v0 (hv0 : v0 = (hearU b (⟨(⟨ws, (-(1 : Int))⟩ : Vm.Flash), up, un, ug⟩ : Vm.UnitD) (⟨mk, mu, mn, ma, mi, mw, my⟩ : Vm.Message))) v1 (hv1 : v1 = (hearU b (⟨(⟨((((v0).fst).fst).f).words, ((((v0).fst).fst).f).fuel⟩ : Vm.Flash), (((v0).fst).fst).up, (((v0).fst).fst).n, (((v0).fst).fst).got⟩ : Vm.UnitD) (⟨mk, mu, mn, ma, mi, mw, my⟩ : Vm.Message))) v2 (hv2 : v2 = (smM ((v0).fst).snd)) v3 (hv3 : v3 = (sameMsgs ((v0).fst).snd ((v1).fst).snd)) v4 (hv4 : v4 = (sameUnit (⟨(⟨((((v0).fst).fst).f).words, ((((v0).fst).fst).f).fuel⟩ : Vm.Flash), (((v0).fst).fst).up, (((v0).fst).fst).n, (((v0).fst).fst).got⟩ : Vm.UnitD) (⟨(⟨((((v1).fst).fst).f).words, ((((v1).fst).fst).f).fuel⟩ : Vm.Flash), (((v1).fst).fst).up, (((v1).fst).fst).n, (((v1).fst).fst).got⟩ : Vm.UnitD))) : segD Γ_law_UnitTwice tab fn_law_UnitTwice 0 K rec [.code (bodyOf fn_law_UnitTwice)] (initSt [.agg [.dat (Ty.list Ty.str) b], .agg [.dat (Ty.list Ty.int) ws, .dat Ty.int fu, .dat Ty.bool up, .dat Ty.int un, .dat Ty.int ug], .agg [.dat Ty.int mk, .dat Ty.int mu, .dat Ty.int mn, .dat Ty.int ma, .dat Ty.int mi, .dat (Ty.list Ty.int) mw, .dat Ty.bool my]] []) = (
    ((List.length b) ≤ 140737488355328) ∧
    (br (!(eqi (v0).snd (0 : Int)))
     (K (.one (.dat Ty.bool true)) [])
     (br (eqi (((len ((v0).fst).snd) : Nat) : Int) (0 : Int))
       (K (.one (.dat Ty.bool true)) [])
       (((List.length b) ≤ 140737488355328) ∧
        (br (!(eqi (v1).snd (0 : Int)))
         (K (.one (.dat Ty.bool false)) [])
         (br (eqi mk (2 : Int))
           ((((0 : Int) ≤ (0 : Int)) ∧ ((0 : Int) < (((len ((v0).fst).snd) : Nat) : Int))) ∧
            (br (!((nth ((v0).fst).snd (Int.toNat (0 : Int)) (Ty.dflt Ty.message))).yes)
             ((((0 : Int) ≤ (0 : Int)) ∧ ((0 : Int) < (((len ((v0).fst).snd) : Nat) : Int))) ∧
              (br (eqi ((nth ((v0).fst).snd (Int.toNat (0 : Int)) (Ty.dflt Ty.message))).kind (3 : Int))
               (br (eqi (((len ((v1).fst).snd) : Nat) : Int) (1 : Int))
                 ((((0 : Int) ≤ (0 : Int)) ∧ ((0 : Int) < (((len ((v1).fst).snd) : Nat) : Int))) ∧
                  (br (eqi ((nth ((v1).fst).snd (Int.toNat (0 : Int)) (Ty.dflt Ty.message))).kind (3 : Int))
                   ((((0 : Int) ≤ (0 : Int)) ∧ ((0 : Int) < (((len ((v1).fst).snd) : Nat) : Int))) ∧
                    (K (.one (.dat Ty.bool (!((nth ((v1).fst).snd (Int.toNat (0 : Int)) (Ty.dflt Ty.message))).yes))) []))
                   (K (.one (.dat Ty.bool false)) [])))
                 (K (.one (.dat Ty.bool false)) []))
               ((((List.length ((v0).fst).snd) ≤ 140737488355328) ∧ (v2 = true)) ∧
                (br v3
                 (((List.length ((((v0).fst).fst).f).words) ≤ 140737488355328) ∧
                  (K (.one (.dat Ty.bool v4)) []))
                 (K (.one (.dat Ty.bool false)) [])))))
             ((((List.length ((v0).fst).snd) ≤ 140737488355328) ∧ (v2 = true)) ∧
              (br v3
               (((List.length ((((v0).fst).fst).f).words) ≤ 140737488355328) ∧
                (K (.one (.dat Ty.bool v4)) []))
               (K (.one (.dat Ty.bool false)) [])))))
           ((((List.length ((v0).fst).snd) ≤ 140737488355328) ∧ (v2 = true)) ∧
            (br v3
             (((List.length ((((v0).fst).fst).f).words) ≤ 140737488355328) ∧
              (K (.one (.dat Ty.bool v4)) []))
             (K (.one (.dat Ty.bool false)) []))))))))) := by subst hv4; subst hv3; subst hv2; subst hv1; subst hv0; kernel_rfl
theorem law_UnitTwice_w (b : List (List UInt8)) (ws : List Int) (fu : Int) (up : Bool) (un : Int) (ug : Int) (mk : Int) (mu : Int) (mn : Int) (ma : Int) (mi : Int) (mw : List Int) (my : Bool) (m : Nat) (K : V → List Blk → Prop) : goD Γ_law_UnitTwice tab fn_law_UnitTwice 0 K (m + 1) [.code (bodyOf fn_law_UnitTwice)] (initSt [.agg [.dat (Ty.list Ty.str) b], .agg [.dat (Ty.list Ty.int) ws, .dat Ty.int fu, .dat Ty.bool up, .dat Ty.int un, .dat Ty.int ug], .agg [.dat Ty.int mk, .dat Ty.int mu, .dat Ty.int mn, .dat Ty.int ma, .dat Ty.int mi, .dat (Ty.list Ty.int) mw, .dat Ty.bool my]] []) = segD Γ_law_UnitTwice tab fn_law_UnitTwice 0 K (goD Γ_law_UnitTwice tab fn_law_UnitTwice 0 K m) [.code (bodyOf fn_law_UnitTwice)] (initSt [.agg [.dat (Ty.list Ty.str) b], .agg [.dat (Ty.list Ty.int) ws, .dat Ty.int fu, .dat Ty.bool up, .dat Ty.int un, .dat Ty.int ug], .agg [.dat Ty.int mk, .dat Ty.int mu, .dat Ty.int mn, .dat Ty.int ma, .dat Ty.int mi, .dat (Ty.list Ty.int) mw, .dat Ty.bool my]] []) := rfl

set_option maxHeartbeats 4000000 in
theorem run_law_UnitTwice (b : List (List UInt8)) (ws : List Int) (fu : Int) (up : Bool) (un ug : Int)(mk mu mn ma mi : Int) (mw : List Int) (my : Bool) (hp : b.length ≤ 140737488355328) (K : V → List Blk → Prop) (hK : K (.one (.dat .bool true)) []) : ∃ m, goD Γ_law_UnitTwice tab fn_law_UnitTwice 0 K m [.code (bodyOf fn_law_UnitTwice)] (initSt [.agg [.dat (.list .str) b], .agg [.dat (.list .int) ws, .dat .int fu, .dat .bool up, .dat .int un, .dat .int ug], .agg [.dat .int mk, .dat .int mu, .dat .int mn, .dat .int ma, .dat .int mi, .dat (.list .int) mw, .dat .bool my]] []) := by
  refine ⟨1, ?_⟩
  rw [law_UnitTwice_w, law_UnitTwice_vc _ _ _ _ _ _ _ _ _ _ _ _ _ _ _ _ rfl _ rfl _ rfl _ rfl _ rfl]
  refine ⟨hp, ne_s (fun _ => hK) (fun g => ?_)⟩
  obtain ⟨e, g2⟩ := hearU_ok g
  obtain ⟨cb, cu, cm⟩ := hearE_ok e
  obtain ⟨_, _, _, _, m1, m2, _⟩ := checkM_ok cm
  have cx := hears_right (b := b) cu cm
  have h2 := hears_twice (b := b) (m := ⟨mk, mu, mn, ma, mi, mw, my⟩) (okF_of cu) (okC_of cu) ⟨m1, m2⟩
  rw [g2]
  obtain ⟨z, hz⟩ : ∃ z, hearsU b ⟨⟨ws, -1⟩, up, un, ug⟩ ⟨mk, mu, mn, ma, mi, mw, my⟩ = z := ⟨_, rfl⟩
  rw [hz] at cx h2 ⊢
  obtain ⟨x, l⟩ := z
  simp only at cx h2 ⊢
  have ex : (⟨⟨x.f.words, x.f.fuel⟩, x.up, x.n, x.got⟩ : Vm.UnitD) = x := rfl
  rw [ex]
  rcases h2 with h2 | ⟨h2, h4⟩
  · subst h2
    exact eq_t rfl hK
  have h3 : hearU b x ⟨mk, mu, mn, ma, mi, mw, my⟩ = ((x, l), 0) := by rw [hearU_mk cb cx cm, h2]
  rw [h3]
  simp only
  rw [ex]
  have sm : smM l = true := by
    rcases h4 with rfl | ⟨y, rfl⟩
    · exact smM_done _
    · exact smM_vote _ _
  have l1 : l.length = 1 := by
    rcases h4 with rfl | ⟨y, rfl⟩ <;> rfl
  have wl : x.f.words.length ≤ 140737488355328 := by have := (okF_of cx).2; omega
  have tail : ((l.length ≤ 140737488355328) ∧ (smM l = true)) ∧ br (sameMsgs l l) ((x.f.words.length ≤ 140737488355328) ∧ (K (.one (.dat Ty.bool (sameUnit x x))) [])) (K (.one (.dat Ty.bool false)) []) := by
    refine ⟨⟨by omega, sm⟩, br_t (sameMsgs_refl l) ⟨wl, ?_⟩⟩
    rw [sameUnit_refl]; exact hK
  have ll : (len l : Int) = 1 := by simp [len, l1]
  refine eq_f (by omega) ⟨by omega, ne_f rfl (eq_s (fun _ => ⟨⟨by omega, by omega⟩, ?_⟩) (fun _ => tail))⟩
  rcases h4 with rfl | ⟨y, rfl⟩
  · exact nt_t rfl ⟨⟨by omega, by omega⟩, eq_f (show (6 : Int) ≠ 3 by decide) tail⟩
  · cases y
    · exact nt_t rfl ⟨⟨by omega, by omega⟩, eq_t rfl (eq_t (by omega) ⟨⟨by omega, by omega⟩, eq_t rfl ⟨⟨by omega, by omega⟩, hK⟩⟩)⟩
    · exact nt_f rfl tail
theorem sound_law_UnitTwice : SoundC Tryd.prog tab n_law_UnitTwice c_law_UnitTwice := soundC_of ok_law_UnitTwice hf_law_UnitTwice hB_law_UnitTwice (by
  intro vs bs p v bs' h hp
  unfold c_law_UnitTwice at h
  split at h
  · cases h
    exact ⟨by kernel_rfl, rfl, .inl (run_law_UnitTwice _ _ _ _ _ _ _ _ _ _ _ _ _ hp.1 _ ⟨rfl, rfl⟩)⟩
  · cases h)
end Go.Proofs.YtlbppjmekiemiabDoor
