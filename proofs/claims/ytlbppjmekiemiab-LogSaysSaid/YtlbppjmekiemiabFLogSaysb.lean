/- What the functions of LogSays compute (part 2 of 2). No condition. -/
import Derived.Test.YtlbppjmekiemiabFLogSaysa
import Derived.KernelRfl
namespace Go.Proofs.Ytlbppjmekiemiab
open Vm
def c_ref_Appended : Contract := fun vs bs => match vs, bs with
  | [.agg [.dat (.list .int) ws, .dat .int fu], .one (.dat (.list .int) r), .one (.dat (.list (.list .int)) keep)], [] => some (some (checkLog ⟨ws, fu⟩ = 0 ∧ Sm r ∧ len keep * 24 ≤ 140737488351232 ∧ smR keep = true), .tup [.agg [.dat (.list .int) (appendF ⟨ws, fu⟩ r keep).1.words, .dat .int (appendF ⟨ws, fu⟩ r keep).1.fuel], .one (.dat .int (appendF ⟨ws, fu⟩ r keep).2)], [])
  | _, _ => none
def Γ_ref_Appended : Ctx := [(n_ref_checkRecord, c_ref_checkRecord), (n_ref_counts, c_ref_counts), (n_ref_RecordsOf, (weakC c_ref_RecordsOf)), (n_ref_programs, c_ref_programs), (n_ref_erases, c_ref_erases), (n_slices_Concat_Lref_change, c_slices_Concat_Lref_change), (n_ref_Changed, c_ref_Changed)]
theorem ok_ref_Appended : Ok Try.prog tab Γ_ref_Appended := (((((((ok_nil.consC hf_ref_Changed hB_ref_Changed sound_ref_Changed).consC hf_slices_Concat_Lref_change hB_slices_Concat_Lref_change sound_slices_Concat_Lref_change).consC hf_ref_erases hB_ref_erases sound_ref_erases).consC hf_ref_programs hB_ref_programs sound_ref_programs).consC hf_ref_RecordsOf hB_ref_RecordsOf (soundC_weak sound_ref_RecordsOf)).consC hf_ref_counts hB_ref_counts sound_ref_counts).consC hf_ref_checkRecord hB_ref_checkRecord sound_ref_checkRecord)
noncomputable def ref_Appended_L0 : List It := [.inLoop [10, 9, 7, 6, 3, 1, 2] (Code.sub (bodyOf fn_ref_Appended) [1, 1, 1, 0, 1, 0, 0]), .inBlock 0, .code (Code.sub (bodyOf fn_ref_Appended) [1, 1, 1, 1])]
def ref_Appended_S0 (x0 : Int) (x1 : Int) (x2 : (List Int)) (x3 : (List (List Int))) (x4 : (List Int)) (x5 : Int) (x6 : (List Int)) (x7 : Int) (x8 : (List Int)) : St := ⟨[(10, .one (.dat Ty.int x0)), (9, .one (.own 0)), (7, .one (.dat Ty.int x1)), (6, .one (.ptr 1 0)), (3, .one (.ptr 2 0)), (1, .one (.dat (Ty.list Ty.int) x2)), (2, .one (.dat (Ty.list (Ty.list Ty.int)) x3))], [(0, .arr Ty.int x4), (1, .box [.own 3, .dat Ty.int x5]), (2, .box [.dat (Ty.list Ty.int) x6, .dat Ty.int x7]), (3, .arr Ty.int x8)], 4⟩
theorem ref_Appended_vc (ws : List Int) (fu : Int) (r : List Int) (keep : List (List Int)) (rec : List It → St → Prop) (K : V → List Blk → Prop) v0 (hv0 : v0 = (checkRec r)) : segD Γ_ref_Appended tab fn_ref_Appended 0 K rec [.code (bodyOf fn_ref_Appended)] (initSt [.agg [.dat (Ty.list Ty.int) ws, .dat Ty.int fu], .one (.dat (Ty.list Ty.int) r), .one (.dat (Ty.list (Ty.list Ty.int)) keep)] []) = (
    ((List.length r) ≤ 140737488355328) ∧
    (br (!(eqi v0 (0 : Int)))
     (K (.tup [.agg [.dat (Ty.list Ty.int) [], .dat Ty.int (0 : Int)], .one (.dat Ty.int v0)]) [])
     (rec ref_Appended_L0 (ref_Appended_S0 (0 : Int) (0 : Int) r keep [] (0 : Int) ws fu [])))) := by subst hv0; kernel_rfl
theorem ref_Appended_w (ws : List Int) (fu : Int) (r : List Int) (keep : List (List Int)) (m : Nat) (K : V → List Blk → Prop) : goD Γ_ref_Appended tab fn_ref_Appended 0 K (m + 1) [.code (bodyOf fn_ref_Appended)] (initSt [.agg [.dat (Ty.list Ty.int) ws, .dat Ty.int fu], .one (.dat (Ty.list Ty.int) r), .one (.dat (Ty.list (Ty.list Ty.int)) keep)] []) = segD Γ_ref_Appended tab fn_ref_Appended 0 K (goD Γ_ref_Appended tab fn_ref_Appended 0 K m) [.code (bodyOf fn_ref_Appended)] (initSt [.agg [.dat (Ty.list Ty.int) ws, .dat Ty.int fu], .one (.dat (Ty.list Ty.int) r), .one (.dat (Ty.list (Ty.list Ty.int)) keep)] []) := rfl
theorem ref_Appended_vc0 (x0 : Int) (x1 : Int) (x2 : (List Int)) (x3 : (List (List Int))) (x4 : (List Int)) (x5 : Int) (x6 : (List Int)) (x7 : Int) (x8 : (List Int)) (rec : List It → St → Prop) (K : V → List Blk → Prop) v0 (hv0 : v0 = (checkRec (nth x3 (Int.toNat x0) (Ty.dflt (Ty.list Ty.int))))) v1 (hv1 : v1 = (checkRec x2)) v2 (hv2 : v2 = (okWords x6)) v3 (hv3 : v3 = (liveS x6)) v4 (hv4 : v4 = (scanS x6 v3)) v5 (hv5 : v5 = (nextI v3 (v4).snd)) v6 (hv6 : v6 = (burnCh (w64 (v5 + (1 : Int))) x2)) v7 (hv7 : v7 = (burnCh v5 ((w64 ((42240 : Int) + (((len x2) : Nat) : Int))) :: []))) v8 (hv8 : v8 = (inPlaces (List.length x6) (cat v6 v7))) v9 (hv9 : v9 = (doCh (⟨x6, x7⟩ : Flash) (cat v6 v7))) v10 (hv10 : v10 = (powerE (v9).snd)) v11 (hv11 : v11 = (liveG x6)) v12 (hv12 : v12 = (wipeCh (w64 ((1 : Int) - ((v3 : Nat) : Int))))) v13 (hv13 : v13 = (burnCh (w64 ((w64 ((32 : Int) * (w64 ((1 : Int) - ((v3 : Nat) : Int))))) + (1 : Int))) x4)) v14 (hv14 : v14 = (burnCh (w64 ((32 : Int) * (w64 ((1 : Int) - ((v3 : Nat) : Int))))) ((w64 (v11 + (1 : Int))) :: []))) v15 (hv15 : v15 = (joinCh (v12 :: (v13 :: (v14 :: []))))) v16 (hv16 : v16 = (inPlaces (List.length x6) v15)) v17 (hv17 : v17 = (doCh (⟨x6, x7⟩ : Flash) v15)) v18 (hv18 : v18 = (powerE (v17).snd)) : segD Γ_ref_Appended tab fn_ref_Appended 0 K rec (.code (Code.sub (bodyOf fn_ref_Appended) [1, 1, 1, 0, 1, 0, 0]) :: ref_Appended_L0) (ref_Appended_S0 x0 x1 x2 x3 x4 x5 x6 x7 x8) = (
    br (lei x0 (((len x3) : Nat) : Int))
     (br (lti x0 (((len x3) : Nat) : Int))
       ((((0 : Int) ≤ x0) ∧ (x0 < (((len x3) : Nat) : Int))) ∧
        (((List.length (nth x3 (Int.toNat x0) (Ty.dflt (Ty.list Ty.int)))) ≤ 140737488355328) ∧
        (br (!(eqi v0 (0 : Int)))
         (K (.tup [.agg [.dat (Ty.list Ty.int) [], .dat Ty.int (0 : Int)], .one (.dat Ty.int v0)]) [])
         (((((len x4) + (len ((w64 ((42240 : Int) + (((len (nth x3 (Int.toNat x0) (Ty.dflt (Ty.list Ty.int)))) : Nat) : Int))) :: []))) * 8) ≤ 140737488355328) ∧
          (((((len (cat x4 ((w64 ((42240 : Int) + (((len (nth x3 (Int.toNat x0) (Ty.dflt (Ty.list Ty.int)))) : Nat) : Int))) :: []))) + (len (nth x3 (Int.toNat x0) (Ty.dflt (Ty.list Ty.int))))) * 8) ≤ 140737488355328) ∧
          (br (lti (31 : Int) (((len (cat (cat x4 ((w64 ((42240 : Int) + (((len (nth x3 (Int.toNat x0) (Ty.dflt (Ty.list Ty.int)))) : Nat) : Int))) :: [])) (nth x3 (Int.toNat x0) (Ty.dflt (Ty.list Ty.int))))) : Nat) : Int))
           (K (.tup [.agg [.dat (Ty.list Ty.int) [], .dat Ty.int (0 : Int)], .one (.dat Ty.int (8 : Int))]) [])
           (rec ref_Appended_L0 (ref_Appended_S0 (w64 (x0 + (1 : Int))) x1 x2 x3 (cat (cat x4 ((w64 ((42240 : Int) + (((len (nth x3 (Int.toNat x0) (Ty.dflt (Ty.list Ty.int)))) : Nat) : Int))) :: [])) (nth x3 (Int.toNat x0) (Ty.dflt (Ty.list Ty.int)))) x5 x6 x7 x8))))))))
       (((List.length x2) ≤ 140737488355328) ∧
        (br (!(eqi v1 (0 : Int)))
         (K (.tup [.agg [.dat (Ty.list Ty.int) [], .dat Ty.int (0 : Int)], .one (.dat Ty.int v1)]) [])
         (((((len x4) + (len ((w64 ((42240 : Int) + (((len x2) : Nat) : Int))) :: []))) * 8) ≤ 140737488355328) ∧
          (((((len (cat x4 ((w64 ((42240 : Int) + (((len x2) : Nat) : Int))) :: []))) + (len x2)) * 8) ≤ 140737488355328) ∧
          (br (lti (31 : Int) (((len (cat (cat x4 ((w64 ((42240 : Int) + (((len x2) : Nat) : Int))) :: [])) x2)) : Nat) : Int))
           (K (.tup [.agg [.dat (Ty.list Ty.int) [], .dat Ty.int (0 : Int)], .one (.dat Ty.int (8 : Int))]) [])
           (rec ref_Appended_L0 (ref_Appended_S0 (w64 (x0 + (1 : Int))) x1 x2 x3 (cat (cat x4 ((w64 ((42240 : Int) + (((len x2) : Nat) : Int))) :: [])) x2) x5 x6 x7 x8))))))))
     ((64 ≤ (len x6)) ∧
      (((64 ≤ (len x6)) ∧ (((len x6) ≤ 192) ∧ (v2 = true))) ∧
      (br (lei (0 : Int) v5)
       (br (lei (w64 ((w64 (v5 + (1 : Int))) + (((len x2) : Nat) : Int))) (w64 ((w64 ((32 : Int) * ((v3 : Nat) : Int))) + (32 : Int))))
         ((((0 : Int) ≤ (w64 (v5 + (1 : Int)))) ∧ (((w64 (v5 + (1 : Int))) ≤ (1000 : Int)) ∧ ((len x2) ≤ 1000))) ∧
          ((((0 : Int) ≤ v5) ∧ ((v5 ≤ (1000 : Int)) ∧ ((len ((w64 ((42240 : Int) + (((len x2) : Nat) : Int))) :: [])) ≤ 1000))) ∧
          (((((len v6) + (len v7)) * 16) ≤ 140737488355328) ∧
          ((((len x6) ≤ 192) ∧ (((-(1 : Int)) ≤ x7) ∧ ((x7 ≤ (100000 : Int)) ∧ (((len (cat v6 v7)) ≤ 1000) ∧ (v8 = true))))) ∧
          (K (.tup [.agg [.dat (Ty.list Ty.int) ((v9).fst).words, .dat Ty.int ((v9).fst).fuel], .one (.dat Ty.int v10)]) [])))))
         (br (eqi v11 (60000 : Int))
           (K (.tup [.agg [.dat (Ty.list Ty.int) [], .dat Ty.int (0 : Int)], .one (.dat Ty.int (8 : Int))]) [])
           ((((0 : Int) ≤ (w64 ((1 : Int) - ((v3 : Nat) : Int)))) ∧ ((w64 ((1 : Int) - ((v3 : Nat) : Int))) ≤ (10 : Int))) ∧
            ((((0 : Int) ≤ (w64 ((w64 ((32 : Int) * (w64 ((1 : Int) - ((v3 : Nat) : Int))))) + (1 : Int)))) ∧ (((w64 ((w64 ((32 : Int) * (w64 ((1 : Int) - ((v3 : Nat) : Int))))) + (1 : Int))) ≤ (1000 : Int)) ∧ ((len x4) ≤ 1000))) ∧
            ((((0 : Int) ≤ (w64 ((32 : Int) * (w64 ((1 : Int) - ((v3 : Nat) : Int)))))) ∧ (((w64 ((32 : Int) * (w64 ((1 : Int) - ((v3 : Nat) : Int))))) ≤ (1000 : Int)) ∧ ((len ((w64 (v11 + (1 : Int))) :: [])) ≤ 1000))) ∧
            ((((List.length (v12 :: (v13 :: (v14 :: [])))) ≤ 10) ∧ ((List.length v15) ≤ 1000)) ∧
            ((((len x6) ≤ 192) ∧ (((-(1 : Int)) ≤ x7) ∧ ((x7 ≤ (100000 : Int)) ∧ (((len v15) ≤ 1000) ∧ (v16 = true))))) ∧
            (K (.tup [.agg [.dat (Ty.list Ty.int) ((v17).fst).words, .dat Ty.int ((v17).fst).fuel], .one (.dat Ty.int v18)]) []))))))))
       (br (eqi v11 (60000 : Int))
         (K (.tup [.agg [.dat (Ty.list Ty.int) [], .dat Ty.int (0 : Int)], .one (.dat Ty.int (8 : Int))]) [])
         ((((0 : Int) ≤ (w64 ((1 : Int) - ((v3 : Nat) : Int)))) ∧ ((w64 ((1 : Int) - ((v3 : Nat) : Int))) ≤ (10 : Int))) ∧
          ((((0 : Int) ≤ (w64 ((w64 ((32 : Int) * (w64 ((1 : Int) - ((v3 : Nat) : Int))))) + (1 : Int)))) ∧ (((w64 ((w64 ((32 : Int) * (w64 ((1 : Int) - ((v3 : Nat) : Int))))) + (1 : Int))) ≤ (1000 : Int)) ∧ ((len x4) ≤ 1000))) ∧
          ((((0 : Int) ≤ (w64 ((32 : Int) * (w64 ((1 : Int) - ((v3 : Nat) : Int)))))) ∧ (((w64 ((32 : Int) * (w64 ((1 : Int) - ((v3 : Nat) : Int))))) ≤ (1000 : Int)) ∧ ((len ((w64 (v11 + (1 : Int))) :: [])) ≤ 1000))) ∧
          ((((List.length (v12 :: (v13 :: (v14 :: [])))) ≤ 10) ∧ ((List.length v15) ≤ 1000)) ∧
          ((((len x6) ≤ 192) ∧ (((-(1 : Int)) ≤ x7) ∧ ((x7 ≤ (100000 : Int)) ∧ (((len v15) ≤ 1000) ∧ (v16 = true))))) ∧
          (K (.tup [.agg [.dat (Ty.list Ty.int) ((v17).fst).words, .dat Ty.int ((v17).fst).fuel], .one (.dat Ty.int v18)]) []))))))))))) := by subst hv18; subst hv17; subst hv16; subst hv15; subst hv14; subst hv13; subst hv12; subst hv11; subst hv10; subst hv9; subst hv8; subst hv7; subst hv6; subst hv5; subst hv4; subst hv3; subst hv2; subst hv1; subst hv0; kernel_rfl
theorem ref_Appended_w0 (x0 : Int) (x1 : Int) (x2 : (List Int)) (x3 : (List (List Int))) (x4 : (List Int)) (x5 : Int) (x6 : (List Int)) (x7 : Int) (x8 : (List Int)) (m : Nat) (K : V → List Blk → Prop) : goD Γ_ref_Appended tab fn_ref_Appended 0 K (m + 1) ref_Appended_L0 (ref_Appended_S0 x0 x1 x2 x3 x4 x5 x6 x7 x8) = segD Γ_ref_Appended tab fn_ref_Appended 0 K (goD Γ_ref_Appended tab fn_ref_Appended 0 K m) (.code (Code.sub (bodyOf fn_ref_Appended) [1, 1, 1, 0, 1, 0, 0]) :: ref_Appended_L0) (ref_Appended_S0 x0 x1 x2 x3 x4 x5 x6 x7 x8) := rfl

theorem nth_snoc (keep : List (List Int)) (r : List Int) (k : Nat) (d : List Int) (h : k ≤ keep.length) : nth (keep ++ [r]) k d = if k < keep.length then nth keep k d else r := by
  unfold nth
  simp only [List.getD_eq_getElem?_getD]
  by_cases c : k < keep.length
  · rw [if_pos c, List.getElem?_append_left c]
  · have : k = keep.length := by omega
    subst this
    rw [if_neg c]; simp
theorem loop_ref_Appended (ws r : List Int) (fu : Int) (keep : List (List Int)) (hl : keep.length ≤ 5864062014806) (hs : smR keep = true) (hr : r.length ≤ 140737488355328) (K : V → List Blk → Prop)
    (hbad : ∀ e, e ≠ 0 → gather 0 (keep ++ [r]) = e → K (.tup [.agg [.dat (.list .int) [], .dat .int 0], .one (.dat .int e)]) [])
    (hend : ∀ M, gather 0 (keep ++ [r]) = 0 → (allW (keep ++ [r])).length ≤ 31 → goD Γ_ref_Appended tab fn_ref_Appended 0 K (M + 1) ref_Appended_L0 (ref_Appended_S0 (((keep.length + 1 : Nat) : Int)) 0 r keep (allW (keep ++ [r])) 0 ws fu [])) :
    ∀ (d k : Nat), keep.length + 1 ≤ k + d → k ≤ keep.length + 1 → (allW ((keep ++ [r]).take k)).length ≤ 31 → gather 0 (keep ++ [r]) = gather (allW ((keep ++ [r]).take k)).length ((keep ++ [r]).drop k) →
    goD Γ_ref_Appended tab fn_ref_Appended 0 K (d + 1) ref_Appended_L0 (ref_Appended_S0 (k : Int) 0 r keep (allW ((keep ++ [r]).take k)) 0 ws fu [])
  | 0, k, hk, hk2, ha, hg => by
    have : k = keep.length + 1 := by omega
    subst this
    rw [List.take_of_length_le (by simp)] at ha hg ⊢
    rw [List.drop_of_length_le (by simp)] at hg
    exact hend 0 hg ha
  | d + 1, k, hk, hk2, ha, hg => by
    by_cases c : k = keep.length + 1
    · subst c
      rw [List.take_of_length_le (by simp)] at ha hg ⊢
      rw [List.drop_of_length_le (by simp)] at hg
      exact hend (d + 1) hg ha
    have hlen : (keep ++ [r]).length = keep.length + 1 := by simp
    have ht := take_step (l := keep ++ [r]) (k := k) (by omega) (Ty.dflt (.list .int))
    rw [drop_step (by omega) (Ty.dflt (.list .int))] at hg
    have hn := nth_snoc keep r k (Ty.dflt (.list .int)) (by omega)
    obtain ⟨x, hx⟩ : ∃ x, nth (keep ++ [r]) k (Ty.dflt (.list .int)) = x := ⟨_, rfl⟩
    rw [hx] at ht hg hn
    simp only [gather] at hg
    have ek : w64 ((k : Int) + 1) = ((k + 1 : Nat) : Int) := w64_succ (by omega)
    -- one round, whichever record it is
    have body : ((checkRec x ≠ 0 → K (.tup [.agg [.dat (.list .int) [], .dat .int 0], .one (.dat .int (checkRec x))]) [])) ∧ (checkRec x = 0 →
        ((((len (allW ((keep ++ [r]).take k))) + (len ((w64 ((42240 : Int) + (((len x) : Nat) : Int))) :: []))) * 8) ≤ 140737488355328) ∧
        ((((len (cat (allW ((keep ++ [r]).take k)) ((w64 ((42240 : Int) + (((len x) : Nat) : Int))) :: []))) + (len x)) * 8) ≤ 140737488355328) ∧
        (br (lti (31 : Int) (((len (cat (cat (allW ((keep ++ [r]).take k)) ((w64 ((42240 : Int) + (((len x) : Nat) : Int))) :: [])) x)) : Nat) : Int))
           (K (.tup [.agg [.dat (Ty.list Ty.int) [], .dat Ty.int (0 : Int)], .one (.dat Ty.int (8 : Int))]) [])
           (goD Γ_ref_Appended tab fn_ref_Appended 0 K (d + 1) ref_Appended_L0 (ref_Appended_S0 (w64 ((k : Int) + (1 : Int))) 0 r keep (cat (cat (allW ((keep ++ [r]).take k)) ((w64 ((42240 : Int) + (((len x) : Nat) : Int))) :: [])) x) 0 ws fu [])))) := by
      refine ⟨fun h1 => ?_, fun h1 => ?_⟩
      · rw [if_neg h1] at hg
        exact hbad _ h1 hg
      · rw [if_pos h1] at hg
        obtain ⟨r1, r2, r3⟩ := checkRec_ok h1
        have ew : w64 (42240 + (((len x) : Nat) : Int)) = 42240 + (x.length : Int) := w64_id (by simp only [len]; omega) (by simp only [len]; omega)
        rw [ew, ek]
        have e : cat (cat (allW ((keep ++ [r]).take k)) [42240 + (x.length : Int)]) x = allW ((keep ++ [r]).take (k + 1)) := by rw [ht, allW_snoc]; simp [cat, recW]
        have el : (allW ((keep ++ [r]).take (k + 1))).length = (allW ((keep ++ [r]).take k)).length + 1 + x.length := by rw [ht, allW_snoc, List.length_append, recW_len]; omega
        rw [e]
        refine ⟨by simp only [len, List.length_cons, List.length_nil]; omega, by simp only [len, cat, List.length_append, List.length_cons, List.length_nil]; omega, lt_s (fun h2 => ?_) (fun h2 => ?_)⟩
        · simp only [len] at h2
          rw [if_neg (by omega)] at hg
          exact hbad 8 (by decide) hg
        · simp only [len] at h2
          rw [if_pos (by omega)] at hg
          exact loop_ref_Appended ws r fu keep hl hs hr K hbad hend d (k + 1) (by omega) (by omega) (by omega) (by rw [hg, el])
    rw [ref_Appended_w0, ref_Appended_vc0 _ _ _ _ _ _ _ _ _ _ _ _ rfl _ rfl _ rfl _ rfl _ rfl _ rfl _ rfl _ rfl _ rfl _ rfl _ rfl _ rfl _ rfl _ rfl _ rfl _ rfl _ rfl _ rfl _ rfl, toNat_nat]
    refine br_t (lei_true.2 (by simp only [len]; omega)) (lt_s (fun h0 => ?_) (fun h0 => ?_))
    · simp only [len] at h0
      rw [if_pos (by omega)] at hn
      have hm : nth keep k (Ty.dflt (.list .int)) ∈ keep := by
        have : k < keep.length := by omega
        simp [nth, List.getD_eq_getElem?_getD, this]
      have hsm := List.all_eq_true.1 hs _ hm
      simp only [decide_eq_true_eq] at hsm
      rw [← hn] at hsm ⊢
      exact ⟨⟨by omega, by simp only [len]; omega⟩, hsm, ne_s body.1 body.2⟩
    · simp only [len] at h0
      rw [if_neg (by omega)] at hn
      rw [← hn] at hr body hbad hend ⊢
      exact ⟨hr, ne_s body.1 body.2⟩
set_option maxHeartbeats 4000000 in
theorem run_ref_Appended (ws : List Int) (fu : Int) (r : List Int) (keep : List (List Int)) (hp : checkLog ⟨ws, fu⟩ = 0 ∧ Sm r ∧ len keep * 24 ≤ 140737488351232 ∧ smR keep = true) (K : V → List Blk → Prop) (hK : K (.tup [.agg [.dat (.list .int) (appendF ⟨ws, fu⟩ r keep).1.words, .dat .int (appendF ⟨ws, fu⟩ r keep).1.fuel], .one (.dat .int (appendF ⟨ws, fu⟩ r keep).2)]) []) : ∃ m, goD Γ_ref_Appended tab fn_ref_Appended 0 K m [.code (bodyOf fn_ref_Appended)] (initSt [.agg [.dat (.list .int) ws, .dat .int fu], .one (.dat (.list .int) r), .one (.dat (.list (.list .int)) keep)] []) := by
  obtain ⟨hc, hr, hk1, hk2⟩ := hp
  have hk3 : keep.length * 24 ≤ 140737488351232 := hk1
  unfold Sm at hr
  refine ⟨keep.length + 1 + 1 + 1, ?_⟩
  rw [ref_Appended_w, ref_Appended_vc _ _ _ _ _ _ _ rfl]
  unfold appendF appendE at hK
  rw [if_pos hc] at hK
  refine ⟨hr, ne_s (fun h2 => ?_) (fun h2 => ?_)⟩
  · rw [if_neg h2, if_neg h2] at hK; exact hK
  rw [if_pos h2] at hK
  obtain ⟨k1, k2, k3, k4⟩ := checkLog_ok hc
  obtain ⟨c1, c2, c3, c4⟩ := checkFlash_ok k1
  obtain ⟨c5, c6⟩ := okLen_le c1
  simp only at k2 k3 k4 c2 c3 c4 c5 c6
  obtain ⟨r1, r2, r3⟩ := checkRec_ok h2
  have e0 : allW ((keep ++ [r]).take 0) = [] := by simp [allW]
  have l0 : (allW ((keep ++ [r]).take 0)).length = 0 := by rw [e0]; rfl
  refine loop_ref_Appended ws r fu keep (by omega) hk2 hr K (fun e he hg => ?_) (fun M hg hal => ?_) (keep.length + 1) 0 (by omega) (by omega) (by omega) (by rw [l0, List.drop_zero])
  · rw [hg, if_neg he] at hK; exact hK
  obtain ⟨rs, hrs⟩ : ∃ rs, keep ++ [r] = rs := ⟨_, rfl⟩
  simp only [hrs] at hg hal hK ⊢
  rw [hg, if_pos rfl] at hK
  rw [ref_Appended_w0, ref_Appended_vc0 _ _ _ _ _ _ _ _ _ _ _ _ rfl _ rfl _ rfl _ rfl _ rfl _ rfl _ rfl _ rfl _ rfl _ rfl _ rfl _ rfl _ rfl _ rfl _ rfl _ rfl _ rfl _ rfl _ rfl]
  unfold appendCh at hK
  simp only [hrs] at hK
  have hls := liveS_le ws
  have hgr := genOf_range c4 (liveS ws)
  have hg1 : liveG ws = genOf ws (liveS ws) := rfl
  obtain ⟨s, hs⟩ : ∃ s, liveS ws = s := ⟨_, rfl⟩
  rw [hs] at hK hls ⊢
  obtain ⟨g, hgg⟩ : ∃ g, liveG ws = g := ⟨_, rfl⟩
  rw [hgg] at hK hg1 k3 k4 ⊢
  have ew : w64 (42240 + (((len r) : Nat) : Int)) = 42240 + (r.length : Int) := w64_id (by simp only [len]; omega) (by simp only [len]; omega)
  rw [ew, w64_id (n := 32 * (s : Int)) (by omega) (by omega), w64_id (n := 32 * (s : Int) + 32) (by omega) (by omega), w64_id (n := 1 - (s : Int)) (by omega) (by omega), w64_id (n := 32 * (1 - (s : Int))) (by omega) (by omega), w64_id (n := 32 * (1 - (s : Int)) + 1) (by omega) (by omega), w64_id (n := g + 1) (by omega) (by omega)]
  have ho : 1 - (s : Int) = ((1 - s : Nat) : Int) := by omega
  rw [ho]
  have ej : joinCh [wipeCh ((1 - s : Nat) : Int), burnCh (32 * ((1 - s : Nat) : Int) + 1) (allW rs), burnCh (32 * ((1 - s : Nat) : Int)) [g + 1]] = thereCh (1 - s) rs (g + 1) := by simp [joinCh, thereCh]
  rw [ej]
  have lth : (thereCh (1 - s) rs (g + 1)).length ≤ 64 := by
    unfold thereCh wipeCh
    rw [List.length_append, List.length_append, wipeFrom_len, burnCh_len, burnCh_len, List.length_singleton]; omega
  have inth : inPlaces ws.length (thereCh (1 - s) rs (g + 1)) = true := by
    have a1 := wipe_in ws.length 32 (32 * ((1 - s : Nat) : Int)) (by omega) (by omega)
    have a2 := burn_in ws.length (allW rs) (32 * ((1 - s : Nat) : Int) + 1) (by omega) (by omega)
    have a3 := burn_in ws.length [g + 1] (32 * ((1 - s : Nat) : Int)) (by omega) (by simp only [List.length_cons, List.length_nil]; omega)
    unfold inPlaces thereCh wipeCh at *
    rw [List.all_append, List.all_append, a1, a2, a3]; rfl
  refine br_f (lei_false.2 (by simp only [len]; omega)) ⟨k2, ⟨k2, c6, c4⟩, ?_⟩
  have there := fun (hK : K (.tup [.agg [.dat (.list .int) (power (doCh ⟨ws, fu⟩ (thereCh (1 - s) rs (g + 1)))).1.words, .dat .int (power (doCh ⟨ws, fu⟩ (thereCh (1 - s) rs (g + 1)))).1.fuel], .one (.dat .int (power (doCh ⟨ws, fu⟩ (thereCh (1 - s) rs (g + 1)))).2)]) []) =>
    show (((0 : Int) ≤ ((1 - s : Nat) : Int)) ∧ (((1 - s : Nat) : Int) ≤ (10 : Int))) ∧ ((((0 : Int) ≤ (32 * ((1 - s : Nat) : Int) + 1)) ∧ (((32 * ((1 - s : Nat) : Int) + 1) ≤ (1000 : Int)) ∧ ((len (allW rs)) ≤ 1000))) ∧
      ((((0 : Int) ≤ (32 * ((1 - s : Nat) : Int))) ∧ (((32 * ((1 - s : Nat) : Int)) ≤ (1000 : Int)) ∧ ((len [g + 1]) ≤ 1000))) ∧
      ((((List.length [wipeCh ((1 - s : Nat) : Int), burnCh (32 * ((1 - s : Nat) : Int) + 1) (allW rs), burnCh (32 * ((1 - s : Nat) : Int)) [g + 1]]) ≤ 10) ∧ ((List.length (thereCh (1 - s) rs (g + 1))) ≤ 1000)) ∧
      ((((len ws) ≤ 192) ∧ (((-(1 : Int)) ≤ fu) ∧ ((fu ≤ (100000 : Int)) ∧ (((len (thereCh (1 - s) rs (g + 1))) ≤ 1000) ∧ (inPlaces ws.length (thereCh (1 - s) rs (g + 1)) = true))))) ∧
      (K (.tup [.agg [.dat (Ty.list Ty.int) (doCh ⟨ws, fu⟩ (thereCh (1 - s) rs (g + 1))).1.words, .dat Ty.int (doCh ⟨ws, fu⟩ (thereCh (1 - s) rs (g + 1))).1.fuel], .one (.dat Ty.int (powerE (doCh ⟨ws, fu⟩ (thereCh (1 - s) rs (g + 1))).2))]) []))))) from
    ⟨by omega, ⟨by omega, by omega, by simp only [len]; omega⟩, ⟨by omega, by omega, by simp [len]⟩, ⟨by simp only [List.length_cons, List.length_nil]; omega, by omega⟩, ⟨c6, c2, c3, by simp only [len]; omega, inth⟩, hK⟩
  cases hsc : (scanS ws s).2 with
  | none =>
    rw [hsc] at hK
    simp only [room, Bool.false_eq_true, if_false] at hK
    simp only [nextI]
    refine br_f (lei_false.2 (by omega)) (eq_s (fun h5 => ?_) (fun h5 => ?_))
    · rw [if_pos h5] at hK; exact hK
    · rw [if_neg h5] at hK
      exact there hK
  | some a =>
    have ha := scanS_le (by omega) hsc
    rw [hsc] at hK
    simp only [nextI]
    rw [w64_id (n := 32 * (s : Int) + 1 + a + 1) (by omega) (by omega), w64_id (n := 32 * (s : Int) + 1 + a + 1 + (((len r) : Nat) : Int)) (by simp only [len]; omega) (by simp only [len]; omega)]
    refine br_t (lei_true.2 (by omega)) (br_split (fun h5 => ?_) (fun h5 => ?_))
    · rw [lei_true] at h5
      simp only [len] at h5
      rw [if_pos (show room r.length (some a) = true from by simp only [room, decide_eq_true_eq]; omega)] at hK
      simp only [Option.getD_some, hereCh] at hK
      rw [show ((32 * s + 1 + a : Nat) : Int) = 32 * (s : Int) + 1 + a by omega] at hK
      have a1 := burn_in ws.length r (32 * (s : Int) + 1 + a + 1) (by omega) (by omega)
      have a2 := burn_in ws.length [42240 + (r.length : Int)] (32 * (s : Int) + 1 + a) (by omega) (by simp only [List.length_cons, List.length_nil]; omega)
      refine ⟨⟨by omega, by omega, by simp only [len]; omega⟩, ⟨by omega, by omega, by simp [len]⟩, by simp only [len, burnCh_len, List.length_cons, List.length_nil]; omega, ⟨c6, c2, c3, by simp only [len, cat, List.length_append, burnCh_len, List.length_cons, List.length_nil]; omega, ?_⟩, hK⟩
      unfold inPlaces at *
      rw [show cat (burnCh (32 * (s : Int) + 1 + a + 1) r) (burnCh (32 * (s : Int) + 1 + a) [42240 + (r.length : Int)]) = burnCh (32 * (s : Int) + 1 + a + 1) r ++ burnCh (32 * (s : Int) + 1 + a) [42240 + (r.length : Int)] from rfl, List.all_append, a1, a2]; rfl
    · rw [lei_false] at h5
      simp only [len] at h5
      rw [if_neg (show ¬ room r.length (some a) = true from by simp only [room, decide_eq_true_eq]; omega)] at hK
      refine eq_s (fun h6 => ?_) (fun h6 => ?_)
      · rw [if_pos h6] at hK; exact hK
      · rw [if_neg h6] at hK
        exact there hK
theorem sound_ref_Appended : SoundC Try.prog tab n_ref_Appended c_ref_Appended := soundC_of ok_ref_Appended hf_ref_Appended hB_ref_Appended (by
  intro vs bs p v bs' h hp
  unfold c_ref_Appended at h
  split at h
  · cases h
    exact ⟨by kernel_rfl, rfl, .inl (run_ref_Appended _ _ _ _ hp.1 _ ⟨rfl, rfl⟩)⟩
  · cases h)

def c_law_LogSays : Contract := fun vs bs => match vs, bs with
  | [.agg [.dat (.list .int) ws, .dat .int _], .one (.dat (.list .int) r), .one (.dat (.list (.list .int)) keep)], [] => some (some (len ws * 8 ≤ 140737488351232 ∧ Sm r ∧ len keep * 24 ≤ 140737488351232 ∧ smR keep = true), .one (.dat .bool true), [])
  | _, _ => none
def Γ_law_LogSays : Ctx := [(n_ref_OwnFlash, c_ref_OwnFlash), (n_log_Format, c_log_Format), (n_log_Records, c_log_Records), (n_log_Append, c_log_Append), (n_ref_CheckFlash, c_ref_CheckFlash), (n_ref_CheckLog, c_ref_CheckLog), (n_law_logged, c_law_logged), (n_log_Check, c_log_Check), (n_ref_SameFlash, c_ref_SameFlash), (n_ref_Formatted, c_ref_Formatted), (n_ref_RecordsOf, c_ref_RecordsOf), (n_ref_Appended, c_ref_Appended), (n_ref_SameRecords, c_ref_SameRecords)]
theorem ok_law_LogSays : Ok Try.prog tab Γ_law_LogSays := (((((((((((((ok_nil.consC hf_ref_SameRecords hB_ref_SameRecords sound_ref_SameRecords).consC hf_ref_Appended hB_ref_Appended sound_ref_Appended).consC hf_ref_RecordsOf hB_ref_RecordsOf sound_ref_RecordsOf).consC hf_ref_Formatted hB_ref_Formatted sound_ref_Formatted).consC hf_ref_SameFlash hB_ref_SameFlash sound_ref_SameFlash).consC hf_log_Check hB_log_Check sound_log_Check).consC hf_law_logged hB_law_logged sound_law_logged).consC hf_ref_CheckLog hB_ref_CheckLog sound_ref_CheckLog).consC hf_ref_CheckFlash hB_ref_CheckFlash sound_ref_CheckFlash).consC hf_log_Append hB_log_Append sound_log_Append).consC hf_log_Records hB_log_Records sound_log_Records).consC hf_log_Format hB_log_Format sound_log_Format).consC hf_ref_OwnFlash hB_ref_OwnFlash sound_ref_OwnFlash)
theorem law_LogSays_vc (ws : List Int) (fu : Int) (r : List Int) (keep : List (List Int)) (rec : List It → St → Prop) (K : V → List Blk → Prop) v0 (hv0 : v0 = (smR keep)) v1 (hv1 : v1 = (checkLog (⟨ws, fu⟩ : Flash))) v2 (hv2 : v2 = (sameFlash (⟨ws, fu⟩ : Flash) (⟨ws, fu⟩ : Flash))) v3 (hv3 : v3 = (checkFlash (⟨ws, fu⟩ : Flash))) v4 (hv4 : v4 = (formatF (⟨ws, fu⟩ : Flash))) v5 (hv5 : v5 = (sameFlash (⟨((v4).fst).words, ((v4).fst).fuel⟩ : Flash) (⟨[], (0 : Int)⟩ : Flash))) v6 (hv6 : v6 = (recordsF (⟨ws, fu⟩ : Flash))) v7 (hv7 : v7 = (appendF (⟨ws, fu⟩ : Flash) r keep)) v8 (hv8 : v8 = (sameFlash (⟨((v7).fst).words, ((v7).fst).fuel⟩ : Flash) (⟨[], (0 : Int)⟩ : Flash))) v9 (hv9 : v9 = (okWords ws)) v10 (hv10 : v10 = (smR (v6).fst)) v11 (hv11 : v11 = (recsOf ws)) v12 (hv12 : v12 = (sameRecs (v6).fst v11)) v13 (hv13 : v13 = (sameFlash (⟨((v7).fst).words, ((v7).fst).fuel⟩ : Flash) (⟨((v7).fst).words, ((v7).fst).fuel⟩ : Flash))) v14 (hv14 : v14 = (sameFlash (⟨((v4).fst).words, ((v4).fst).fuel⟩ : Flash) (⟨((v4).fst).words, ((v4).fst).fuel⟩ : Flash))) : segD Γ_law_LogSays tab fn_law_LogSays 0 K rec [.code (bodyOf fn_law_LogSays)] (initSt [.agg [.dat (Ty.list Ty.int) ws, .dat Ty.int fu], .one (.dat (Ty.list Ty.int) r), .one (.dat (Ty.list (Ty.list Ty.int)) keep)] []) = (
    (((len ws) * 8) ≤ 140737488355328) ∧
    ((((List.length r) ≤ 140737488355328) ∧ ((((len keep) * 24) ≤ 140737488351232) ∧ (v0 = true))) ∧
    (((List.length ws) ≤ 140737488355328) ∧
    (((List.length ws) ≤ 140737488355328) ∧
    (br (!(eqi v1 v1))
     (K (.one (.dat Ty.bool false)) [])
     (((List.length ws) ≤ 140737488355328) ∧
      (br (!v2)
       (K (.one (.dat Ty.bool false)) [])
       (br (!(eqi v3 (0 : Int)))
         (br (!(eqi (v4).snd v3))
           (K (.one (.dat Ty.bool false)) [])
           (((List.length ((v4).fst).words) ≤ 140737488355328) ∧
            (br (!v5)
             (K (.one (.dat Ty.bool false)) [])
             (br (!(eqi v1 (0 : Int)))
               (br (eqi (v6).snd v1)
                 (br (eqi (((len (v6).fst) : Nat) : Int) (0 : Int))
                   (br (eqi (v7).snd v1)
                     (((List.length ((v7).fst).words) ≤ 140737488355328) ∧
                      (K (.one (.dat Ty.bool v8)) []))
                     (K (.one (.dat Ty.bool false)) []))
                   (K (.one (.dat Ty.bool false)) []))
                 (K (.one (.dat Ty.bool false)) []))
               (((64 ≤ (len ws)) ∧ (((len ws) ≤ 192) ∧ (v9 = true))) ∧
                (((v1 = (0 : Int)) ∧ (((List.length r) ≤ 140737488355328) ∧ ((((len keep) * 24) ≤ 140737488351232) ∧ (v0 = true)))) ∧
                (br (eqi (v6).snd (0 : Int))
                 ((((List.length (v6).fst) ≤ 140737488355328) ∧ (v10 = true)) ∧
                  (br v12
                   (br (eqi (v7).snd (v7).snd)
                     (((List.length ((v7).fst).words) ≤ 140737488355328) ∧
                      (K (.one (.dat Ty.bool v13)) []))
                     (K (.one (.dat Ty.bool false)) []))
                   (K (.one (.dat Ty.bool false)) [])))
                 (K (.one (.dat Ty.bool false)) []))))))))
         ((v3 = (0 : Int)) ∧
          (br (!(eqi (v4).snd (v4).snd))
           (K (.one (.dat Ty.bool false)) [])
           (((List.length ((v4).fst).words) ≤ 140737488355328) ∧
            (br (!v14)
             (K (.one (.dat Ty.bool false)) [])
             (br (!(eqi v1 (0 : Int)))
               (br (eqi (v6).snd v1)
                 (br (eqi (((len (v6).fst) : Nat) : Int) (0 : Int))
                   (br (eqi (v7).snd v1)
                     (((List.length ((v7).fst).words) ≤ 140737488355328) ∧
                      (K (.one (.dat Ty.bool v8)) []))
                     (K (.one (.dat Ty.bool false)) []))
                   (K (.one (.dat Ty.bool false)) []))
                 (K (.one (.dat Ty.bool false)) []))
               (((64 ≤ (len ws)) ∧ (((len ws) ≤ 192) ∧ (v9 = true))) ∧
                (((v1 = (0 : Int)) ∧ (((List.length r) ≤ 140737488355328) ∧ ((((len keep) * 24) ≤ 140737488351232) ∧ (v0 = true)))) ∧
                (br (eqi (v6).snd (0 : Int))
                 ((((List.length (v6).fst) ≤ 140737488355328) ∧ (v10 = true)) ∧
                  (br v12
                   (br (eqi (v7).snd (v7).snd)
                     (((List.length ((v7).fst).words) ≤ 140737488355328) ∧
                      (K (.one (.dat Ty.bool v13)) []))
                     (K (.one (.dat Ty.bool false)) []))
                   (K (.one (.dat Ty.bool false)) [])))
                 (K (.one (.dat Ty.bool false)) []))))))))))))))))) := by subst hv14; subst hv13; subst hv12; subst hv11; subst hv10; subst hv9; subst hv8; subst hv7; subst hv6; subst hv5; subst hv4; subst hv3; subst hv2; subst hv1; subst hv0; kernel_rfl
theorem law_LogSays_w (ws : List Int) (fu : Int) (r : List Int) (keep : List (List Int)) (m : Nat) (K : V → List Blk → Prop) : goD Γ_law_LogSays tab fn_law_LogSays 0 K (m + 1) [.code (bodyOf fn_law_LogSays)] (initSt [.agg [.dat (Ty.list Ty.int) ws, .dat Ty.int fu], .one (.dat (Ty.list Ty.int) r), .one (.dat (Ty.list (Ty.list Ty.int)) keep)] []) = segD Γ_law_LogSays tab fn_law_LogSays 0 K (goD Γ_law_LogSays tab fn_law_LogSays 0 K m) [.code (bodyOf fn_law_LogSays)] (initSt [.agg [.dat (Ty.list Ty.int) ws, .dat Ty.int fu], .one (.dat (Ty.list Ty.int) r), .one (.dat (Ty.list (Ty.list Ty.int)) keep)] []) := rfl

set_option maxHeartbeats 4000000 in
theorem run_law_LogSays (ws : List Int) (fu : Int) (r : List Int) (keep : List (List Int)) (hp : len ws * 8 ≤ 140737488351232 ∧ Sm r ∧ len keep * 24 ≤ 140737488351232 ∧ smR keep = true) (K : V → List Blk → Prop) (hK : K (.one (.dat .bool true)) []) : ∃ m, goD Γ_law_LogSays tab fn_law_LogSays 0 K m [.code (bodyOf fn_law_LogSays)] (initSt [.agg [.dat (.list .int) ws, .dat .int fu], .one (.dat (.list .int) r), .one (.dat (.list (.list .int)) keep)] []) := by
  obtain ⟨hw, hr, hk1, hk2⟩ := hp
  refine ⟨1, ?_⟩
  rw [law_LogSays_w, law_LogSays_vc _ _ _ _ _ _ _ rfl _ rfl _ rfl _ rfl _ rfl _ rfl _ rfl _ rfl _ rfl _ rfl _ rfl _ rfl _ rfl _ rfl _ rfl]
  have same : ∀ f : Flash, sameFlash f f = true := fun f => by simp [sameFlash, eqIs]
  have smw : ws.length ≤ 140737488355328 := by simp only [len] at hw; omega
  unfold Sm at hr
  have sm4 : (formatF ⟨ws, fu⟩).1.words.length ≤ 140737488355328 := by
    unfold formatF
    split
    · split
      · rw [power_len, doCh_len]; exact smw
      · exact Nat.zero_le _
    · exact Nat.zero_le _
  have sm7 : (appendF ⟨ws, fu⟩ r keep).1.words.length ≤ 140737488355328 := by
    unfold appendF
    split
    · split
      · rw [power_len, doCh_len]; exact smw
      · exact Nat.zero_le _
    · exact Nat.zero_le _
  have kp : (((List.length r) ≤ 140737488355328) ∧ ((((len keep) * 24) ≤ 140737488351232) ∧ (smR keep = true))) := ⟨hr, hk1, hk2⟩
  have wo := fun (h : ¬ checkLog ⟨ws, fu⟩ = 0) => show recordsF ⟨ws, fu⟩ = ([], checkLog ⟨ws, fu⟩) ∧ appendF ⟨ws, fu⟩ r keep = (noFlash, checkLog ⟨ws, fu⟩) from by
    refine ⟨if_neg h, ?_⟩
    have e : appendE ⟨ws, fu⟩ r keep = checkLog ⟨ws, fu⟩ := if_neg h
    unfold appendF
    rw [if_neg (by rw [e]; exact h), e]
  have small := recsOf_small ws
  refine ⟨by simp only [len] at hw ⊢; omega, kp, smw, smw, ne_f rfl ⟨smw, nt_f (same _) (ne_s (fun h0 => ?_) (fun h0 => ?_))⟩⟩
  · have hl : ¬ checkLog ⟨ws, fu⟩ = 0 := fun h => h0 (checkLog_ok h).1
    obtain ⟨w1, w2⟩ := wo hl
    rw [show formatF ⟨ws, fu⟩ = (noFlash, checkFlash ⟨ws, fu⟩) from if_neg h0, w1, w2]
    exact ne_f rfl ⟨Nat.zero_le _, nt_f rfl (ne_t hl (eq_t rfl (eq_t rfl (eq_t rfl ⟨Nat.zero_le _, hK⟩))))⟩
  · refine ⟨h0, ne_f rfl ⟨sm4, nt_f (same _) (ne_s (fun hl => ?_) (fun hl => ?_))⟩⟩
    · obtain ⟨w1, w2⟩ := wo hl
      rw [w1, w2]
      exact eq_t rfl (eq_t rfl (eq_t rfl ⟨Nat.zero_le _, hK⟩))
    · obtain ⟨k1, k2, k3, k4⟩ := checkLog_ok hl
      obtain ⟨c1, _, _, c4⟩ := checkFlash_ok k1
      obtain ⟨c5, c6⟩ := okLen_le c1
      rw [recordsF_ok hl]
      refine ⟨⟨k2, c6, c4⟩, ⟨hl, kp⟩, eq_t rfl ⟨⟨by simp only; omega, smR_of small.1⟩, br_t (sameRecs_true rfl) (eq_t rfl ⟨sm7, ?_⟩)⟩⟩
      rw [same]
      exact hK
theorem sound_law_LogSays : SoundC Try.prog tab n_law_LogSays c_law_LogSays := soundC_of ok_law_LogSays hf_law_LogSays hB_law_LogSays (by
  intro vs bs p v bs' h hp
  unfold c_law_LogSays at h
  split at h
  · cases h
    exact ⟨by kernel_rfl, rfl, .inl (run_law_LogSays _ _ _ _ hp.1 _ ⟨rfl, rfl⟩)⟩
  · cases h)
end Go.Proofs.Ytlbppjmekiemiab
