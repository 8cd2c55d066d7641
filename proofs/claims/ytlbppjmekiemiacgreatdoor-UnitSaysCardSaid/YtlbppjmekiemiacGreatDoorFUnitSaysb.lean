/- What the functions of UnitSays compute (part 2 of 3). No condition. -/
import Derived.Test.YtlbppjmekiemiacGreatDoorFUnitSaysa
import Derived.KernelRfl
namespace Go.Proofs.YtlbppjmekiemiacGreatDoor
open Vm
def c_unit_prepare : Contract := fun vs bs => match vs, bs with
  | [.agg [.dat (.list .str) b], .one (.ptr 0 0), .agg [.dat .int so, .dat .int sb, .dat .int sr], .agg [.dat .int mk, .dat .int mu, .dat .int mn, .dat .int ma, .dat .int mi, .dat (.list .int) mw, .dat .bool my]], [.box [.dat (.list .int) ws, .dat .int fu, .dat .bool up, .dat .int un, .dat .int ug]] => some (some (0 ≤ so ∧ so ≤ 1 ∧ b.length ≤ 140737488355328), .one (.dat (.list .message) (prepareU b ⟨⟨ws, fu⟩, up, un, ug⟩ ⟨so, sb, sr⟩ ⟨mk, mu, mn, ma, mi, mw, my⟩).2), [.box [.dat (.list .int) (prepareU b ⟨⟨ws, fu⟩, up, un, ug⟩ ⟨so, sb, sr⟩ ⟨mk, mu, mn, ma, mi, mw, my⟩).1.f.words, .dat .int (prepareU b ⟨⟨ws, fu⟩, up, un, ug⟩ ⟨so, sb, sr⟩ ⟨mk, mu, mn, ma, mi, mw, my⟩).1.f.fuel, .dat .bool (prepareU b ⟨⟨ws, fu⟩, up, un, ug⟩ ⟨so, sb, sr⟩ ⟨mk, mu, mn, ma, mi, mw, my⟩).1.up, .dat .int (prepareU b ⟨⟨ws, fu⟩, up, un, ug⟩ ⟨so, sb, sr⟩ ⟨mk, mu, mn, ma, mi, mw, my⟩).1.n, .dat .int (prepareU b ⟨⟨ws, fu⟩, up, un, ug⟩ ⟨so, sb, sr⟩ ⟨mk, mu, mn, ma, mi, mw, my⟩).1.got]])
  | _, _ => none
def Γ_unit_prepare : Ctx := [(n_unit_prepare_1, c_unit_prepare_1), (n_slot_Body, c_slot_Body), (n_meta_ImageName, c_meta_ImageName), (n_slot_Seal, c_slot_Seal), (n_unit_change, c_unit_change), (n_slot_Image, c_slot_Image), (n_unit_note, c_unit_note), (n_slices_Equal_Lint, c_slices_Equal_Lint)]
theorem ok_unit_prepare : Ok Tryz.prog tab Γ_unit_prepare := ((((((((ok_nil.consC hf_slices_Equal_Lint hB_slices_Equal_Lint sound_slices_Equal_Lint).consC hf_unit_note hB_unit_note sound_unit_note).consC hf_slot_Image hB_slot_Image sound_slot_Image).consC hf_unit_change hB_unit_change sound_unit_change).consC hf_slot_Seal hB_slot_Seal sound_slot_Seal).consC hf_meta_ImageName hB_meta_ImageName sound_meta_ImageName).consC hf_slot_Body hB_slot_Body sound_slot_Body).consC hf_unit_prepare_1 hB_unit_prepare_1 sound_unit_prepare_1)
theorem unit_prepare_vc (b : List (List UInt8)) (ws : List Int) (fu : Int) (up : Bool) (un : Int) (ug : Int) (so : Int) (sb : Int) (sr : Int) (mk : Int) (mu : Int) (mn : Int) (ma : Int) (mi : Int) (mw : List Int) (my : Bool) (rec : RK) (K : KK) v0 (hv0 : v0 = (voteM ⟨mk, mu, mn, ma, mi, mw, my⟩ true)) v1 (hv1 : v1 = (voteM ⟨mk, mu, mn, ma, mi, mw, my⟩ false)) v2 (hv2 : v2 = (bodyS ⟨ws, fu⟩ (w64 ((1 : Int) - so)) ma)) v3 (hv3 : v3 = (imageName b v2.fst)) v4 (hv4 : v4 = (sealS ⟨ws, fu⟩ (w64 ((1 : Int) - so)) ma mi)) v5 (hv5 : v5 = (changeU ⟨⟨ws, fu⟩, up, un, ug⟩ ⟨v4.fst.words, v4.fst.fuel⟩ v4.snd)) v6 (hv6 : v6 = (imageS ⟨v5.fst.f.words, v5.fst.f.fuel⟩ (w64 ((1 : Int) - so)))) v7 (hv7 : v7 = (eqIs v6.fst v2.fst)) v8 (hv8 : v8 = (noteU ⟨⟨v5.fst.f.words, v5.fst.f.fuel⟩, v5.fst.up, (0 : Int), (0 : Int)⟩ ((2 : Int) :: (mn :: [])))) v9 (hv9 : v9 = (K (.one (dM v1)) [.box [dL v5.fst.f.words, dI v5.fst.f.fuel, dB v5.fst.up, dI (0 : Int), dI (0 : Int)]])) v10 (hv10 : v10 = (K (.one (dM v1)) [.box [dL ws, dI fu, dB up, dI un, dI ug]])) : segD Γ_unit_prepare tab fn_unit_prepare 1 K rec [.code (bodyOf fn_unit_prepare)] (initSt [.agg [.dat (Ty.list Ty.str) b], .one (.ptr 0 0), .agg [dI so, dI sb, dI sr], .agg [dI mk, dI mu, dI mn, dI ma, dI mi, dL mw, dB my]] [.box [dL ws, dI fu, dB up, dI un, dI ug]]) = (
 br (lei mn sb)
 (K (.one (dM ((⟨(6 : Int), mu, mn, (0 : Int), (0 : Int), [], false⟩ : Vm.Message) :: []))) [.box [dL ws, dI fu, dB up, dI un, dI ug]])
 (br (eqi sr mn)
 (K (.one (dM v0)) [.box [dL ws, dI fu, dB up, dI un, dI ug]])
 (br (lti (0 : Int) sr)
 v10
 (br (!(eqi v2.snd (0 : Int)))
 v10
 (br (!(eqi un mn))
 v10
 (br (!(eqi ug ma))
 v10
 (((List.length b) ≤ 140737488355328) ∧
 (br (!(eqi v3.snd (0 : Int)))
 v10
 (br (eqi v3.fst (0 : Int))
 v10
 (br (!(eqi v3.fst mi))
 v10
 (br (!v5.snd)
 (K (.one (dM [])) [.box [dL v5.fst.f.words, dI v5.fst.f.fuel, dB v5.fst.up, dI v5.fst.n, dI v5.fst.got]])
 (br (!(eqi v6.snd.snd (0 : Int)))
 v9
 (br (!(eqi v6.snd.fst mi))
 v9
 (((List.length v6.fst) ≤ 140737488355328) ∧
 (br (!v7)
 v9
 (((List.length ((2 : Int) :: (mn :: []))) ≤ 140737488355328) ∧
 (br (!v8.snd)
 (K (.one (dM [])) [.box [dL v8.fst.f.words, dI v8.fst.f.fuel, dB v8.fst.up, dI v8.fst.n, dI v8.fst.got]])
 (K (.one (dM v0)) [.box [dL v8.fst.f.words, dI v8.fst.f.fuel, dB v8.fst.up, dI v8.fst.n, dI v8.fst.got]])))))))))))))))))) := by subst_vars; kernel_rfl
theorem unit_prepare_w (m : Nat) (K : KK) (st : St) : goD Γ_unit_prepare tab fn_unit_prepare 1 K (m + 1) [.code (bodyOf fn_unit_prepare)] st = segD Γ_unit_prepare tab fn_unit_prepare 1 K (goD Γ_unit_prepare tab fn_unit_prepare 1 K m) [.code (bodyOf fn_unit_prepare)] st := rfl

set_option maxHeartbeats 4000000 in
theorem run_unit_prepare (b : List (List UInt8)) (ws : List Int) (fu : Int) (up : Bool) (un ug : Int)(so sb sr : Int)(mk mu mn ma mi : Int) (mw : List Int) (my : Bool) (hp : 0 ≤ so ∧ so ≤ 1 ∧ b.length ≤ 140737488355328) (K : KK) (hK : K (.one (dM (prepareU b ⟨⟨ws, fu⟩, up, un, ug⟩ ⟨so, sb, sr⟩ ⟨mk, mu, mn, ma, mi, mw, my⟩).2)) [.box [dL (prepareU b ⟨⟨ws, fu⟩, up, un, ug⟩ ⟨so, sb, sr⟩ ⟨mk, mu, mn, ma, mi, mw, my⟩).1.f.words, dI (prepareU b ⟨⟨ws, fu⟩, up, un, ug⟩ ⟨so, sb, sr⟩ ⟨mk, mu, mn, ma, mi, mw, my⟩).1.f.fuel, dB (prepareU b ⟨⟨ws, fu⟩, up, un, ug⟩ ⟨so, sb, sr⟩ ⟨mk, mu, mn, ma, mi, mw, my⟩).1.up, dI (prepareU b ⟨⟨ws, fu⟩, up, un, ug⟩ ⟨so, sb, sr⟩ ⟨mk, mu, mn, ma, mi, mw, my⟩).1.n, dI (prepareU b ⟨⟨ws, fu⟩, up, un, ug⟩ ⟨so, sb, sr⟩ ⟨mk, mu, mn, ma, mi, mw, my⟩).1.got]]) : ∃ m, goD Γ_unit_prepare tab fn_unit_prepare 1 K m [.code (bodyOf fn_unit_prepare)] (initSt [.agg [.dat (.list .str) b], .one (.ptr 0 0), .agg [dI so, dI sb, dI sr], .agg [dI mk, dI mu, dI mn, dI ma, dI mi, dL mw, dB my]] [.box [dL ws, dI fu, dB up, dI un, dI ug]]) := by
  refine ⟨1, ?_⟩
  rw [unit_prepare_w, unit_prepare_vc _ _ _ _ _ _ _ _ _ _ _ _ _ _ _ _ _ _ _ rfl _ rfl _ rfl _ rfl _ rfl _ rfl _ rfl _ rfl _ rfl _ rfl _ rfl]
  obtain ⟨p1, p2, p3⟩ := hp
  rw [w64_id (n := 1 - so) (by omega) (by omega)]
  unfold prepareU at hK
  simp only at hK
  refine br_split (fun h => ?_) (fun h => eq_s (fun h2 => ?_) (fun h2 => lt_s (fun h3 => ?_) (fun h3 => ?_)))
  · rw [lei_true] at h; rw [if_pos h] at hK; exact hK
  · rw [lei_false] at h; rw [if_neg (by omega), if_pos h2] at hK; exact hK
  · rw [lei_false] at h; rw [if_neg (by omega), if_neg h2, if_pos h3] at hK; exact hK
  rw [lei_false] at h
  rw [if_neg (by omega), if_neg h2, if_neg (by omega)] at hK
  refine ne_s (fun h4 => ?_) (fun h4 => ne_s (fun h5 => ?_) (fun h5 => ne_s (fun h6 => ?_) (fun h6 => ⟨p3, ne_s (fun h7 => ?_) (fun h7 => eq_s (fun h8 => ?_) (fun h8 => ne_s (fun h9 => ?_) (fun h9 => ?_)))⟩)))
  · rw [if_neg (fun g => h4 g.1)] at hK; exact hK
  · rw [if_neg (fun g => h5 g.2.1)] at hK; exact hK
  · rw [if_neg (fun g => h6 g.2.2)] at hK; exact hK
  all_goals rw [if_pos ⟨h4, h5, h6⟩] at hK
  · rw [if_neg (fun g => h7 g.1)] at hK; exact hK
  · rw [if_neg (fun g => g.2.1 h8)] at hK; exact hK
  · rw [if_neg (fun g => h9 g.2.2)] at hK; exact hK
  rw [if_pos ⟨h7, h8, h9⟩] at hK
  refine nt_s (fun g => ?_) (fun g => ?_)
  · rw [if_neg (by rw [show (sealC ⟨⟨ws, fu⟩, up, un, ug⟩ ⟨so, sb, sr⟩ ⟨mk, mu, mn, ma, mi, mw, my⟩).2 = false from g]; simp)] at hK; exact hK
  rw [if_pos (show (sealC ⟨⟨ws, fu⟩, up, un, ug⟩ ⟨so, sb, sr⟩ ⟨mk, mu, mn, ma, mi, mw, my⟩).2 = true from g)] at hK
  obtain ⟨v5, hv⟩ : ∃ v5, sealC ⟨⟨ws, fu⟩, up, un, ug⟩ ⟨so, sb, sr⟩ ⟨mk, mu, mn, ma, mi, mw, my⟩ = v5 := ⟨_, rfl⟩
  rw [hv] at hK
  have hv' : changeU ⟨⟨ws, fu⟩, up, un, ug⟩ (sealS ⟨ws, fu⟩ (1 - so) ma mi).1 (sealS ⟨ws, fu⟩ (1 - so) ma mi).2 = v5 := hv
  unfold sealedU at hK
  simp only at hK
  refine ne_s (fun k1 => ?_) (fun k1 => ne_s (fun k2 => ?_) (fun k2 => ⟨?_, nt_s (fun k3 => ?_) (fun k3 => ⟨by simp, nt_s (fun k4 => ?_) (fun k4 => ?_)⟩)⟩))
  · rw [hv'] at k1 ⊢; rw [if_neg (fun g => k1 g.1)] at hK; exact hK
  · rw [hv'] at k2 ⊢; rw [if_neg (fun g => k2 g.2.1)] at hK; exact hK
  · rw [hv'] at k1 ⊢
    exact imageS_sm k1
  · rw [hv'] at k3 ⊢
    rw [if_neg (fun g => by rw [show eqIs _ _ = true from decide_eq_true g.2.2] at k3; cases k3)] at hK; exact hK
  · rw [hv'] at k1 k2 k3 k4 ⊢
    rw [if_pos ⟨k1, k2, of_decide_eq_true k3⟩, if_neg (by rw [show (noteU _ _).2 = false from k4]; simp)] at hK; exact hK
  · rw [hv'] at k1 k2 k3 k4 ⊢
    rw [if_pos ⟨k1, k2, of_decide_eq_true k3⟩, if_pos k4] at hK; exact hK
theorem sound_unit_prepare : SoundC Tryz.prog tab n_unit_prepare c_unit_prepare := soundC_of ok_unit_prepare hf_unit_prepare hB_unit_prepare (by
  intro vs bs p v bs' h hp
  unfold c_unit_prepare at h
  split at h
  · cases h
    exact ⟨by kernel_rfl, rfl, .inl (run_unit_prepare _ _ _ _ _ _ _ _ _ _ _ _ _ _ _ _ hp.1 _ ⟨rfl, rfl⟩)⟩
  · cases h)

def c_unit_decided : Contract := fun vs bs => match vs, bs with
  | [.one (.ptr 0 0), .agg [.dat .int so, .dat .int sb, .dat .int sr], .agg [.dat .int mk, .dat .int mu, .dat .int mn, .dat .int ma, .dat .int mi, .dat (.list .int) mw, .dat .bool my]], [.box [.dat (.list .int) ws, .dat .int fu, .dat .bool up, .dat .int un, .dat .int ug]] => some (some (0 ≤ so ∧ so ≤ 1), .one (.dat (.list .message) (decidedU ⟨⟨ws, fu⟩, up, un, ug⟩ ⟨so, sb, sr⟩ ⟨mk, mu, mn, ma, mi, mw, my⟩).2), [.box [.dat (.list .int) (decidedU ⟨⟨ws, fu⟩, up, un, ug⟩ ⟨so, sb, sr⟩ ⟨mk, mu, mn, ma, mi, mw, my⟩).1.f.words, .dat .int (decidedU ⟨⟨ws, fu⟩, up, un, ug⟩ ⟨so, sb, sr⟩ ⟨mk, mu, mn, ma, mi, mw, my⟩).1.f.fuel, .dat .bool (decidedU ⟨⟨ws, fu⟩, up, un, ug⟩ ⟨so, sb, sr⟩ ⟨mk, mu, mn, ma, mi, mw, my⟩).1.up, .dat .int (decidedU ⟨⟨ws, fu⟩, up, un, ug⟩ ⟨so, sb, sr⟩ ⟨mk, mu, mn, ma, mi, mw, my⟩).1.n, .dat .int (decidedU ⟨⟨ws, fu⟩, up, un, ug⟩ ⟨so, sb, sr⟩ ⟨mk, mu, mn, ma, mi, mw, my⟩).1.got]])
  | _, _ => none
def Γ_unit_decided : Ctx := [(n_unit_note, c_unit_note)]
theorem ok_unit_decided : Ok Tryz.prog tab Γ_unit_decided := (ok_nil.consC hf_unit_note hB_unit_note sound_unit_note)
theorem unit_decided_vc (ws : List Int) (fu : Int) (up : Bool) (un : Int) (ug : Int) (so : Int) (sb : Int) (sr : Int) (mk : Int) (mu : Int) (mn : Int) (ma : Int) (mi : Int) (mw : List Int) (my : Bool) (rec : RK) (K : KK) v0 (hv0 : v0 = (noteU ⟨⟨ws, fu⟩, up, un, ug⟩ ((1 : Int) :: ((w64 ((1 : Int) - so)) :: (mn :: []))))) v1 (hv1 : v1 = (noteU ⟨⟨ws, fu⟩, up, un, ug⟩ ((3 : Int) :: (mn :: [])))) v2 (hv2 : v2 = (K (.one (dM ((⟨(6 : Int), mu, mn, (0 : Int), (0 : Int), [], false⟩ : Vm.Message) :: []))) [.box [dL ws, dI fu, dB up, dI un, dI ug]])) v3 (hv3 : v3 = (K (.one (dM [])) [.box [dL ws, dI fu, dB up, dI un, dI ug]])) : segD Γ_unit_decided tab fn_unit_decided 1 K rec [.code (bodyOf fn_unit_decided)] (initSt [.one (.ptr 0 0), .agg [dI so, dI sb, dI sr], .agg [dI mk, dI mu, dI mn, dI ma, dI mi, dL mw, dB my]] [.box [dL ws, dI fu, dB up, dI un, dI ug]]) = (
 br (eqi mk (4 : Int))
 (br (eqi sb mn)
 v2
 (br (!(eqi sr mn))
 v3
 (((List.length ((1 : Int) :: ((w64 ((1 : Int) - so)) :: (mn :: [])))) ≤ 140737488355328) ∧
 (br (!v0.snd)
 (K (.one (dM [])) [.box [dL v0.fst.f.words, dI v0.fst.f.fuel, dB v0.fst.up, dI v0.fst.n, dI v0.fst.got]])
 (K (.one (dM ((⟨(6 : Int), mu, mn, (0 : Int), (0 : Int), [], false⟩ : Vm.Message) :: []))) [.box [dL v0.fst.f.words, dI v0.fst.f.fuel, dB v0.fst.up, dI v0.fst.n, dI v0.fst.got]])))))
 (br (lei mn sb)
 v3
 (br (eqi sr mn)
 (((List.length ((3 : Int) :: (mn :: []))) ≤ 140737488355328) ∧
 (br (!v1.snd)
 (K (.one (dM [])) [.box [dL v1.fst.f.words, dI v1.fst.f.fuel, dB v1.fst.up, dI v1.fst.n, dI v1.fst.got]])
 (br (eqi v1.fst.n mn)
 (K (.one (dM ((⟨(6 : Int), mu, mn, (0 : Int), (0 : Int), [], false⟩ : Vm.Message) :: []))) [.box [dL v1.fst.f.words, dI v1.fst.f.fuel, dB v1.fst.up, dI (0 : Int), dI (0 : Int)]])
 (K (.one (dM ((⟨(6 : Int), mu, mn, (0 : Int), (0 : Int), [], false⟩ : Vm.Message) :: []))) [.box [dL v1.fst.f.words, dI v1.fst.f.fuel, dB v1.fst.up, dI v1.fst.n, dI v1.fst.got]]))))
 (br (eqi un mn)
 (K (.one (dM ((⟨(6 : Int), mu, mn, (0 : Int), (0 : Int), [], false⟩ : Vm.Message) :: []))) [.box [dL ws, dI fu, dB up, dI (0 : Int), dI (0 : Int)]])
 v2)))) := by subst_vars; kernel_rfl
theorem unit_decided_w (m : Nat) (K : KK) (st : St) : goD Γ_unit_decided tab fn_unit_decided 1 K (m + 1) [.code (bodyOf fn_unit_decided)] st = segD Γ_unit_decided tab fn_unit_decided 1 K (goD Γ_unit_decided tab fn_unit_decided 1 K m) [.code (bodyOf fn_unit_decided)] st := rfl

set_option maxHeartbeats 4000000 in
theorem run_unit_decided (ws : List Int) (fu : Int) (up : Bool) (un ug : Int)(so sb sr : Int)(mk mu mn ma mi : Int) (mw : List Int) (my : Bool) (hp : 0 ≤ so ∧ so ≤ 1) (K : KK) (hK : K (.one (dM (decidedU ⟨⟨ws, fu⟩, up, un, ug⟩ ⟨so, sb, sr⟩ ⟨mk, mu, mn, ma, mi, mw, my⟩).2)) [.box [dL (decidedU ⟨⟨ws, fu⟩, up, un, ug⟩ ⟨so, sb, sr⟩ ⟨mk, mu, mn, ma, mi, mw, my⟩).1.f.words, dI (decidedU ⟨⟨ws, fu⟩, up, un, ug⟩ ⟨so, sb, sr⟩ ⟨mk, mu, mn, ma, mi, mw, my⟩).1.f.fuel, dB (decidedU ⟨⟨ws, fu⟩, up, un, ug⟩ ⟨so, sb, sr⟩ ⟨mk, mu, mn, ma, mi, mw, my⟩).1.up, dI (decidedU ⟨⟨ws, fu⟩, up, un, ug⟩ ⟨so, sb, sr⟩ ⟨mk, mu, mn, ma, mi, mw, my⟩).1.n, dI (decidedU ⟨⟨ws, fu⟩, up, un, ug⟩ ⟨so, sb, sr⟩ ⟨mk, mu, mn, ma, mi, mw, my⟩).1.got]]) : ∃ m, goD Γ_unit_decided tab fn_unit_decided 1 K m [.code (bodyOf fn_unit_decided)] (initSt [.one (.ptr 0 0), .agg [dI so, dI sb, dI sr], .agg [dI mk, dI mu, dI mn, dI ma, dI mi, dL mw, dB my]] [.box [dL ws, dI fu, dB up, dI un, dI ug]]) := by
  refine ⟨1, ?_⟩
  rw [unit_decided_w, unit_decided_vc _ _ _ _ _ _ _ _ _ _ _ _ _ _ _ _ _ _ rfl _ rfl _ rfl _ rfl]
  obtain ⟨p1, p2⟩ := hp
  rw [w64_id (n := 1 - so) (by omega) (by omega)]
  unfold decidedU at hK
  simp only at hK
  refine eq_s (fun h => ?_) (fun h => ?_)
  · rw [if_pos h] at hK
    refine eq_s (fun h2 => ?_) (fun h2 => ne_s (fun h3 => ?_) (fun h3 => ⟨by simp, nt_s (fun h4 => ?_) (fun h4 => ?_)⟩))
    · rw [if_pos h2] at hK; exact hK
    · rw [if_neg h2, if_neg h3] at hK; exact hK
    · rw [if_neg h2, if_pos h3, if_neg (by rw [h4]; simp)] at hK; exact hK
    · rw [if_neg h2, if_pos h3, if_pos h4] at hK; exact hK
  · rw [if_neg h] at hK
    refine br_split (fun h2 => ?_) (fun h2 => eq_s (fun h3 => ⟨by simp, nt_s (fun h4 => ?_) (fun h4 => ?_)⟩) (fun h3 => ?_))
    · rw [lei_true] at h2; rw [if_pos h2] at hK; exact hK
    · rw [lei_false] at h2; rw [if_neg (by omega), if_pos h3, if_neg (by rw [h4]; simp)] at hK; exact hK
    · rw [lei_false] at h2; rw [if_neg (by omega), if_pos h3, if_pos h4] at hK
      unfold goneU at hK
      refine eq_s (fun h5 => ?_) (fun h5 => ?_)
      · rw [if_pos h5] at hK; exact hK
      · rw [if_neg h5] at hK; exact hK
    · rw [lei_false] at h2; rw [if_neg (by omega), if_neg h3] at hK
      unfold goneU at hK
      refine eq_s (fun h5 => ?_) (fun h5 => ?_)
      · rw [if_pos h5] at hK; exact hK
      · rw [if_neg h5] at hK; exact hK
theorem sound_unit_decided : SoundC Tryz.prog tab n_unit_decided c_unit_decided := soundC_of ok_unit_decided hf_unit_decided hB_unit_decided (by
  intro vs bs p v bs' h hp
  unfold c_unit_decided at h
  split at h
  · cases h
    exact ⟨by kernel_rfl, rfl, .inl (run_unit_decided _ _ _ _ _ _ _ _ _ _ _ _ _ _ _ hp.1 _ ⟨rfl, rfl⟩)⟩
  · cases h)

def c_unit_Hear : Contract := fun vs bs => match vs, bs with
  | [.agg [.dat (.list .str) b], .agg [.dat (.list .int) ws, .dat .int fu, .dat .bool up, .dat .int un, .dat .int ug], .agg [.dat .int mk, .dat .int mu, .dat .int mn, .dat .int ma, .dat .int mi, .dat (.list .int) mw, .dat .bool my]], [] => some (some (b.length ≤ 140737488355328), .tup [.agg [.dat (.list .int) (hearU b ⟨⟨ws, fu⟩, up, un, ug⟩ ⟨mk, mu, mn, ma, mi, mw, my⟩).1.1.f.words, .dat .int (hearU b ⟨⟨ws, fu⟩, up, un, ug⟩ ⟨mk, mu, mn, ma, mi, mw, my⟩).1.1.f.fuel, .dat .bool (hearU b ⟨⟨ws, fu⟩, up, un, ug⟩ ⟨mk, mu, mn, ma, mi, mw, my⟩).1.1.up, .dat .int (hearU b ⟨⟨ws, fu⟩, up, un, ug⟩ ⟨mk, mu, mn, ma, mi, mw, my⟩).1.1.n, .dat .int (hearU b ⟨⟨ws, fu⟩, up, un, ug⟩ ⟨mk, mu, mn, ma, mi, mw, my⟩).1.1.got], .one (.dat (.list .message) (hearU b ⟨⟨ws, fu⟩, up, un, ug⟩ ⟨mk, mu, mn, ma, mi, mw, my⟩).1.2), .one (.dat .int (hearU b ⟨⟨ws, fu⟩, up, un, ug⟩ ⟨mk, mu, mn, ma, mi, mw, my⟩).2)], [])
  | _, _ => none
def Γ_unit_Hear : Ctx := [(n_meta_CheckBook, c_meta_CheckBook), (n_unit_Check, c_unit_Check), (n_unit_CheckMessage, c_unit_CheckMessage), (n_unit_Copy, c_unit_Copy), (n_unit_of, c_unit_of), (n_unit_piece, c_unit_piece), (n_unit_prepare, c_unit_prepare), (n_unit_decided, c_unit_decided)]
theorem ok_unit_Hear : Ok Tryz.prog tab Γ_unit_Hear := ((((((((ok_nil.consC hf_unit_decided hB_unit_decided sound_unit_decided).consC hf_unit_prepare hB_unit_prepare sound_unit_prepare).consC hf_unit_piece hB_unit_piece sound_unit_piece).consC hf_unit_of hB_unit_of sound_unit_of).consC hf_unit_Copy hB_unit_Copy sound_unit_Copy).consC hf_unit_CheckMessage hB_unit_CheckMessage sound_unit_CheckMessage).consC hf_unit_Check hB_unit_Check sound_unit_Check).consC hf_meta_CheckBook hB_meta_CheckBook sound_meta_CheckBook)
theorem unit_Hear_vc (b : List (List UInt8)) (ws : List Int) (fu : Int) (up : Bool) (un : Int) (ug : Int) (mk : Int) (mu : Int) (mn : Int) (ma : Int) (mi : Int) (mw : List Int) (my : Bool) (rec : RK) (K : KK) v0 (hv0 : v0 = (checkBook b)) v1 (hv1 : v1 = (checkU ⟨⟨ws, fu⟩, up, un, ug⟩)) v2 (hv2 : v2 = (checkM ⟨mk, mu, mn, ma, mi, mw, my⟩)) v3 (hv3 : v3 = (ofU ⟨ws, fu⟩)) v4 (hv4 : v4 = (pieceU ⟨⟨ws, fu⟩, up, un, ug⟩ ⟨v3.slot, v3.by_, v3.ready⟩ ⟨mk, mu, mn, ma, mi, mw, my⟩)) v5 (hv5 : v5 = (prepareU b ⟨⟨ws, fu⟩, up, un, ug⟩ ⟨v3.slot, v3.by_, v3.ready⟩ ⟨mk, mu, mn, ma, mi, mw, my⟩)) v6 (hv6 : v6 = (decidedU ⟨⟨ws, fu⟩, up, un, ug⟩ ⟨v3.slot, v3.by_, v3.ready⟩ ⟨mk, mu, mn, ma, mi, mw, my⟩)) v7 (hv7 : v7 = (K (.tup [.agg [dL v6.fst.f.words, dI v6.fst.f.fuel, dB v6.fst.up, dI v6.fst.n, dI v6.fst.got], .one (dM v6.snd), .one (dI (0 : Int))]) [])) v8 (hv8 : v8 = (K (.tup [.agg [dL ws, dI fu, dB up, dI un, dI ug], .one (dM []), .one (dI (0 : Int))]) [])) : segD Γ_unit_Hear tab fn_unit_Hear 0 K rec [.code (bodyOf fn_unit_Hear)] (initSt [.agg [.dat (Ty.list Ty.str) b], .agg [dL ws, dI fu, dB up, dI un, dI ug], .agg [dI mk, dI mu, dI mn, dI ma, dI mi, dL mw, dB my]] []) = (
 br (!(eqi v0 (0 : Int)))
 (K (.tup [.agg [dL [], dI (0 : Int), dB false, dI (0 : Int), dI (0 : Int)], .one (dM []), .one (dI v0)]) [])
 (br (!(eqi v1 (0 : Int)))
 (K (.tup [.agg [dL [], dI (0 : Int), dB false, dI (0 : Int), dI (0 : Int)], .one (dM []), .one (dI v1)]) [])
 (br (!(eqi v2 (0 : Int)))
 (K (.tup [.agg [dL [], dI (0 : Int), dB false, dI (0 : Int), dI (0 : Int)], .one (dM []), .one (dI v2)]) [])
 ((((len ws) * 8) ≤ 140737488355328) ∧
 (br (!up)
 v8
 (br (eqi mk (1 : Int))
 ((((0 : Int) ≤ v3.slot) ∧ ((v3.slot ≤ (1 : Int)) ∧ (((0 : Int) ≤ ma) ∧ ((ma ≤ (40 : Int)) ∧ ((len mw) ≤ 8))))) ∧
 (K (.tup [.agg [dL v4.f.words, dI v4.f.fuel, dB v4.up, dI v4.n, dI v4.got], .one (dM []), .one (dI (0 : Int))]) []))
 (br (eqi mk (2 : Int))
 ((((0 : Int) ≤ v3.slot) ∧ ((v3.slot ≤ (1 : Int)) ∧ ((List.length b) ≤ 140737488355328))) ∧
 (K (.tup [.agg [dL v5.fst.f.words, dI v5.fst.f.fuel, dB v5.fst.up, dI v5.fst.n, dI v5.fst.got], .one (dM v5.snd), .one (dI (0 : Int))]) []))
 (br (eqi mk (4 : Int))
 (br (eqi mk (4 : Int))
 ((((0 : Int) ≤ v3.slot) ∧ (v3.slot ≤ (1 : Int))) ∧
 v7)
 v8)
 (br (eqi mk (5 : Int))
 ((((0 : Int) ≤ v3.slot) ∧ (v3.slot ≤ (1 : Int))) ∧
 v7)
 v8))))))))) := by subst_vars; kernel_rfl
theorem unit_Hear_w (m : Nat) (K : KK) (st : St) : goD Γ_unit_Hear tab fn_unit_Hear 0 K (m + 1) [.code (bodyOf fn_unit_Hear)] st = segD Γ_unit_Hear tab fn_unit_Hear 0 K (goD Γ_unit_Hear tab fn_unit_Hear 0 K m) [.code (bodyOf fn_unit_Hear)] st := rfl

set_option maxHeartbeats 4000000 in
theorem run_unit_Hear (b : List (List UInt8)) (ws : List Int) (fu : Int) (up : Bool) (un ug : Int)(mk mu mn ma mi : Int) (mw : List Int) (my : Bool) (hp : b.length ≤ 140737488355328) (K : KK) (hK : K (.tup [.agg [dL (hearU b ⟨⟨ws, fu⟩, up, un, ug⟩ ⟨mk, mu, mn, ma, mi, mw, my⟩).1.1.f.words, dI (hearU b ⟨⟨ws, fu⟩, up, un, ug⟩ ⟨mk, mu, mn, ma, mi, mw, my⟩).1.1.f.fuel, dB (hearU b ⟨⟨ws, fu⟩, up, un, ug⟩ ⟨mk, mu, mn, ma, mi, mw, my⟩).1.1.up, dI (hearU b ⟨⟨ws, fu⟩, up, un, ug⟩ ⟨mk, mu, mn, ma, mi, mw, my⟩).1.1.n, dI (hearU b ⟨⟨ws, fu⟩, up, un, ug⟩ ⟨mk, mu, mn, ma, mi, mw, my⟩).1.1.got], .one (dM (hearU b ⟨⟨ws, fu⟩, up, un, ug⟩ ⟨mk, mu, mn, ma, mi, mw, my⟩).1.2), .one (dI (hearU b ⟨⟨ws, fu⟩, up, un, ug⟩ ⟨mk, mu, mn, ma, mi, mw, my⟩).2)]) []) : ∃ m, goD Γ_unit_Hear tab fn_unit_Hear 0 K m [.code (bodyOf fn_unit_Hear)] (initSt [.agg [.dat (.list .str) b], .agg [dL ws, dI fu, dB up, dI un, dI ug], .agg [dI mk, dI mu, dI mn, dI ma, dI mi, dL mw, dB my]] []) := by
  refine ⟨1, ?_⟩
  rw [unit_Hear_w, unit_Hear_vc _ _ _ _ _ _ _ _ _ _ _ _ _ _ _ _ rfl _ rfl _ rfl _ rfl _ rfl _ rfl _ rfl _ rfl _ rfl]
  have bad : ∀ e : Int, e ≠ 0 → hearE b ⟨⟨ws, fu⟩, up, un, ug⟩ ⟨mk, mu, mn, ma, mi, mw, my⟩ = e → K (.tup [.agg [dL [], dI 0, dB false, dI 0, dI 0], .one (dM []), .one (dI e)]) [] := fun e he h => by
    rw [show hearU b ⟨⟨ws, fu⟩, up, un, ug⟩ ⟨mk, mu, mn, ma, mi, mw, my⟩ = ((noUnit, []), e) from by unfold hearU; rw [if_neg (by rw [h]; exact he), h]] at hK
    exact hK
  refine ne_s (fun h => bad _ h (if_neg h)) (fun h => ?_)
  have E1 : hearE b ⟨⟨ws, fu⟩, up, un, ug⟩ ⟨mk, mu, mn, ma, mi, mw, my⟩ = _ := if_pos h
  refine ne_s (fun h2 => bad _ h2 (E1.trans (if_neg h2))) (fun h2 => ?_)
  have E2 := E1.trans (if_pos h2)
  refine ne_s (fun h3 => bad _ h3 E2) (fun h3 => ?_)
  rw [show hearU b ⟨⟨ws, fu⟩, up, un, ug⟩ ⟨mk, mu, mn, ma, mi, mw, my⟩ = (hearsU b ⟨⟨ws, fu⟩, up, un, ug⟩ ⟨mk, mu, mn, ma, mi, mw, my⟩, 0) from if_pos (E2.trans h3)] at hK
  obtain ⟨_, c2, _⟩ := checkU_ok h2
  obtain ⟨_, _, _, _, _, _, m1, m2, _, _, m3, _⟩ := checkM_ok h3
  obtain ⟨⟨s1, s2⟩, _⟩ := ofU_ok ⟨ws, fu⟩
  simp only at c2 m1 m2 m3
  unfold hearsU at hK
  simp only at hK
  refine ⟨by simp only [len]; omega, nt_s (fun h4 => ?_) (fun h4 => ?_)⟩
  · rw [if_neg (by rw [h4]; simp)] at hK; exact hK
  rw [if_pos h4] at hK
  refine eq_s (fun h5 => ⟨⟨s1, s2, m1, m2, m3⟩, ?_⟩) (fun h5 => eq_s (fun h6 => ⟨⟨s1, s2, hp⟩, ?_⟩) (fun h6 => eq_s (fun h7 => eq_t h7 ⟨⟨s1, s2⟩, ?_⟩) (fun h7 => eq_s (fun h8 => ⟨⟨s1, s2⟩, ?_⟩) (fun h8 => ?_))))
  · rw [if_pos h5] at hK; exact hK
  · rw [if_neg h5, if_pos h6] at hK; exact hK
  · rw [if_neg h5, if_neg h6, if_pos (.inl h7)] at hK; exact hK
  · rw [if_neg h5, if_neg h6, if_pos (.inr h8)] at hK; exact hK
  · rw [if_neg h5, if_neg h6, if_neg (by omega)] at hK; exact hK
theorem sound_unit_Hear : SoundC Tryz.prog tab n_unit_Hear c_unit_Hear := soundC_of ok_unit_Hear hf_unit_Hear hB_unit_Hear (by
  intro vs bs p v bs' h hp
  unfold c_unit_Hear at h
  split at h
  · cases h
    exact ⟨by kernel_rfl, rfl, .inl (run_unit_Hear _ _ _ _ _ _ _ _ _ _ _ _ _ hp.1 _ ⟨rfl, rfl⟩)⟩
  · cases h)

def c_slices_Repeat_Lint : Contract := fun vs bs => match vs, bs with
  | [.one (.dat (.list .int) [x]), .one (.dat .int n)], [] => some (some (0 ≤ n ∧ n ≤ 1000000), .one (.dat (.list .int) (zeros n.toNat x)), [])
  | _, _ => none
def Γ_slices_Repeat_Lint : Ctx := [(n_math_bits_Mul, c_math_bits_Mul)]
theorem ok_slices_Repeat_Lint : Ok Tryz.prog tab Γ_slices_Repeat_Lint := (ok_nil.consC hf_math_bits_Mul hB_math_bits_Mul sound_math_bits_Mul)
noncomputable def slices_Repeat_Lint_L0 : List It := [.inLoop [8, 7, 4] (Code.sub (bodyOf fn_slices_Repeat_Lint) [1, 1, 1, 1, 1, 1, 0, 0, 0]), .inBlock 0, .code (Code.sub (bodyOf fn_slices_Repeat_Lint) [1, 1, 1, 1, 1, 1, 1])]
def slices_Repeat_Lint_S0 (x0 : Int) (x1 : (List Int)) (x2 : (List Int)) : St := ⟨[(8, .one (dI x0)), (7, .one (.own 0)), (4, .one (.own 1))], [(0, .arr Ty.int x1), (1, .arr Ty.int x2)], 2⟩
theorem slices_Repeat_Lint_vc (x : Int) (n : Int) (rec : RK) (K : KK) v0 (hv0 : v0 = (u64w (((len (x :: [])) : Nat) : Int))) v1 (hv1 : v1 = (inU64 v0)) v2 (hv2 : v2 = (u64w n)) v3 (hv3 : v3 = (inU64 v2)) : segD Γ_slices_Repeat_Lint tab fn_slices_Repeat_Lint 0 K rec [.code (bodyOf fn_slices_Repeat_Lint)] (initSt [.one (dL (x :: [])), .one (dI n)] []) = (
 br (lti n (0 : Int))
 (False)
 (((v1 = true) ∧ (v3 = true)) ∧
 (br (lti (0 : Int) ((v0 * v2) / two64))
 (False)
 (br (lti (9223372036854775807 : Int) ((v0 * v2) % two64))
 (False)
 ((((0 : Int) ≤ (w64 ((v0 * v2) % two64))) ∧ ((((w64 ((v0 * v2) % two64)) * ((8 : Nat) : Int)) ≤ (140737488355328 : Int)) ∧ ((w64 ((v0 * v2) % two64)) ≤ (140737488355328 : Int)))) ∧
 (rec slices_Repeat_Lint_L0 (slices_Repeat_Lint_S0 (((min (len (zeros (Int.toNat (w64 ((v0 * v2) % two64))) (Ty.dflt Ty.int))) (len (x :: []))) : Nat) : Int) (put (zeros (Int.toNat (w64 ((v0 * v2) % two64))) (Ty.dflt Ty.int)) 0 (slc (x :: []) 0 (min (len (zeros (Int.toNat (w64 ((v0 * v2) % two64))) (Ty.dflt Ty.int))) (len (x :: []))))) []))))))) := by subst_vars; kernel_rfl
theorem slices_Repeat_Lint_w (m : Nat) (K : KK) (st : St) : goD Γ_slices_Repeat_Lint tab fn_slices_Repeat_Lint 0 K (m + 1) [.code (bodyOf fn_slices_Repeat_Lint)] st = segD Γ_slices_Repeat_Lint tab fn_slices_Repeat_Lint 0 K (goD Γ_slices_Repeat_Lint tab fn_slices_Repeat_Lint 0 K m) [.code (bodyOf fn_slices_Repeat_Lint)] st := rfl
theorem slices_Repeat_Lint_vc0 (x0 : Int) (x1 : (List Int)) (x2 : (List Int)) (rec : RK) (K : KK) : segD Γ_slices_Repeat_Lint tab fn_slices_Repeat_Lint 0 K rec (.code (Code.sub (bodyOf fn_slices_Repeat_Lint) [1, 1, 1, 1, 1, 1, 0, 0, 0]) :: slices_Repeat_Lint_L0) (slices_Repeat_Lint_S0 x0 x1 x2) = (
 br (lti x0 (((len x1) : Nat) : Int))
 ((((0 : Int) ≤ x0) ∧ ((x0 ≤ (((len x1) : Nat) : Int)) ∧ ((((len x1) : Nat) : Int) ≤ (((len x1) : Nat) : Int)))) ∧
 ((((0 : Int) ≤ (0 : Int)) ∧ (((0 : Int) ≤ x0) ∧ (x0 ≤ (((len x1) : Nat) : Int)))) ∧
 (((((Int.toNat (0 : Int)) + (Int.toNat (x0 - (0 : Int)))) ≤ (len x1)) ∧ (((Int.toNat x0) + (Int.toNat ((((len x1) : Nat) : Int) - x0))) ≤ (len x1))) ∧
 (rec slices_Repeat_Lint_L0 (slices_Repeat_Lint_S0 (w64 (x0 + (((min (Int.toNat ((((len x1) : Nat) : Int) - x0)) (len (slc x1 (Int.toNat (0 : Int)) ((Int.toNat (0 : Int)) + (Int.toNat (x0 - (0 : Int))))))) : Nat) : Int))) (put x1 (Int.toNat x0) (slc (slc x1 (Int.toNat (0 : Int)) ((Int.toNat (0 : Int)) + (Int.toNat (x0 - (0 : Int))))) 0 (min (Int.toNat ((((len x1) : Nat) : Int) - x0)) (len (slc x1 (Int.toNat (0 : Int)) ((Int.toNat (0 : Int)) + (Int.toNat (x0 - (0 : Int))))))))) x2)))))
 (K (.one (dL x1)) [])) := by kernel_rfl
theorem slices_Repeat_Lint_w0 (m : Nat) (K : KK) (st : St) : goD Γ_slices_Repeat_Lint tab fn_slices_Repeat_Lint 0 K (m + 1) slices_Repeat_Lint_L0 st = segD Γ_slices_Repeat_Lint tab fn_slices_Repeat_Lint 0 K (goD Γ_slices_Repeat_Lint tab fn_slices_Repeat_Lint 0 K m) (.code (Code.sub (bodyOf fn_slices_Repeat_Lint) [1, 1, 1, 1, 1, 1, 0, 0, 0]) :: slices_Repeat_Lint_L0) st := rfl

theorem u64w_id {n : Int} (h1 : 0 ≤ n) (h2 : n < 18446744073709551616) : u64w n = n := by
  unfold u64w; rw [IntKind.wrap_u64]; omega
theorem inU64_of {n : Int} (h1 : 0 ≤ n) (h2 : n < 18446744073709551616) : inU64 n = true := by simp [inU64, h1, h2]
theorem put_rep (x : Int) (n k j : Nat) : put (List.replicate k x ++ List.replicate (n - k) 0) k (List.replicate j x) = List.replicate (k + j) x ++ List.replicate (n - (k + j)) 0 := by
  unfold put
  rw [List.take_left' (by simp), List.length_replicate]
  rw [show List.drop (k + j) (List.replicate k x ++ List.replicate (n - k) (0 : Int)) = List.replicate (n - (k + j)) 0 from by
    rw [List.drop_append, List.drop_of_length_le (by simp)]
    simp
    omega]
  rw [List.replicate_append_replicate]
theorem loop_slices_Repeat_Lint (x : Int) (n : Nat) (hn : n ≤ 1000000) (K : KK) (hK : K (.one (dL (zeros n x))) []) : ∀ (d k : Nat), n ≤ k + d → k ≤ n → (0 < n → 0 < k) →
    goD Γ_slices_Repeat_Lint tab fn_slices_Repeat_Lint 0 K (d + 1) slices_Repeat_Lint_L0 (slices_Repeat_Lint_S0 (k : Int) (List.replicate k x ++ List.replicate (n - k) 0) [])
  | 0, k, hd, hk, hp => by
    rw [slices_Repeat_Lint_w0, slices_Repeat_Lint_vc0 _ _ _ _ _]
    have e : k = n := by omega
    subst e
    refine lt_f (by simp [len]) ?_
    simpa [zeros] using hK
  | d + 1, k, hd, hk, hp => by
    rw [slices_Repeat_Lint_w0, slices_Repeat_Lint_vc0 _ _ _ _ _]
    have hl : len (List.replicate k x ++ List.replicate (n - k) (0 : Int)) = n := by simp [len]; omega
    rw [hl]
    by_cases c : k < n
    · refine lt_t (by omega) ⟨⟨by omega, by omega, by omega⟩, ⟨by omega, by omega, by omega⟩, ⟨by omega, by omega⟩, ?_⟩
      have e1 : slc (List.replicate k x ++ List.replicate (n - k) (0 : Int)) (Int.toNat 0) (Int.toNat 0 + Int.toNat ((k : Int) - 0)) = List.replicate k x := by
        rw [show Int.toNat 0 + Int.toNat ((k : Int) - 0) = k by omega]
        unfold slc
        rw [List.take_left' (by simp)]
        simp
      rw [e1]
      have e2 : len (List.replicate k x) = k := by simp [len]
      rw [e2]
      generalize hj : min (Int.toNat ((n : Int) - (k : Int))) k = j
      have hj' : j = min (n - k) k := by omega
      have e3 : slc (List.replicate k x) 0 j = List.replicate j x := by
        unfold slc
        rw [List.take_replicate]
        simp
        omega
      rw [e3, toNat_nat, put_rep x n k j, w64_id (by omega) (by omega), show (k : Int) + (j : Int) = ((k + j : Nat) : Int) by omega]
      exact loop_slices_Repeat_Lint x n hn K hK d (k + j) (by have := hp (by omega); omega) (by omega) (fun h => by have := hp h; omega)
    · have e : k = n := by omega
      subst e
      refine lt_f (by omega) ?_
      simpa [zeros] using hK
set_option maxHeartbeats 4000000 in
theorem run_slices_Repeat_Lint (x n : Int) (hp : 0 ≤ n ∧ n ≤ 1000000) (K : KK) (hK : K (.one (dL (zeros n.toNat x))) []) : ∃ m, goD Γ_slices_Repeat_Lint tab fn_slices_Repeat_Lint 0 K m [.code (bodyOf fn_slices_Repeat_Lint)] (initSt [.one (dL [x]), .one (dI n)] []) := by
  obtain ⟨h1, h2⟩ := hp
  refine ⟨n.toNat + 2, ?_⟩
  rw [slices_Repeat_Lint_w, slices_Repeat_Lint_vc _ _ _ _ _ rfl _ rfl _ rfl _ rfl]
  have e1 : u64w (((len (x :: [])) : Nat) : Int) = 1 := by simp only [len, List.length_cons, List.length_nil]; exact u64w_id (by omega) (by omega)
  rw [e1, u64w_id (n := n) h1 (by omega), Int.one_mul]
  have e2 : n / two64 = 0 := by unfold two64; omega
  have e3 : n % two64 = n := by unfold two64; omega
  rw [e2, e3, w64_id (by omega) (by omega)]
  refine lt_f h1 ⟨⟨inU64_of (by omega) (by omega), inU64_of h1 (by omega)⟩, lt_f (by omega) (lt_f (by omega) ⟨⟨h1, by omega, by omega⟩, ?_⟩)⟩
  obtain ⟨k, rfl⟩ := Int.eq_ofNat_of_zero_le h1
  rw [toNat_nat] at hK ⊢
  have e4 : len (zeros k (Ty.dflt Ty.int)) = k := by simp [len, zeros]
  rw [e4]
  have := loop_slices_Repeat_Lint x k (by omega) K hK k (min k 1) (by omega) (by omega) (by omega)
  have e5 : put (zeros k (Ty.dflt Ty.int)) 0 (slc (x :: []) 0 (min k (len (x :: [])))) = List.replicate (min k 1) x ++ List.replicate (k - min k 1) 0 := by
    have h := put_rep x k 0 (min k 1)
    rw [Nat.zero_add] at h
    rw [← h]
    have : slc (x :: []) 0 (min k (len (x :: []))) = List.replicate (min k 1) x := by
      simp only [len, List.length_cons, List.length_nil, slc]
      cases k with
      | zero => simp
      | succ k => rw [show min (k + 1) (0 + 1) = 1 by omega]; rfl
    rw [this]
    rfl
  rw [e5, show min k (len (x :: [])) = min k 1 from rfl]
  exact this
theorem sound_slices_Repeat_Lint : SoundC Tryz.prog tab n_slices_Repeat_Lint c_slices_Repeat_Lint := soundC_of ok_slices_Repeat_Lint hf_slices_Repeat_Lint hB_slices_Repeat_Lint (by
  intro vs bs p v bs' h hp
  unfold c_slices_Repeat_Lint at h
  split at h
  · cases h
    exact ⟨by kernel_rfl, rfl, .inl (run_slices_Repeat_Lint _ _ hp.1 _ ⟨rfl, rfl⟩)⟩
  · cases h)

def c_flash_New : Contract := fun vs bs => match vs, bs with
  | [.one (.dat .int n)], [] => some (none, .tup [.agg [.dat (.list .int) (newFlash n).1.words, .dat .int (newFlash n).1.fuel], .one (.dat .int (newFlash n).2)], [])
  | _, _ => none
def Γ_flash_New : Ctx := [(n_slices_Repeat_Lint, c_slices_Repeat_Lint)]
theorem ok_flash_New : Ok Tryz.prog tab Γ_flash_New := (ok_nil.consC hf_slices_Repeat_Lint hB_slices_Repeat_Lint sound_slices_Repeat_Lint)
theorem flash_New_vc (n : Int) (rec : RK) (K : KK) v0 (hv0 : v0 = (K (.tup [.agg [dL [], dI (0 : Int)], .one (dI (3 : Int))]) [])) : segD Γ_flash_New tab fn_flash_New 0 K rec [.code (bodyOf fn_flash_New)] (initSt [.one (dI n)] []) = (
 br (lti n (1 : Int))
 v0
 (br (lti (6 : Int) n)
 v0
 ((((0 : Int) ≤ (w64 (n * (32 : Int)))) ∧ ((w64 (n * (32 : Int))) ≤ (1000000 : Int))) ∧
 (K (.tup [.agg [dL (zeros (Int.toNat (w64 (n * (32 : Int)))) (65535 : Int)), dI (-(1 : Int))], .one (dI (0 : Int))]) [])))) := by subst_vars; kernel_rfl
theorem flash_New_w (m : Nat) (K : KK) (st : St) : goD Γ_flash_New tab fn_flash_New 0 K (m + 1) [.code (bodyOf fn_flash_New)] st = segD Γ_flash_New tab fn_flash_New 0 K (goD Γ_flash_New tab fn_flash_New 0 K m) [.code (bodyOf fn_flash_New)] st := rfl

set_option maxHeartbeats 4000000 in
theorem run_flash_New (n : Int) (K : KK) (hK : K (.tup [.agg [dL (newFlash n).1.words, dI (newFlash n).1.fuel], .one (dI (newFlash n).2)]) []) : ∃ m, goD Γ_flash_New tab fn_flash_New 0 K m [.code (bodyOf fn_flash_New)] (initSt [.one (dI n)] []) := by
  refine ⟨1, ?_⟩
  rw [flash_New_w, flash_New_vc _ _ _ _ rfl]
  unfold newFlash at hK
  refine lt_s (fun h => ?_) (fun h => lt_s (fun h2 => ?_) (fun h2 => ?_))
  · rw [if_neg (by omega)] at hK; exact hK
  · rw [if_neg (by omega)] at hK; exact hK
  · rw [if_pos ⟨h, h2⟩] at hK
    rw [w64_id (by omega) (by omega)]
    exact ⟨⟨by omega, by omega⟩, hK⟩
theorem sound_flash_New : SoundC Tryz.prog tab n_flash_New c_flash_New := soundC_of ok_flash_New hf_flash_New hB_flash_New (by
  intro vs bs p v bs' h hp
  unfold c_flash_New at h
  split at h
  · cases h
    exact ⟨by kernel_rfl, rfl, .inl (run_flash_New _ _ ⟨rfl, rfl⟩)⟩
  · cases h)

def c_log_Format : Contract := fun vs bs => match vs, bs with
  | [.agg [.dat (.list .int) ws, .dat .int fu]], [] => some (none, .tup [.agg [.dat (.list .int) (formatF ⟨ws, fu⟩).1.words, .dat .int (formatF ⟨ws, fu⟩).1.fuel], .one (.dat .int (formatF ⟨ws, fu⟩).2)], [])
  | _, _ => none
def Γ_log_Format : Ctx := [(n_flash_Check, c_flash_Check), (n_flash_Copy, c_flash_Copy), (n_flash_Wipe, c_flash_Wipe), (n_flash_Burn, (orC c_flash_Burn c_flash_Burn_b))]
theorem ok_log_Format : Ok Tryz.prog tab Γ_log_Format := ((((ok_nil.consC hf_flash_Burn hB_flash_Burn (soundC_or sound_flash_Burn sound_flash_Burn_b)).consC hf_flash_Wipe hB_flash_Wipe sound_flash_Wipe).consC hf_flash_Copy hB_flash_Copy sound_flash_Copy).consC hf_flash_Check hB_flash_Check sound_flash_Check)
theorem log_Format_vc (ws : List Int) (fu : Int) (rec : RK) (K : KK) v0 (hv0 : v0 = (checkFlash (⟨ws, fu⟩ : Flash))) v1 (hv1 : v1 = (wipeCh (1 : Int))) v2 (hv2 : v2 = (doCh (⟨ws, fu⟩ : Flash) v1)) v3 (hv3 : v3 = (wipeCh (0 : Int))) v4 (hv4 : v4 = (doCh (⟨v2.fst.words, v2.fst.fuel⟩ : Flash) v3)) v5 (hv5 : v5 = (burnCh (0 : Int) ((1 : Int) :: []))) v6 (hv6 : v6 = (doCh (⟨v4.fst.words, v4.fst.fuel⟩ : Flash) v5)) : segD Γ_log_Format tab fn_log_Format 0 K rec [.code (bodyOf fn_log_Format)] (initSt [.agg [dL ws, dI fu]] []) = (
 br (!(eqi v0 (0 : Int)))
 (K (.tup [.agg [dL [], dI (0 : Int)], .one (dI v0)]) [])
 (br (lti (((len ws) : Nat) : Int) (64 : Int))
 (K (.tup [.agg [dL [], dI (0 : Int)], .one (dI (4 : Int))]) [])
 ((((len ws) * 8) ≤ 140737488355328) ∧
 ((((-(1 : Int)) ≤ fu) ∧ ((fu ≤ (100000 : Int)) ∧ (((0 : Int) ≤ (1 : Int)) ∧ (((((1 : Int) + (1 : Int)) * (32 : Int)) ≤ (((len ws) : Nat) : Int)) ∧ ((len ws) ≤ 192))))) ∧
 (br (!v2.snd)
 (K (.tup [.agg [dL v2.fst.words, dI v2.fst.fuel], .one (dI (7 : Int))]) [])
 ((((-(1 : Int)) ≤ v2.fst.fuel) ∧ ((v2.fst.fuel ≤ (100000 : Int)) ∧ (((0 : Int) ≤ (0 : Int)) ∧ (((((0 : Int) + (1 : Int)) * (32 : Int)) ≤ (((len v2.fst.words) : Nat) : Int)) ∧ ((len v2.fst.words) ≤ 192))))) ∧
 (br (!v4.snd)
 (K (.tup [.agg [dL v4.fst.words, dI v4.fst.fuel], .one (dI (7 : Int))]) [])
 ((((-(1 : Int)) ≤ v4.fst.fuel) ∧ ((v4.fst.fuel ≤ (100000 : Int)) ∧ (((0 : Int) ≤ (0 : Int)) ∧ ((((0 : Int) + (((len ((1 : Int) :: [])) : Nat) : Int)) ≤ (((len v4.fst.words) : Nat) : Int)) ∧ ((len v4.fst.words) ≤ 192))))) ∧
 (br (!v6.snd)
 (K (.tup [.agg [dL v6.fst.words, dI v6.fst.fuel], .one (dI (7 : Int))]) [])
 (K (.tup [.agg [dL v6.fst.words, dI v6.fst.fuel], .one (dI (0 : Int))]) [])))))))))) := by subst_vars; kernel_rfl
theorem log_Format_w (m : Nat) (K : KK) (st : St) : goD Γ_log_Format tab fn_log_Format 0 K (m + 1) [.code (bodyOf fn_log_Format)] st = segD Γ_log_Format tab fn_log_Format 0 K (goD Γ_log_Format tab fn_log_Format 0 K m) [.code (bodyOf fn_log_Format)] st := rfl

set_option maxHeartbeats 4000000 in
theorem run_log_Format (ws : List Int) (fu : Int) (K : KK) (hK : K (.tup [.agg [dL (formatF ⟨ws, fu⟩).1.words, dI (formatF ⟨ws, fu⟩).1.fuel], .one (dI (formatF ⟨ws, fu⟩).2)]) []) : ∃ m, goD Γ_log_Format tab fn_log_Format 0 K m [.code (bodyOf fn_log_Format)] (initSt [.agg [dL ws, dI fu]] []) := by
  refine ⟨1, ?_⟩
  rw [log_Format_w, log_Format_vc _ _ _ _ _ rfl _ rfl _ rfl _ rfl _ rfl _ rfl _ rfl]
  unfold formatF at hK
  refine ne_s (fun h => ?_) (fun h => ?_)
  · rw [if_neg h] at hK; exact hK
  rw [if_pos h] at hK
  obtain ⟨c1, c2, c3, c4⟩ := checkFlash_ok h
  obtain ⟨c5, c6⟩ := okLen_le c1
  simp only at c2 c3 c5 c6
  refine lt_s (fun h2 => ?_) (fun h2 => ?_)
  · rw [if_neg (by simp only [len] at h2 ⊢; omega)] at hK; exact hK
  rw [if_pos (by simp only [len] at h2 ⊢; omega)] at hK
  unfold formatCh at hK
  rw [doCh_append, doCh_append] at hK
  obtain ⟨f1, f2⟩ := doCh_fuel ⟨ws, fu⟩ (wipeCh 1) c2 c3
  have l1 := doCh_len ⟨ws, fu⟩ (wipeCh 1)
  obtain ⟨g1, g2⟩ := doCh_fuel (doCh ⟨ws, fu⟩ (wipeCh 1)).1 (wipeCh 0) f1 f2
  have l2 := doCh_len (doCh ⟨ws, fu⟩ (wipeCh 1)).1 (wipeCh 0)
  simp only [len] at h2 l1 l2 ⊢
  refine ⟨by omega, ⟨c2, c3, by omega, by omega, by omega⟩, nt_s (fun h3 => ?_) (fun h3 => ⟨⟨f1, f2, by omega, by omega, by omega⟩, nt_s (fun h4 => ?_) (fun h4 => ⟨⟨g1, g2, by omega, ?_, ?_⟩, nt_s (fun h5 => ?_) (fun h5 => ?_)⟩)⟩)⟩
  · rw [if_neg (show ¬ (doCh ⟨ws, fu⟩ (wipeCh 1)).2 = true by simp [h3]), if_neg (by simp [h3])] at hK
    simp only [power, powerE, h3] at hK; exact hK
  · rw [if_pos h3, if_neg (show ¬ (doCh (doCh ⟨ws, fu⟩ (wipeCh 1)).1 (wipeCh 0)).2 = true from by rw [show (doCh (doCh ⟨ws, fu⟩ (wipeCh 1)).1 (wipeCh 0)).2 = false from h4]; simp)] at hK
    simp only [power] at hK
    rw [show (doCh (doCh ⟨ws, fu⟩ (wipeCh 1)).1 (wipeCh 0)).2 = false from h4] at hK
    exact hK
  · show (0 : Int) + _ ≤ ((doCh (doCh ⟨ws, fu⟩ (wipeCh 1)).1 (wipeCh 0)).1.words.length : Int)
    simp only [List.length_cons, List.length_nil]; omega
  · show (doCh (doCh ⟨ws, fu⟩ (wipeCh 1)).1 (wipeCh 0)).1.words.length ≤ _
    omega
  · rw [if_pos h3, if_pos (show (doCh (doCh ⟨ws, fu⟩ (wipeCh 1)).1 (wipeCh 0)).2 = true from h4)] at hK
    simp only [power] at hK
    rw [show (doCh (doCh (doCh ⟨ws, fu⟩ (wipeCh 1)).1 (wipeCh 0)).1 (burnCh 0 [1])).2 = false from h5] at hK
    exact hK
  · rw [if_pos h3, if_pos (show (doCh (doCh ⟨ws, fu⟩ (wipeCh 1)).1 (wipeCh 0)).2 = true from h4)] at hK
    simp only [power] at hK
    rw [show (doCh (doCh (doCh ⟨ws, fu⟩ (wipeCh 1)).1 (wipeCh 0)).1 (burnCh 0 [1])).2 = true from h5] at hK
    exact hK
theorem sound_log_Format : SoundC Tryz.prog tab n_log_Format c_log_Format := soundC_of ok_log_Format hf_log_Format hB_log_Format (by
  intro vs bs p v bs' h hp
  unfold c_log_Format at h
  split at h
  · cases h
    exact ⟨by kernel_rfl, rfl, .inl (run_log_Format _ _ _ ⟨rfl, rfl⟩)⟩
  · cases h)

def c_unit_New : Contract := fun vs bs => match vs, bs with
  | [.one (.dat (.list .int) l), .one (.dat .int name)], [] => some (none, .tup [.agg [.dat (.list .int) (newU l name).1.f.words, .dat .int (newU l name).1.f.fuel, .dat .bool (newU l name).1.up, .dat .int (newU l name).1.n, .dat .int (newU l name).1.got], .one (.dat .int (newU l name).2)], [])
  | _, _ => none
def Γ_unit_New : Ctx := [(n_meta_CheckImage, c_meta_CheckImage), (n_flash_New, c_flash_New), (n_log_Format, c_log_Format), (n_slot_Fill, c_slot_Fill), (n_slot_Seal, c_slot_Seal), (n_log_Append, c_log_Append)]
theorem ok_unit_New : Ok Tryz.prog tab Γ_unit_New := ((((((ok_nil.consC hf_log_Append hB_log_Append sound_log_Append).consC hf_slot_Seal hB_slot_Seal sound_slot_Seal).consC hf_slot_Fill hB_slot_Fill sound_slot_Fill).consC hf_log_Format hB_log_Format sound_log_Format).consC hf_flash_New hB_flash_New sound_flash_New).consC hf_meta_CheckImage hB_meta_CheckImage sound_meta_CheckImage)
theorem unit_New_vc (l : List Int) (name : Int) (rec : RK) (K : KK) v0 (hv0 : v0 = (checkImage l)) v1 (hv1 : v1 = (applyCh (zeros (Int.toNat ((6 : Int) * (32 : Int))) (65535 : Int)) formatCh)) v2 (hv2 : v2 = (fillS ⟨v1, (-(1 : Int))⟩ (0 : Int) (0 : Int) l)) v3 (hv3 : v3 = (sealS ⟨v2.fst.words, v2.fst.fuel⟩ (0 : Int) (((len l) : Nat) : Int) name)) v4 (hv4 : v4 = (smR [])) v5 (hv5 : v5 = (appendF ⟨v3.fst.words, v3.fst.fuel⟩ ((1 : Int) :: ((0 : Int) :: ((0 : Int) :: []))) [])) : segD Γ_unit_New tab fn_unit_New 0 K rec [.code (bodyOf fn_unit_New)] (initSt [.one (dL l), .one (dI name)] []) = (
 br (!(eqi v0 (0 : Int)))
 (K (.tup [.agg [dL [], dI (0 : Int), dB false, dI (0 : Int), dI (0 : Int)], .one (dI v0)]) [])
 (((List.length l) ≤ 140737488355328) ∧
 (br (!(eqi v3.snd (0 : Int)))
 (K (.tup [.agg [dL [], dI (0 : Int), dB false, dI (0 : Int), dI (0 : Int)], .one (dI v3.snd)]) [])
 ((((List.length ((1 : Int) :: ((0 : Int) :: ((0 : Int) :: [])))) ≤ 140737488355328) ∧ (((0 * 24) ≤ 140737488351232) ∧ (v4 = true))) ∧
 (K (.tup [.agg [dL v5.fst.words, dI v5.fst.fuel, dB true, dI (0 : Int), dI (0 : Int)], .one (dI (0 : Int))]) []))))) := by subst_vars; kernel_rfl
theorem unit_New_w (m : Nat) (K : KK) (st : St) : goD Γ_unit_New tab fn_unit_New 0 K (m + 1) [.code (bodyOf fn_unit_New)] st = segD Γ_unit_New tab fn_unit_New 0 K (goD Γ_unit_New tab fn_unit_New 0 K m) [.code (bodyOf fn_unit_New)] st := rfl

set_option maxHeartbeats 4000000 in
theorem run_unit_New (l : List Int) (name : Int) (K : KK) (hK : K (.tup [.agg [dL (newU l name).1.f.words, dI (newU l name).1.f.fuel, dB (newU l name).1.up, dI (newU l name).1.n, dI (newU l name).1.got], .one (dI (newU l name).2)]) []) : ∃ m, goD Γ_unit_New tab fn_unit_New 0 K m [.code (bodyOf fn_unit_New)] (initSt [.one (dL l), .one (dI name)] []) := by
  obtain ⟨F, hF⟩ : ∃ F, F = applyCh (zeros (Int.toNat ((6 : Int) * (32 : Int))) (65535 : Int)) formatCh := ⟨_, rfl⟩
  refine ⟨1, Eq.mpr (unit_New_vc l name (goD Γ_unit_New tab fn_unit_New 0 K 0) K _ rfl F hF _ rfl _ rfl _ rfl _ rfl) ?_⟩
  have e : (formatF (newFlash 6).1).1 = ⟨F, -1⟩ := by rw [hF]; kernel_rfl
  clear hF
  unfold newU factoryU at hK
  rw [e] at hK
  refine ne_s (fun h => ?_) (fun h => ⟨?_, ne_s (fun h2 => ?_) (fun h2 => ⟨⟨by simp, by omega, rfl⟩, ?_⟩)⟩)
  · rw [if_neg h] at hK; exact hK
  · have := checkImage_ok h; omega
  · rw [if_pos h, if_neg (show ¬ (sealS (fillS ⟨F, -1⟩ 0 0 l).1 0 (l.length : Int) name).2 = 0 from h2)] at hK; exact hK
  · rw [if_pos h, if_pos (show (sealS (fillS ⟨F, -1⟩ 0 0 l).1 0 (l.length : Int) name).2 = 0 from h2)] at hK; exact hK
theorem sound_unit_New : SoundC Tryz.prog tab n_unit_New c_unit_New := soundC_of ok_unit_New hf_unit_New hB_unit_New (by
  intro vs bs p v bs' h hp
  unfold c_unit_New at h
  split at h
  · cases h
    exact ⟨by kernel_rfl, rfl, .inl (run_unit_New _ _ _ ⟨rfl, rfl⟩)⟩
  · cases h)

def c_unit_Read : Contract := fun vs bs => match vs, bs with
  | [.agg [.dat (.list .int) ws, .dat .int fu, .dat .bool up, .dat .int un, .dat .int ug]], [] => some (none, .tup [.agg [.dat .int (readU ⟨⟨ws, fu⟩, up, un, ug⟩).1.slot, .dat .int (readU ⟨⟨ws, fu⟩, up, un, ug⟩).1.by_, .dat .int (readU ⟨⟨ws, fu⟩, up, un, ug⟩).1.ready], .one (.dat .int (readU ⟨⟨ws, fu⟩, up, un, ug⟩).2)], [])
  | _, _ => none
def Γ_unit_Read : Ctx := [(n_unit_Check, c_unit_Check), (n_unit_of, c_unit_of)]
theorem ok_unit_Read : Ok Tryz.prog tab Γ_unit_Read := ((ok_nil.consC hf_unit_of hB_unit_of sound_unit_of).consC hf_unit_Check hB_unit_Check sound_unit_Check)
theorem unit_Read_vc (ws : List Int) (fu : Int) (up : Bool) (un : Int) (ug : Int) (rec : RK) (K : KK) v0 (hv0 : v0 = (checkU ⟨⟨ws, fu⟩, up, un, ug⟩)) v1 (hv1 : v1 = (ofU ⟨ws, fu⟩)) : segD Γ_unit_Read tab fn_unit_Read 0 K rec [.code (bodyOf fn_unit_Read)] (initSt [.agg [dL ws, dI fu, dB up, dI un, dI ug]] []) = (
 br (!(eqi v0 (0 : Int)))
 (K (.tup [.agg [dI (0 : Int), dI (0 : Int), dI (0 : Int)], .one (dI v0)]) [])
 (K (.tup [.agg [dI v1.slot, dI v1.by_, dI v1.ready], .one (dI (0 : Int))]) [])) := by subst_vars; kernel_rfl
theorem unit_Read_w (m : Nat) (K : KK) (st : St) : goD Γ_unit_Read tab fn_unit_Read 0 K (m + 1) [.code (bodyOf fn_unit_Read)] st = segD Γ_unit_Read tab fn_unit_Read 0 K (goD Γ_unit_Read tab fn_unit_Read 0 K m) [.code (bodyOf fn_unit_Read)] st := rfl

set_option maxHeartbeats 4000000 in
theorem run_unit_Read (ws : List Int) (fu : Int) (up : Bool) (un ug : Int) (K : KK) (hK : K (.tup [.agg [dI (readU ⟨⟨ws, fu⟩, up, un, ug⟩).1.slot, dI (readU ⟨⟨ws, fu⟩, up, un, ug⟩).1.by_, dI (readU ⟨⟨ws, fu⟩, up, un, ug⟩).1.ready], .one (dI (readU ⟨⟨ws, fu⟩, up, un, ug⟩).2)]) []) : ∃ m, goD Γ_unit_Read tab fn_unit_Read 0 K m [.code (bodyOf fn_unit_Read)] (initSt [.agg [dL ws, dI fu, dB up, dI un, dI ug]] []) := by
  refine ⟨1, ?_⟩
  rw [unit_Read_w, unit_Read_vc _ _ _ _ _ _ _ _ rfl _ rfl]
  unfold readU at hK
  refine ne_s (fun h => ?_) (fun h => ?_)
  · rw [if_neg h] at hK; exact hK
  · rw [if_pos h] at hK; exact hK
theorem sound_unit_Read : SoundC Tryz.prog tab n_unit_Read c_unit_Read := soundC_of ok_unit_Read hf_unit_Read hB_unit_Read (by
  intro vs bs p v bs' h hp
  unfold c_unit_Read at h
  split at h
  · cases h
    exact ⟨by kernel_rfl, rfl, .inl (run_unit_Read _ _ _ _ _ _ ⟨rfl, rfl⟩)⟩
  · cases h)

def c_unit_Runs : Contract := fun vs bs => match vs, bs with
  | [.agg [.dat (.list .int) ws, .dat .int fu, .dat .bool up, .dat .int un, .dat .int ug]], [] => some (none, .tup [.one (.dat (.list .int) (runsU ⟨⟨ws, fu⟩, up, un, ug⟩).1), .one (.dat .int (runsU ⟨⟨ws, fu⟩, up, un, ug⟩).2.1), .one (.dat .int (runsU ⟨⟨ws, fu⟩, up, un, ug⟩).2.2)], [])
  | _, _ => none
def Γ_unit_Runs : Ctx := [(n_unit_Check, c_unit_Check), (n_unit_of, c_unit_of), (n_slot_Image, c_slot_Image)]
theorem ok_unit_Runs : Ok Tryz.prog tab Γ_unit_Runs := (((ok_nil.consC hf_slot_Image hB_slot_Image sound_slot_Image).consC hf_unit_of hB_unit_of sound_unit_of).consC hf_unit_Check hB_unit_Check sound_unit_Check)
theorem unit_Runs_vc (ws : List Int) (fu : Int) (up : Bool) (un : Int) (ug : Int) (rec : RK) (K : KK) v0 (hv0 : v0 = (checkU ⟨⟨ws, fu⟩, up, un, ug⟩)) v1 (hv1 : v1 = (ofU ⟨ws, fu⟩)) v2 (hv2 : v2 = (imageS ⟨ws, fu⟩ v1.slot)) : segD Γ_unit_Runs tab fn_unit_Runs 0 K rec [.code (bodyOf fn_unit_Runs)] (initSt [.agg [dL ws, dI fu, dB up, dI un, dI ug]] []) = (
 br (!(eqi v0 (0 : Int)))
 (K (.tup [.one (dL []), .one (dI (0 : Int)), .one (dI v0)]) [])
 (K (.tup [.one (dL v2.fst), .one (dI v2.snd.fst), .one (dI v2.snd.snd)]) [])) := by subst_vars; kernel_rfl
theorem unit_Runs_w (m : Nat) (K : KK) (st : St) : goD Γ_unit_Runs tab fn_unit_Runs 0 K (m + 1) [.code (bodyOf fn_unit_Runs)] st = segD Γ_unit_Runs tab fn_unit_Runs 0 K (goD Γ_unit_Runs tab fn_unit_Runs 0 K m) [.code (bodyOf fn_unit_Runs)] st := rfl

set_option maxHeartbeats 4000000 in
theorem run_unit_Runs (ws : List Int) (fu : Int) (up : Bool) (un ug : Int) (K : KK) (hK : K (.tup [.one (dL (runsU ⟨⟨ws, fu⟩, up, un, ug⟩).1), .one (dI (runsU ⟨⟨ws, fu⟩, up, un, ug⟩).2.1), .one (dI (runsU ⟨⟨ws, fu⟩, up, un, ug⟩).2.2)]) []) : ∃ m, goD Γ_unit_Runs tab fn_unit_Runs 0 K m [.code (bodyOf fn_unit_Runs)] (initSt [.agg [dL ws, dI fu, dB up, dI un, dI ug]] []) := by
  refine ⟨1, ?_⟩
  rw [unit_Runs_w, unit_Runs_vc _ _ _ _ _ _ _ _ rfl _ rfl _ rfl]
  unfold runsU at hK
  refine ne_s (fun h => ?_) (fun h => ?_)
  · rw [if_neg h] at hK; exact hK
  · rw [if_pos h] at hK; exact hK
theorem sound_unit_Runs : SoundC Tryz.prog tab n_unit_Runs c_unit_Runs := soundC_of ok_unit_Runs hf_unit_Runs hB_unit_Runs (by
  intro vs bs p v bs' h hp
  unfold c_unit_Runs at h
  split at h
  · cases h
    exact ⟨by kernel_rfl, rfl, .inl (run_unit_Runs _ _ _ _ _ _ ⟨rfl, rfl⟩)⟩
  · cases h)

def c_unit_Boot : Contract := fun vs bs => match vs, bs with
  | [.agg [.dat (.list .int) ws, .dat .int fu, .dat .bool up, .dat .int un, .dat .int ug]], [] => some (none, .tup [.agg [.dat (.list .int) (bootU ⟨⟨ws, fu⟩, up, un, ug⟩).1.f.words, .dat .int (bootU ⟨⟨ws, fu⟩, up, un, ug⟩).1.f.fuel, .dat .bool (bootU ⟨⟨ws, fu⟩, up, un, ug⟩).1.up, .dat .int (bootU ⟨⟨ws, fu⟩, up, un, ug⟩).1.n, .dat .int (bootU ⟨⟨ws, fu⟩, up, un, ug⟩).1.got], .one (.dat .int (bootU ⟨⟨ws, fu⟩, up, un, ug⟩).2)], [])
  | _, _ => none
def Γ_unit_Boot : Ctx := [(n_unit_Check, c_unit_Check), (n_unit_Copy, c_unit_Copy), (n_unit_down, c_unit_down)]
theorem ok_unit_Boot : Ok Tryz.prog tab Γ_unit_Boot := (((ok_nil.consC hf_unit_down hB_unit_down sound_unit_down).consC hf_unit_Copy hB_unit_Copy sound_unit_Copy).consC hf_unit_Check hB_unit_Check sound_unit_Check)
theorem unit_Boot_vc (ws : List Int) (fu : Int) (up : Bool) (un : Int) (ug : Int) (rec : RK) (K : KK) v0 (hv0 : v0 = (checkU ⟨⟨ws, fu⟩, up, un, ug⟩)) : segD Γ_unit_Boot tab fn_unit_Boot 0 K rec [.code (bodyOf fn_unit_Boot)] (initSt [.agg [dL ws, dI fu, dB up, dI un, dI ug]] []) = (
 br (!(eqi v0 (0 : Int)))
 (K (.tup [.agg [dL [], dI (0 : Int), dB false, dI (0 : Int), dI (0 : Int)], .one (dI v0)]) [])
 ((((len ws) * 8) ≤ 140737488355328) ∧
 (K (.tup [.agg [dL ws, dI (-(1 : Int)), dB true, dI (0 : Int), dI (0 : Int)], .one (dI (0 : Int))]) []))) := by subst_vars; kernel_rfl
theorem unit_Boot_w (m : Nat) (K : KK) (st : St) : goD Γ_unit_Boot tab fn_unit_Boot 0 K (m + 1) [.code (bodyOf fn_unit_Boot)] st = segD Γ_unit_Boot tab fn_unit_Boot 0 K (goD Γ_unit_Boot tab fn_unit_Boot 0 K m) [.code (bodyOf fn_unit_Boot)] st := rfl

set_option maxHeartbeats 4000000 in
theorem run_unit_Boot (ws : List Int) (fu : Int) (up : Bool) (un ug : Int) (K : KK) (hK : K (.tup [.agg [dL (bootU ⟨⟨ws, fu⟩, up, un, ug⟩).1.f.words, dI (bootU ⟨⟨ws, fu⟩, up, un, ug⟩).1.f.fuel, dB (bootU ⟨⟨ws, fu⟩, up, un, ug⟩).1.up, dI (bootU ⟨⟨ws, fu⟩, up, un, ug⟩).1.n, dI (bootU ⟨⟨ws, fu⟩, up, un, ug⟩).1.got], .one (dI (bootU ⟨⟨ws, fu⟩, up, un, ug⟩).2)]) []) : ∃ m, goD Γ_unit_Boot tab fn_unit_Boot 0 K m [.code (bodyOf fn_unit_Boot)] (initSt [.agg [dL ws, dI fu, dB up, dI un, dI ug]] []) := by
  refine ⟨1, ?_⟩
  rw [unit_Boot_w, unit_Boot_vc _ _ _ _ _ _ _ _ rfl]
  unfold bootU at hK
  refine ne_s (fun h => ?_) (fun h => ⟨?_, ?_⟩)
  · rw [if_neg h] at hK; exact hK
  · have := (checkU_ok h).2.1
    simp only at this; simp only [len]; omega
  · rw [if_pos h] at hK; exact hK
theorem sound_unit_Boot : SoundC Tryz.prog tab n_unit_Boot c_unit_Boot := soundC_of ok_unit_Boot hf_unit_Boot hB_unit_Boot (by
  intro vs bs p v bs' h hp
  unfold c_unit_Boot at h
  split at h
  · cases h
    exact ⟨by kernel_rfl, rfl, .inl (run_unit_Boot _ _ _ _ _ _ ⟨rfl, rfl⟩)⟩
  · cases h)

def c_ref_allWords : Contract := fun vs bs => match vs, bs with
  | [.one (.dat (.list .int) l)], [] => some (some (Sm l), .one (.dat .bool (okWords l)), [])
  | _, _ => none
def Γ_ref_allWords : Ctx := [(n_slices_ContainsFunc_Lint, c_slices_ContainsFunc_Lint), (n_ref_allWords_1, c_ref_allWords_1)]
theorem ok_ref_allWords : Ok Tryz.prog tab Γ_ref_allWords := ((ok_nil.consC hf_ref_allWords_1 hB_ref_allWords_1 sound_ref_allWords_1).consC hf_slices_ContainsFunc_Lint hB_slices_ContainsFunc_Lint sound_slices_ContainsFunc_Lint)
theorem ref_allWords_vc (l : List Int) (rec : RK) (K : KK) v0 (hv0 : v0 = (okWords l)) : segD Γ_ref_allWords tab fn_ref_allWords 0 K rec [.code (bodyOf fn_ref_allWords)] (initSt [.one (dL l)] []) = (
 ((List.length l) ≤ 140737488355328) ∧
 (K (.one (dB (!(!v0)))) [])) := by subst_vars; kernel_rfl
theorem ref_allWords_w (m : Nat) (K : KK) (st : St) : goD Γ_ref_allWords tab fn_ref_allWords 0 K (m + 1) [.code (bodyOf fn_ref_allWords)] st = segD Γ_ref_allWords tab fn_ref_allWords 0 K (goD Γ_ref_allWords tab fn_ref_allWords 0 K m) [.code (bodyOf fn_ref_allWords)] st := rfl

set_option maxHeartbeats 4000000 in
theorem run_ref_allWords (l : List Int) (hp : Sm l) (K : KK) (hK : K (.one (dB (okWords l))) []) : ∃ m, goD Γ_ref_allWords tab fn_ref_allWords 0 K m [.code (bodyOf fn_ref_allWords)] (initSt [.one (dL l)] []) := by
  refine ⟨1, ?_⟩
  rw [ref_allWords_w, ref_allWords_vc _ _ _ _ rfl]
  refine ⟨hp, ?_⟩
  rw [Bool.not_not]
  exact hK
theorem sound_ref_allWords : SoundC Tryz.prog tab n_ref_allWords c_ref_allWords := soundC_of ok_ref_allWords hf_ref_allWords hB_ref_allWords (by
  intro vs bs p v bs' h hp
  unfold c_ref_allWords at h
  split at h
  · cases h
    exact ⟨by kernel_rfl, rfl, .inl (run_ref_allWords _ hp.1 _ ⟨rfl, rfl⟩)⟩
  · cases h)

def c_ref_CheckFlash : Contract := fun vs bs => match vs, bs with
  | [.agg [.dat (.list .int) ws, .dat .int fu]], [] => some (some (Sm ws), .one (.dat .int (checkFlash ⟨ws, fu⟩)), [])
  | _, _ => none
def Γ_ref_CheckFlash : Ctx := [(n_ref_allWords, c_ref_allWords)]
theorem ok_ref_CheckFlash : Ok Tryz.prog tab Γ_ref_CheckFlash := (ok_nil.consC hf_ref_allWords hB_ref_allWords sound_ref_allWords)
theorem ref_CheckFlash_vc (ws : List Int) (fu : Int) (rec : RK) (K : KK) v0 (hv0 : v0 = (okWords ws)) v1 (hv1 : v1 = (br (lti fu (-(1 : Int)))
 (K (.one (dI (3 : Int))) [])
 (br (lti (100000 : Int) fu)
 (K (.one (dI (3 : Int))) [])
 (((List.length ws) ≤ 140737488355328) ∧
 (br (!v0)
 (K (.one (dI (3 : Int))) [])
 (K (.one (dI (0 : Int))) [])))))) : segD Γ_ref_CheckFlash tab fn_ref_CheckFlash 0 K rec [.code (bodyOf fn_ref_CheckFlash)] (initSt [.agg [dL ws, dI fu]] []) = (
 br (!(eqi (((len ws) : Nat) : Int) (32 : Int)))
 (br (!(eqi (((len ws) : Nat) : Int) (64 : Int)))
 (br (!(eqi (((len ws) : Nat) : Int) (96 : Int)))
 (br (!(eqi (((len ws) : Nat) : Int) (128 : Int)))
 (br (!(eqi (((len ws) : Nat) : Int) (160 : Int)))
 (br (!(eqi (((len ws) : Nat) : Int) (192 : Int)))
 (K (.one (dI (4 : Int))) [])
 v1)
 v1)
 v1)
 v1)
 v1)
 v1) := by subst_vars; kernel_rfl
theorem ref_CheckFlash_w (m : Nat) (K : KK) (st : St) : goD Γ_ref_CheckFlash tab fn_ref_CheckFlash 0 K (m + 1) [.code (bodyOf fn_ref_CheckFlash)] st = segD Γ_ref_CheckFlash tab fn_ref_CheckFlash 0 K (goD Γ_ref_CheckFlash tab fn_ref_CheckFlash 0 K m) [.code (bodyOf fn_ref_CheckFlash)] st := rfl

set_option maxHeartbeats 4000000 in
theorem run_ref_CheckFlash (ws : List Int) (fu : Int) (hp : Sm ws) (K : KK) (hK : K (.one (dI (checkFlash ⟨ws, fu⟩))) []) : ∃ m, goD Γ_ref_CheckFlash tab fn_ref_CheckFlash 0 K m [.code (bodyOf fn_ref_CheckFlash)] (initSt [.agg [dL ws, dI fu]] []) := by
  refine ⟨1, ?_⟩
  rw [ref_CheckFlash_w, ref_CheckFlash_vc _ _ _ _ _ rfl _ rfl]
  have good : okLen ws.length = true → br (lti fu (-(1 : Int))) (K (.one (dI (3 : Int))) []) (br (lti (100000 : Int) fu) (K (.one (dI (3 : Int))) []) (((List.length ws) ≤ 140737488355328) ∧ (br (!(okWords ws)) (K (.one (dI (3 : Int))) []) (K (.one (dI (0 : Int))) [])))) := fun hl => by
    have three : (decide (-1 ≤ fu) && decide (fu ≤ 100000) && okWords ws) = false → K (.one (dI 3)) [] := fun h => by
      rw [show checkFlash ⟨ws, fu⟩ = 3 from by simp [checkFlash, hl, h]] at hK; exact hK
    refine lt_s (fun h => three (by simp; omega)) (fun h => lt_s (fun h2 => three (by simp; omega)) (fun h2 => ⟨hp, nt_s (fun h3 => three (by simp [h3])) (fun h3 => ?_)⟩))
    rw [show checkFlash ⟨ws, fu⟩ = 0 from checkFlash_mk hl h h2 h3] at hK; exact hK
  simp only [len]
  refine ne_s (fun h1 => ne_s (fun h2 => ne_s (fun h3 => ne_s (fun h4 => ne_s (fun h5 => ne_s (fun h6 => ?_) (fun h => good ?_)) (fun h => good ?_)) (fun h => good ?_)) (fun h => good ?_)) (fun h => good ?_)) (fun h => good ?_)
  · rw [show checkFlash ⟨ws, fu⟩ = 4 from by
      have : okLen ws.length = false := by simp [okLen]; omega
      simp [checkFlash, this]] at hK
    exact hK
  all_goals (simp [okLen]; omega)
theorem sound_ref_CheckFlash : SoundC Tryz.prog tab n_ref_CheckFlash c_ref_CheckFlash := soundC_of ok_ref_CheckFlash hf_ref_CheckFlash hB_ref_CheckFlash (by
  intro vs bs p v bs' h hp
  unfold c_ref_CheckFlash at h
  split at h
  · cases h
    exact ⟨by kernel_rfl, rfl, .inl (run_ref_CheckFlash _ _ hp.1 _ ⟨rfl, rfl⟩)⟩
  · cases h)

def c_ref_generation : Contract := fun vs bs => match vs, bs with
  | [.agg [.dat (.list .int) ws, .dat .int _], .one (.dat .int sector)], [] => some (some (0 ≤ sector ∧ sector ≤ 1 ∧ 64 ≤ len ws), .one (.dat .int (genOf ws sector.toNat)), [])
  | _, _ => none
def Γ_ref_generation : Ctx := []
theorem ok_ref_generation : Ok Tryz.prog tab Γ_ref_generation := ok_nil
theorem ref_generation_vc (ws : List Int) (fu : Int) (sector : Int) (rec : RK) (K : KK) : segD Γ_ref_generation tab fn_ref_generation 0 K rec [.code (bodyOf fn_ref_generation)] (initSt [.agg [dL ws, dI fu], .one (dI sector)] []) = (
 (((0 : Int) ≤ (w64 ((32 : Int) * sector))) ∧ ((w64 ((32 : Int) * sector)) < (((len ws) : Nat) : Int))) ∧
 (br (!(eqi (nth ws (Int.toNat (w64 ((32 : Int) * sector))) (Ty.dflt Ty.int)) (65535 : Int)))
 (K (.one (dI (nth ws (Int.toNat (w64 ((32 : Int) * sector))) (Ty.dflt Ty.int)))) [])
 (K (.one (dI (0 : Int))) []))) := by kernel_rfl
theorem ref_generation_w (m : Nat) (K : KK) (st : St) : goD Γ_ref_generation tab fn_ref_generation 0 K (m + 1) [.code (bodyOf fn_ref_generation)] st = segD Γ_ref_generation tab fn_ref_generation 0 K (goD Γ_ref_generation tab fn_ref_generation 0 K m) [.code (bodyOf fn_ref_generation)] st := rfl

set_option maxHeartbeats 4000000 in
theorem run_ref_generation (ws : List Int) (fu sector : Int) (hp : 0 ≤ sector ∧ sector ≤ 1 ∧ 64 ≤ len ws) (K : KK) (hK : K (.one (dI (genOf ws sector.toNat))) []) : ∃ m, goD Γ_ref_generation tab fn_ref_generation 0 K m [.code (bodyOf fn_ref_generation)] (initSt [.agg [dL ws, dI fu], .one (dI sector)] []) := by
  obtain ⟨h0, h1, h2⟩ := hp
  obtain ⟨s, rfl⟩ := Int.eq_ofNat_of_zero_le h0
  refine ⟨1, ?_⟩
  rw [ref_generation_w, ref_generation_vc _ _ _ _ _, w64_id (n := 32 * (s : Int)) (by omega) (by omega), show Int.toNat (32 * (s : Int)) = 32 * s by omega]
  rw [toNat_nat] at hK
  unfold genOf at hK
  have e : nth ws (32 * s) (Ty.dflt Ty.int) = ws.getD (32 * s) 0 := rfl
  rw [e]
  refine ⟨⟨by omega, by omega⟩, ne_s (fun h => ?_) (fun h => ?_)⟩
  · rw [if_neg h] at hK; exact hK
  · rw [if_pos h] at hK; exact hK
theorem sound_ref_generation : SoundC Tryz.prog tab n_ref_generation c_ref_generation := soundC_of ok_ref_generation hf_ref_generation hB_ref_generation (by
  intro vs bs p v bs' h hp
  unfold c_ref_generation at h
  split at h
  · cases h
    exact ⟨by kernel_rfl, rfl, .inl (run_ref_generation _ _ _ hp.1 _ ⟨rfl, rfl⟩)⟩
  · cases h)

def c_ref_counts : Contract := fun vs bs => match vs, bs with
  | [.agg [.dat (.list .int) ws, .dat .int _]], [] => some (some (64 ≤ len ws), .tup [.one (.dat .int (liveS ws)), .one (.dat .int (liveG ws))], [])
  | _, _ => none
def Γ_ref_counts : Ctx := [(n_ref_generation, c_ref_generation)]
theorem ok_ref_counts : Ok Tryz.prog tab Γ_ref_counts := (ok_nil.consC hf_ref_generation hB_ref_generation sound_ref_generation)
theorem ref_counts_vc (ws : List Int) (fu : Int) (rec : RK) (K : KK) v0 (hv0 : v0 = (genOf ws (Int.toNat (1 : Int)))) v1 (hv1 : v1 = (genOf ws (Int.toNat (0 : Int)))) : segD Γ_ref_counts tab fn_ref_counts 0 K rec [.code (bodyOf fn_ref_counts)] (initSt [.agg [dL ws, dI fu]] []) = (
 (((0 : Int) ≤ (0 : Int)) ∧ (((0 : Int) ≤ (1 : Int)) ∧ (64 ≤ (len ws)))) ∧
 ((((0 : Int) ≤ (1 : Int)) ∧ (((1 : Int) ≤ (1 : Int)) ∧ (64 ≤ (len ws)))) ∧
 (br (lei v0 v1)
 (K (.tup [.one (dI (0 : Int)), .one (dI v1)]) [])
 (K (.tup [.one (dI (1 : Int)), .one (dI v0)]) [])))) := by subst_vars; kernel_rfl
theorem ref_counts_w (m : Nat) (K : KK) (st : St) : goD Γ_ref_counts tab fn_ref_counts 0 K (m + 1) [.code (bodyOf fn_ref_counts)] st = segD Γ_ref_counts tab fn_ref_counts 0 K (goD Γ_ref_counts tab fn_ref_counts 0 K m) [.code (bodyOf fn_ref_counts)] st := rfl

set_option maxHeartbeats 4000000 in
theorem run_ref_counts (ws : List Int) (fu : Int) (hp : 64 ≤ len ws) (K : KK) (hK : K (.tup [.one (dI (liveS ws)), .one (dI (liveG ws))]) []) : ∃ m, goD Γ_ref_counts tab fn_ref_counts 0 K m [.code (bodyOf fn_ref_counts)] (initSt [.agg [dL ws, dI fu]] []) := by
  refine ⟨1, ?_⟩
  rw [ref_counts_w, ref_counts_vc _ _ _ _ _ rfl _ rfl]
  have e0 : genOf ws (Int.toNat (0 : Int)) = genOf ws 0 := rfl
  have e1 : genOf ws (Int.toNat (1 : Int)) = genOf ws 1 := rfl
  rw [e0, e1]
  unfold liveG liveS at hK
  refine ⟨⟨by omega, by omega, hp⟩, ⟨by omega, by omega, hp⟩, br_split (fun h => ?_) (fun h => ?_)⟩
  · rw [lei_true] at h
    rw [if_neg (by omega)] at hK; exact hK
  · rw [lei_false] at h
    rw [if_pos h] at hK; exact hK
theorem sound_ref_counts : SoundC Tryz.prog tab n_ref_counts c_ref_counts := soundC_of ok_ref_counts hf_ref_counts hB_ref_counts (by
  intro vs bs p v bs' h hp
  unfold c_ref_counts at h
  split at h
  · cases h
    exact ⟨by kernel_rfl, rfl, .inl (run_ref_counts _ _ hp.1 _ ⟨rfl, rfl⟩)⟩
  · cases h)

def c_ref_CheckLog : Contract := fun vs bs => match vs, bs with
  | [.agg [.dat (.list .int) ws, .dat .int fu]], [] => some (some (Sm ws), .one (.dat .int (checkLog ⟨ws, fu⟩)), [])
  | _, _ => none
def Γ_ref_CheckLog : Ctx := [(n_ref_CheckFlash, c_ref_CheckFlash), (n_ref_counts, c_ref_counts)]
theorem ok_ref_CheckLog : Ok Tryz.prog tab Γ_ref_CheckLog := ((ok_nil.consC hf_ref_counts hB_ref_counts sound_ref_counts).consC hf_ref_CheckFlash hB_ref_CheckFlash sound_ref_CheckFlash)
theorem ref_CheckLog_vc (ws : List Int) (fu : Int) (rec : RK) (K : KK) v0 (hv0 : v0 = (checkFlash (⟨ws, fu⟩ : Flash))) v1 (hv1 : v1 = (liveG ws)) : segD Γ_ref_CheckLog tab fn_ref_CheckLog 0 K rec [.code (bodyOf fn_ref_CheckLog)] (initSt [.agg [dL ws, dI fu]] []) = (
 ((List.length ws) ≤ 140737488355328) ∧
 (br (!(eqi v0 (0 : Int)))
 (K (.one (dI v0)) [])
 (br (eqi (((len ws) : Nat) : Int) (32 : Int))
 (K (.one (dI (4 : Int))) [])
 ((64 ≤ (len ws)) ∧
 (br (eqi v1 (0 : Int))
 (K (.one (dI (5 : Int))) [])
 (br (lti (60000 : Int) v1)
 (K (.one (dI (5 : Int))) [])
 (K (.one (dI (0 : Int))) []))))))) := by subst_vars; kernel_rfl
theorem ref_CheckLog_w (m : Nat) (K : KK) (st : St) : goD Γ_ref_CheckLog tab fn_ref_CheckLog 0 K (m + 1) [.code (bodyOf fn_ref_CheckLog)] st = segD Γ_ref_CheckLog tab fn_ref_CheckLog 0 K (goD Γ_ref_CheckLog tab fn_ref_CheckLog 0 K m) [.code (bodyOf fn_ref_CheckLog)] st := rfl

set_option maxHeartbeats 4000000 in
theorem run_ref_CheckLog (ws : List Int) (fu : Int) (hp : Sm ws) (K : KK) (hK : K (.one (dI (checkLog ⟨ws, fu⟩))) []) : ∃ m, goD Γ_ref_CheckLog tab fn_ref_CheckLog 0 K m [.code (bodyOf fn_ref_CheckLog)] (initSt [.agg [dL ws, dI fu]] []) := by
  refine ⟨1, ?_⟩
  rw [ref_CheckLog_w, ref_CheckLog_vc _ _ _ _ _ rfl _ rfl]
  unfold checkLog at hK
  refine ⟨hp, ne_s (fun h => ?_) (fun h => ?_)⟩
  · rw [if_neg h] at hK; exact hK
  rw [if_pos h] at hK
  obtain ⟨c1, _, _, c4⟩ := checkFlash_ok h
  simp only at c1 c4 hK
  have hn : ws.length = 32 ∨ 64 ≤ ws.length := by simp [okLen] at c1; omega
  have gr := genOf_range c4 (liveS ws)
  have gg : liveG ws = genOf ws (liveS ws) := rfl
  refine eq_s (fun h2 => ?_) (fun h2 => ?_)
  · rw [if_neg (by simp only [len] at h2; omega)] at hK; exact hK
  have h64 : 64 ≤ ws.length := by simp only [len] at h2; omega
  rw [if_pos h64] at hK
  refine ⟨h64, eq_s (fun h3 => ?_) (fun h3 => lt_s (fun h4 => ?_) (fun h4 => ?_))⟩
  · rw [if_neg (by omega)] at hK; exact hK
  · rw [if_neg (by omega)] at hK; exact hK
  · rw [if_pos (by omega)] at hK; exact hK
theorem sound_ref_CheckLog : SoundC Tryz.prog tab n_ref_CheckLog c_ref_CheckLog := soundC_of ok_ref_CheckLog hf_ref_CheckLog hB_ref_CheckLog (by
  intro vs bs p v bs' h hp
  unfold c_ref_CheckLog at h
  split at h
  · cases h
    exact ⟨by kernel_rfl, rfl, .inl (run_ref_CheckLog _ _ hp.1 _ ⟨rfl, rfl⟩)⟩
  · cases h)

def c_ref_CheckUnit : Contract := fun vs bs => match vs, bs with
  | [.agg [.dat (.list .int) ws, .dat .int fu, .dat .bool up, .dat .int un, .dat .int ug]], [] => some (some (Sm ws), .one (.dat .int (checkU ⟨⟨ws, fu⟩, up, un, ug⟩)), [])
  | _, _ => none
def Γ_ref_CheckUnit : Ctx := [(n_ref_CheckLog, c_ref_CheckLog)]
theorem ok_ref_CheckUnit : Ok Tryz.prog tab Γ_ref_CheckUnit := (ok_nil.consC hf_ref_CheckLog hB_ref_CheckLog sound_ref_CheckLog)
theorem ref_CheckUnit_vc (ws : List Int) (fu : Int) (up : Bool) (un : Int) (ug : Int) (rec : RK) (K : KK) v0 (hv0 : v0 = (checkLog ⟨ws, fu⟩)) : segD Γ_ref_CheckUnit tab fn_ref_CheckUnit 0 K rec [.code (bodyOf fn_ref_CheckUnit)] (initSt [.agg [dL ws, dI fu, dB up, dI un, dI ug]] []) = (
 ((List.length ws) ≤ 140737488355328) ∧
 (br (!(eqi v0 (0 : Int)))
 (K (.one (dI v0)) [])
 (br (!(eqi (((len ws) : Nat) : Int) (192 : Int)))
 (K (.one (dI (4 : Int))) [])
 (br (lti un (0 : Int))
 (K (.one (dI (3 : Int))) [])
 (br (lti (8 : Int) un)
 (K (.one (dI (3 : Int))) [])
 (br (lti ug (0 : Int))
 (K (.one (dI (3 : Int))) [])
 (br (lti (40 : Int) ug)
 (K (.one (dI (3 : Int))) [])
 (K (.one (dI (0 : Int))) [])))))))) := by subst_vars; kernel_rfl
theorem ref_CheckUnit_w (m : Nat) (K : KK) (st : St) : goD Γ_ref_CheckUnit tab fn_ref_CheckUnit 0 K (m + 1) [.code (bodyOf fn_ref_CheckUnit)] st = segD Γ_ref_CheckUnit tab fn_ref_CheckUnit 0 K (goD Γ_ref_CheckUnit tab fn_ref_CheckUnit 0 K m) [.code (bodyOf fn_ref_CheckUnit)] st := rfl

set_option maxHeartbeats 4000000 in
theorem run_ref_CheckUnit (ws : List Int) (fu : Int) (up : Bool) (un ug : Int) (hp : Sm ws) (K : KK) (hK : K (.one (dI (checkU ⟨⟨ws, fu⟩, up, un, ug⟩))) []) : ∃ m, goD Γ_ref_CheckUnit tab fn_ref_CheckUnit 0 K m [.code (bodyOf fn_ref_CheckUnit)] (initSt [.agg [dL ws, dI fu, dB up, dI un, dI ug]] []) := by
  refine ⟨1, ?_⟩
  rw [ref_CheckUnit_w, ref_CheckUnit_vc _ _ _ _ _ _ _ _ rfl]
  unfold checkU at hK
  simp only at hK
  refine ⟨hp, ne_s (fun h => ?_) (fun h => ne_s (fun h2 => ?_) (fun h2 => lt_s (fun h3 => ?_) (fun h3 => lt_s (fun h4 => ?_) (fun h4 => lt_s (fun h5 => ?_) (fun h5 => lt_s (fun h6 => ?_) (fun h6 => ?_))))))⟩
  · rw [if_neg h] at hK; exact hK
  · rw [if_pos h, if_neg (by simp only [len] at h2; omega)] at hK; exact hK
  all_goals rw [if_pos h, if_pos (by simp only [len] at h2; omega)] at hK
  · rw [if_pos (by omega)] at hK; exact hK
  · rw [if_pos (by omega)] at hK; exact hK
  · rw [if_pos (by omega)] at hK; exact hK
  · rw [if_pos (by omega)] at hK; exact hK
  · rw [if_neg (by omega)] at hK; exact hK
theorem sound_ref_CheckUnit : SoundC Tryz.prog tab n_ref_CheckUnit c_ref_CheckUnit := soundC_of ok_ref_CheckUnit hf_ref_CheckUnit hB_ref_CheckUnit (by
  intro vs bs p v bs' h hp
  unfold c_ref_CheckUnit at h
  split at h
  · cases h
    exact ⟨by kernel_rfl, rfl, .inl (run_ref_CheckUnit _ _ _ _ _ hp.1 _ ⟨rfl, rfl⟩)⟩
  · cases h)

def c_law_simple : Contract := fun vs bs => match vs, bs with
  | [], [] => some (none, .tup [.agg [.dat (.list .str) simpleB], .one (.dat (.list .signed) simpleL), .agg [.dat .int 1, .dat (.list .int) [3], .dat .int 1, .dat .int 0], .agg [.dat (.list .root) [], .dat (.list (.list .int)) [], .dat .int 1, .dat .int 5, .dat (.list .target) [⟨0, 2, 2⟩], .dat (.list .int) [3], .dat (.list (.list .int)) [[8, 8]]]], [])
  | _, _ => none
def Γ_law_simple : Ctx := []
theorem ok_law_simple : Ok Tryz.prog tab Γ_law_simple := ok_nil
theorem law_simple_vc (rec : RK) (K : KK) : segD Γ_law_simple tab fn_law_simple 0 K rec [.code (bodyOf fn_law_simple)] (initSt [] []) = (
 K (.tup [.agg [.dat (Ty.list Ty.str) (((105 : UInt8) :: ((109 : UInt8) :: ((97 : UInt8) :: ((103 : UInt8) :: ((101 : UInt8) :: ((32 : UInt8) :: ((55 : UInt8) :: []))))))) :: (((105 : UInt8) :: ((109 : UInt8) :: ((97 : UInt8) :: ((103 : UInt8) :: ((101 : UInt8) :: ((32 : UInt8) :: ((56 : UInt8) :: ((32 : UInt8) :: ((56 : UInt8) :: []))))))))) :: (((114 : UInt8) :: ((101 : UInt8) :: ((108 : UInt8) :: ((101 : UInt8) :: ((97 : UInt8) :: ((115 : UInt8) :: ((101 : UInt8) :: ((32 : UInt8) :: ((49 : UInt8) :: ((32 : UInt8) :: ((117 : UInt8) :: ((110 : UInt8) :: ((116 : UInt8) :: ((105 : UInt8) :: ((108 : UInt8) :: ((32 : UInt8) :: ((53 : UInt8) :: ((59 : UInt8) :: ((32 : UInt8) :: ((48 : UInt8) :: ((32 : UInt8) :: ((50 : UInt8) :: ((32 : UInt8) :: ((50 : UInt8) :: [])))))))))))))))))))))))) :: (((114 : UInt8) :: ((111 : UInt8) :: ((111 : UInt8) :: ((116 : UInt8) :: ((32 : UInt8) :: ((50 : UInt8) :: ((32 : UInt8) :: ((49 : UInt8) :: ((32 : UInt8) :: ((111 : UInt8) :: ((102 : UInt8) :: ((32 : UInt8) :: ((52 : UInt8) :: []))))))))))))) :: []))))], .one (.dat (Ty.list Ty.signed) ((⟨(3 : Int), (3 : Int)⟩ : Vm.Signed) :: ((⟨(3 : Int), (4 : Int)⟩ : Vm.Signed) :: ((⟨(4 : Int), (4 : Int)⟩ : Vm.Signed) :: ((⟨(4 : Int), (3 : Int)⟩ : Vm.Signed) :: []))))), .agg [dI (1 : Int), dL ((3 : Int) :: []), dI (1 : Int), dI (0 : Int)], .agg [.dat (Ty.list Ty.root) [], dR [], dI (1 : Int), dI (5 : Int), .dat (Ty.list Ty.target) ((⟨(0 : Int), (2 : Int), (2 : Int)⟩ : Vm.Target) :: []), dL ((3 : Int) :: []), dR (((8 : Int) :: ((8 : Int) :: [])) :: [])]]) []) := by kernel_rfl
theorem law_simple_w (m : Nat) (K : KK) (st : St) : goD Γ_law_simple tab fn_law_simple 0 K (m + 1) [.code (bodyOf fn_law_simple)] st = segD Γ_law_simple tab fn_law_simple 0 K (goD Γ_law_simple tab fn_law_simple 0 K m) [.code (bodyOf fn_law_simple)] st := rfl

set_option maxHeartbeats 4000000 in
theorem run_law_simple  (K : KK) (hK : K (.tup [.agg [.dat (.list .str) simpleB], .one (.dat (.list .signed) simpleL), .agg [dI 1, dL [3], dI 1, dI 0], .agg [.dat (.list .root) [], dR [], dI 1, dI 5, .dat (.list .target) [⟨0, 2, 2⟩], dL [3], dR [[8, 8]]]]) []) : ∃ m, goD Γ_law_simple tab fn_law_simple 0 K m [.code (bodyOf fn_law_simple)] (initSt [] []) := by
  refine ⟨1, ?_⟩
  rw [law_simple_w, law_simple_vc _ _]
  exact hK
theorem sound_law_simple : SoundC Tryz.prog tab n_law_simple c_law_simple := soundC_of ok_law_simple hf_law_simple hB_law_simple (by
  intro vs bs p v bs' h hp
  unfold c_law_simple at h
  split at h
  · cases h
    exact ⟨by kernel_rfl, rfl, .inl (run_law_simple  _ ⟨rfl, rfl⟩)⟩
  · cases h)

def c_law_united : Contract := fun vs bs => match vs, bs with
  | [], [] => some (none, .one (.dat .bool true), [])
  | _, _ => none
def Γ_law_united : Ctx := [(n_law_simple, c_law_simple), (n_unit_New, c_unit_New), (n_unit_Hear, c_unit_Hear), (n_unit_Runs, c_unit_Runs), (n_unit_Read, c_unit_Read), (n_slices_Equal_Lint, c_slices_Equal_Lint)]
theorem ok_law_united : Ok Tryz.prog tab Γ_law_united := ((((((ok_nil.consC hf_slices_Equal_Lint hB_slices_Equal_Lint sound_slices_Equal_Lint).consC hf_unit_Read hB_unit_Read sound_unit_Read).consC hf_unit_Runs hB_unit_Runs sound_unit_Runs).consC hf_unit_Hear hB_unit_Hear sound_unit_Hear).consC hf_unit_New hB_unit_New sound_unit_New).consC hf_law_simple hB_law_simple sound_law_simple)
noncomputable def law_united_L0 : List It := [.inLoop [35, 34, 33, 7, 6, 5, 1, 0] (Code.sub (bodyOf fn_law_united) [1, 1, 1, 1, 0, 1, 0, 0]), .inBlock 0, .code (Code.sub (bodyOf fn_law_united) [1, 1, 1, 1, 1])]
def law_united_S0 (x0 : Int) (x1 : Int) (x2 : Int) (x3 : Bool) (x4 : (List Vm.Message)) (x5 : (List Vm.Message)) (x6 : (List Int)) (x7 : Int) (x8 : Bool) (x9 : Int) (x10 : Int) (x11 : (List (List UInt8))) : St := ⟨[(35, .one (dI x0)), (34, .one (dI x1)), (33, .one (.own 0)), (7, .one (.own 1)), (6, .one (dI x2)), (5, .one (.ptr 2 0)), (1, .one (.ptr 3 0)), (0, .one (dB x3))], [(0, .arr Ty.message x4), (1, .arr Ty.message x5), (2, .box [dL x6, dI x7, dB x8, dI x9, dI x10]), (3, .box [.dat (Ty.list Ty.str) x11])], 4⟩
theorem law_united_vc (rec : RK) (K : KK) v0 (hv0 : v0 = (applyCh (zeros (Int.toNat ((6 : Int) * (32 : Int))) (65535 : Int)) formatCh)) v1 (hv1 : v1 = (burnCh (((68 : Int) + ((64 : Int) * (0 : Int))) + (0 : Int)) ((7 : Int) :: []))) v2 (hv2 : v2 = (applyCh v0 v1)) v3 (hv3 : v3 = (headOf (((List.length ((7 : Int) :: [])) : Nat) : Int) (1 : Int))) v4 (hv4 : v4 = (burnCh ((64 : Int) + ((64 : Int) * (0 : Int))) v3)) v5 (hv5 : v5 = (applyCh v2 v4)) v6 (hv6 : v6 = (liveS v5)) v7 (hv7 : v7 = (hereCh v6 0 ((1 : Int) :: ((0 : Int) :: ((0 : Int) :: []))))) v8 (hv8 : v8 = (applyCh v5 v7)) : segD Γ_law_united tab fn_law_united 0 K rec [.code (bodyOf fn_law_united)] (initSt [] []) = (
 rec law_united_L0 (law_united_S0 (0 : Int) (((len ((⟨(1 : Int), (0 : Int), (1 : Int), (0 : Int), (0 : Int), ((8 : Int) :: ((8 : Int) :: [])), false⟩ : Vm.Message) :: ((⟨(2 : Int), (0 : Int), (1 : Int), (2 : Int), (2 : Int), [], false⟩ : Vm.Message) :: ((⟨(4 : Int), (0 : Int), (1 : Int), (0 : Int), (0 : Int), [], false⟩ : Vm.Message) :: [])))) : Nat) : Int) (0 : Int) false ((⟨(1 : Int), (0 : Int), (1 : Int), (0 : Int), (0 : Int), ((8 : Int) :: ((8 : Int) :: [])), false⟩ : Vm.Message) :: ((⟨(2 : Int), (0 : Int), (1 : Int), (2 : Int), (2 : Int), [], false⟩ : Vm.Message) :: ((⟨(4 : Int), (0 : Int), (1 : Int), (0 : Int), (0 : Int), [], false⟩ : Vm.Message) :: []))) [] v8 (-(1 : Int)) true (0 : Int) (0 : Int) simpleB)) := by subst_vars; kernel_rfl
theorem law_united_w (m : Nat) (K : KK) (st : St) : goD Γ_law_united tab fn_law_united 0 K (m + 1) [.code (bodyOf fn_law_united)] st = segD Γ_law_united tab fn_law_united 0 K (goD Γ_law_united tab fn_law_united 0 K m) [.code (bodyOf fn_law_united)] st := rfl
theorem law_united_vc0 (x0 : Int) (x1 : Int) (x2 : Int) (x3 : Bool) (x4 : (List Vm.Message)) (x5 : (List Vm.Message)) (x6 : (List Int)) (x7 : Int) (x8 : Bool) (x9 : Int) (x10 : Int) (x11 : (List (List UInt8))) (rec : RK) (K : KK) v0 (hv0 : v0 = (hearU x11 ⟨⟨x6, x7⟩, x8, x9, x10⟩ ⟨((nth x4 (Int.toNat x0) (Ty.dflt Ty.message))).kind, ((nth x4 (Int.toNat x0) (Ty.dflt Ty.message))).unit, ((nth x4 (Int.toNat x0) (Ty.dflt Ty.message))).n, ((nth x4 (Int.toNat x0) (Ty.dflt Ty.message))).at_, ((nth x4 (Int.toNat x0) (Ty.dflt Ty.message))).image, ((nth x4 (Int.toNat x0) (Ty.dflt Ty.message))).words, ((nth x4 (Int.toNat x0) (Ty.dflt Ty.message))).yes⟩)) v1 (hv1 : v1 = (runsU ⟨⟨x6, x7⟩, x8, x9, x10⟩)) v2 (hv2 : v2 = (readU ⟨⟨x6, x7⟩, x8, x9, x10⟩)) v3 (hv3 : v3 = (eqIs v1.fst ((8 : Int) :: ((8 : Int) :: [])))) : segD Γ_law_united tab fn_law_united 0 K rec (.code (Code.sub (bodyOf fn_law_united) [1, 1, 1, 1, 0, 1, 0, 0]) :: law_united_L0) (law_united_S0 x0 x1 x2 x3 x4 x5 x6 x7 x8 x9 x10 x11) = (
 br (lti x0 x1)
 ((((0 : Int) ≤ x0) ∧ (x0 < (((len x4) : Nat) : Int))) ∧
 (((Int.toNat x0) < (len x4)) ∧
 (((List.length x11) ≤ 140737488355328) ∧
 (br (!(eqi x2 (0 : Int)))
 (K vF [])
 (br (!(eqi v0.snd (0 : Int)))
 (K vF [])
 (((((len x5) + (len v0.fst.snd)) * 72) ≤ 140737488355328) ∧
 (rec law_united_L0 (law_united_S0 (w64 (x0 + (1 : Int))) x1 x2 x3 x4 (cat x5 v0.fst.snd) v0.fst.fst.f.words v0.fst.fst.f.fuel v0.fst.fst.up v0.fst.fst.n v0.fst.fst.got x11))))))))
 (br (eqi v1.snd.snd (0 : Int))
 (br (eqi v2.snd (0 : Int))
 (((List.length v1.fst) ≤ 140737488355328) ∧
 (br v3
 (br (eqi v1.snd.fst (2 : Int))
 (br ((eqi v2.fst.slot (1 : Int)) && ((eqi v2.fst.by_ (1 : Int)) && ((eqi v2.fst.ready (0 : Int)) && true)))
 (br (eqi (((len x5) : Nat) : Int) (2 : Int))
 ((((0 : Int) ≤ (0 : Int)) ∧ ((0 : Int) < (((len x5) : Nat) : Int))) ∧
 (((Int.toNat (0 : Int)) < (len x5)) ∧
 (br ((nth x5 (Int.toNat (0 : Int)) (Ty.dflt Ty.message))).yes
 ((((0 : Int) ≤ (1 : Int)) ∧ ((1 : Int) < (((len x5) : Nat) : Int))) ∧
 (((Int.toNat (1 : Int)) < (len x5)) ∧
 (K (.one (dB (eqi ((nth x5 (Int.toNat (1 : Int)) (Ty.dflt Ty.message))).kind (6 : Int)))) [])))
 (K vF []))))
 (K vF []))
 (K vF []))
 (K vF []))
 (K vF [])))
 (K vF []))
 (K vF []))) := by subst_vars; kernel_rfl
theorem law_united_w0 (m : Nat) (K : KK) (st : St) : goD Γ_law_united tab fn_law_united 0 K (m + 1) law_united_L0 st = segD Γ_law_united tab fn_law_united 0 K (goD Γ_law_united tab fn_law_united 0 K m) (.code (Code.sub (bodyOf fn_law_united) [1, 1, 1, 1, 0, 1, 0, 0]) :: law_united_L0) st := rfl

set_option maxHeartbeats 4000000 in
theorem run_law_united  (K : KK) (hK : K (.one (dB true)) []) : ∃ m, goD Γ_law_united tab fn_law_united 0 K m [.code (bodyOf fn_law_united)] (initSt [] []) := by
  refine ⟨5, ?_⟩
  have e : goD Γ_law_united tab fn_law_united 0 K 5 [.code (bodyOf fn_law_united)] (initSt [] []) = (((0 : Int) ≤ 0 ∧ (0 : Int) < 3) ∧ 0 < 3 ∧ simpleB.length ≤ 140737488355328 ∧ (0 + 0) * 72 ≤ 140737488355328 ∧
      ((0 : Int) ≤ 1 ∧ (1 : Int) < 3) ∧ 1 < 3 ∧ simpleB.length ≤ 140737488355328 ∧ (0 + 1) * 72 ≤ 140737488355328 ∧
      ((0 : Int) ≤ 2 ∧ (2 : Int) < 3) ∧ 2 < 3 ∧ simpleB.length ≤ 140737488355328 ∧ (1 + 1) * 72 ≤ 140737488355328 ∧
      2 ≤ 140737488355328 ∧ ((0 : Int) ≤ 0 ∧ (0 : Int) < 2) ∧ 0 < 2 ∧ ((0 : Int) ≤ 1 ∧ (1 : Int) < 2) ∧ 1 < 2 ∧ K (.one (dB true)) []) := by kernel_rfl
  rw [e]
  exact ⟨by omega, by omega, by decide, by omega, by omega, by omega, by decide, by omega, by omega, by omega, by decide, by omega, by omega, by omega, by omega, by omega, by omega, hK⟩
theorem sound_law_united : SoundC Tryz.prog tab n_law_united c_law_united := soundC_of ok_law_united hf_law_united hB_law_united (by
  intro vs bs p v bs' h hp
  unfold c_law_united at h
  split at h
  · cases h
    exact ⟨by kernel_rfl, rfl, .inl (run_law_united  _ ⟨rfl, rfl⟩)⟩
  · cases h)

def c_ref_CheckMessage : Contract := fun vs bs => match vs, bs with
  | [.agg [.dat .int mk, .dat .int mu, .dat .int mn, .dat .int ma, .dat .int mi, .dat (.list .int) mw, .dat .bool my]], [] => some (none, .one (.dat .int (checkM ⟨mk, mu, mn, ma, mi, mw, my⟩)), [])
  | _, _ => none
def Γ_ref_CheckMessage : Ctx := [(n_ref_allWords, c_ref_allWords)]
theorem ok_ref_CheckMessage : Ok Tryz.prog tab Γ_ref_CheckMessage := (ok_nil.consC hf_ref_allWords hB_ref_allWords sound_ref_allWords)
theorem ref_CheckMessage_vc (mk : Int) (mu : Int) (mn : Int) (ma : Int) (mi : Int) (mw : List Int) (my : Bool) (rec : RK) (K : KK) v0 (hv0 : v0 = (okWords mw)) : segD Γ_ref_CheckMessage tab fn_ref_CheckMessage 0 K rec [.code (bodyOf fn_ref_CheckMessage)] (initSt [.agg [dI mk, dI mu, dI mn, dI ma, dI mi, dL mw, dB my]] []) = (
 br (lti mk (1 : Int))
 (K (.one (dI (3 : Int))) [])
 (br (lti (7 : Int) mk)
 (K (.one (dI (3 : Int))) [])
 (br (lti mu (0 : Int))
 (K (.one (dI (3 : Int))) [])
 (br (lti (3 : Int) mu)
 (K (.one (dI (3 : Int))) [])
 (br (lti mn (1 : Int))
 (K (.one (dI (3 : Int))) [])
 (br (lti (8 : Int) mn)
 (K (.one (dI (3 : Int))) [])
 (br (lti ma (0 : Int))
 (K (.one (dI (3 : Int))) [])
 (br (lti (40 : Int) ma)
 (K (.one (dI (3 : Int))) [])
 (br (lti mi (0 : Int))
 (K (.one (dI (3 : Int))) [])
 (br (lti (60 : Int) mi)
 (K (.one (dI (3 : Int))) [])
 (br (lti (8 : Int) (((len mw) : Nat) : Int))
 (K (.one (dI (3 : Int))) [])
 (((List.length mw) ≤ 140737488355328) ∧
 (br (!v0)
 (K (.one (dI (3 : Int))) [])
 (K (.one (dI (0 : Int))) [])))))))))))))) := by subst_vars; kernel_rfl
theorem ref_CheckMessage_w (m : Nat) (K : KK) (st : St) : goD Γ_ref_CheckMessage tab fn_ref_CheckMessage 0 K (m + 1) [.code (bodyOf fn_ref_CheckMessage)] st = segD Γ_ref_CheckMessage tab fn_ref_CheckMessage 0 K (goD Γ_ref_CheckMessage tab fn_ref_CheckMessage 0 K m) [.code (bodyOf fn_ref_CheckMessage)] st := rfl

set_option maxHeartbeats 4000000 in
theorem run_ref_CheckMessage (mk mu mn ma mi : Int) (mw : List Int) (my : Bool) (K : KK) (hK : K (.one (dI (checkM ⟨mk, mu, mn, ma, mi, mw, my⟩))) []) : ∃ m, goD Γ_ref_CheckMessage tab fn_ref_CheckMessage 0 K m [.code (bodyOf fn_ref_CheckMessage)] (initSt [.agg [dI mk, dI mu, dI mn, dI ma, dI mi, dL mw, dB my]] []) := by
  refine ⟨1, ?_⟩
  rw [ref_CheckMessage_w, ref_CheckMessage_vc _ _ _ _ _ _ _ _ _ _ rfl]
  unfold checkM at hK
  simp only at hK
  refine lt_s (fun h1 => ?_) (fun h1 => lt_s (fun h2 => ?_) (fun h2 => lt_s (fun h3 => ?_) (fun h3 => lt_s (fun h4 => ?_) (fun h4 => lt_s (fun h5 => ?_) (fun h5 => lt_s (fun h6 => ?_) (fun h6 => lt_s (fun h7 => ?_) (fun h7 => lt_s (fun h8 => ?_) (fun h8 => lt_s (fun h9 => ?_) (fun h9 => lt_s (fun h10 => ?_) (fun h10 => lt_s (fun h11 => ?_) (fun h11 => ⟨?_, nt_s (fun h12 => ?_) (fun h12 => ?_)⟩)))))))))))
  · rw [if_pos (by omega)] at hK; exact hK
  · rw [if_pos (by omega)] at hK; exact hK
  · rw [if_pos (by omega)] at hK; exact hK
  · rw [if_pos (by omega)] at hK; exact hK
  · rw [if_pos (by omega)] at hK; exact hK
  · rw [if_pos (by omega)] at hK; exact hK
  · rw [if_pos (by omega)] at hK; exact hK
  · rw [if_pos (by omega)] at hK; exact hK
  · rw [if_pos (by omega)] at hK; exact hK
  · rw [if_pos (by omega)] at hK; exact hK
  · rw [if_pos (by simp only [len] at h11; omega)] at hK; exact hK
  · simp only [len] at h11; omega
  · rw [if_neg (by simp only [len] at h11; omega)] at hK
    have : okWords mw = false := by simpa using h12
    rw [if_neg (by rw [this]; simp)] at hK; exact hK
  · rw [if_neg (by simp only [len] at h11; omega)] at hK
    have : okWords mw = true := by simpa using h12
    rw [if_pos this] at hK; exact hK
theorem sound_ref_CheckMessage : SoundC Tryz.prog tab n_ref_CheckMessage c_ref_CheckMessage := soundC_of ok_ref_CheckMessage hf_ref_CheckMessage hB_ref_CheckMessage (by
  intro vs bs p v bs' h hp
  unfold c_ref_CheckMessage at h
  split at h
  · cases h
    exact ⟨by kernel_rfl, rfl, .inl (run_ref_CheckMessage _ _ _ _ _ _ _ _ ⟨rfl, rfl⟩)⟩
  · cases h)

def c_ref_SameFlash : Contract := fun vs bs => match vs, bs with
  | [.agg [.dat (.list .int) ws, .dat .int fu], .agg [.dat (.list .int) us, .dat .int fv]], [] => some (some (Sm ws), .one (.dat .bool (sameFlash ⟨ws, fu⟩ ⟨us, fv⟩)), [])
  | _, _ => none
def Γ_ref_SameFlash : Ctx := [(n_slices_Equal_Lint, c_slices_Equal_Lint)]
theorem ok_ref_SameFlash : Ok Tryz.prog tab Γ_ref_SameFlash := (ok_nil.consC hf_slices_Equal_Lint hB_slices_Equal_Lint sound_slices_Equal_Lint)
theorem ref_SameFlash_vc (ws : List Int) (fu : Int) (us : List Int) (fv : Int) (rec : RK) (K : KK) v0 (hv0 : v0 = (eqIs ws us)) : segD Γ_ref_SameFlash tab fn_ref_SameFlash 0 K rec [.code (bodyOf fn_ref_SameFlash)] (initSt [.agg [dL ws, dI fu], .agg [dL us, dI fv]] []) = (
 br (eqi fu fv)
 (((List.length ws) ≤ 140737488355328) ∧
 (K (.one (dB v0)) []))
 (K vF [])) := by subst_vars; kernel_rfl
theorem ref_SameFlash_w (m : Nat) (K : KK) (st : St) : goD Γ_ref_SameFlash tab fn_ref_SameFlash 0 K (m + 1) [.code (bodyOf fn_ref_SameFlash)] st = segD Γ_ref_SameFlash tab fn_ref_SameFlash 0 K (goD Γ_ref_SameFlash tab fn_ref_SameFlash 0 K m) [.code (bodyOf fn_ref_SameFlash)] st := rfl

set_option maxHeartbeats 4000000 in
theorem run_ref_SameFlash (ws : List Int) (fu : Int) (us : List Int) (fv : Int) (hp : Sm ws) (K : KK) (hK : K (.one (dB (sameFlash ⟨ws, fu⟩ ⟨us, fv⟩))) []) : ∃ m, goD Γ_ref_SameFlash tab fn_ref_SameFlash 0 K m [.code (bodyOf fn_ref_SameFlash)] (initSt [.agg [dL ws, dI fu], .agg [dL us, dI fv]] []) := by
  refine ⟨1, ?_⟩
  rw [ref_SameFlash_w, ref_SameFlash_vc _ _ _ _ _ _ _ rfl]
  refine eq_s (fun h => ⟨hp, ?_⟩) (fun h => ?_)
  · rw [show sameFlash ⟨ws, fu⟩ ⟨us, fv⟩ = eqIs ws us from by simp [sameFlash, h]] at hK; exact hK
  · rw [show sameFlash ⟨ws, fu⟩ ⟨us, fv⟩ = false from by simp [sameFlash, h]] at hK; exact hK
theorem sound_ref_SameFlash : SoundC Tryz.prog tab n_ref_SameFlash c_ref_SameFlash := soundC_of ok_ref_SameFlash hf_ref_SameFlash hB_ref_SameFlash (by
  intro vs bs p v bs' h hp
  unfold c_ref_SameFlash at h
  split at h
  · cases h
    exact ⟨by kernel_rfl, rfl, .inl (run_ref_SameFlash _ _ _ _ hp.1 _ ⟨rfl, rfl⟩)⟩
  · cases h)

def c_ref_SameUnit : Contract := fun vs bs => match vs, bs with
  | [.agg [.dat (.list .int) ws, .dat .int fu, .dat .bool up, .dat .int un, .dat .int ug], .agg [.dat (.list .int) ws2, .dat .int fu2, .dat .bool up2, .dat .int un2, .dat .int ug2]], [] => some (some (Sm ws), .one (.dat .bool (sameUnit ⟨⟨ws, fu⟩, up, un, ug⟩ ⟨⟨ws2, fu2⟩, up2, un2, ug2⟩)), [])
  | _, _ => none
def Γ_ref_SameUnit : Ctx := [(n_ref_SameFlash, c_ref_SameFlash)]
theorem ok_ref_SameUnit : Ok Tryz.prog tab Γ_ref_SameUnit := (ok_nil.consC hf_ref_SameFlash hB_ref_SameFlash sound_ref_SameFlash)
theorem ref_SameUnit_vc (ws : List Int) (fu : Int) (up : Bool) (un : Int) (ug : Int) (ws2 : List Int) (fu2 : Int) (up2 : Bool) (un2 : Int) (ug2 : Int) (rec : RK) (K : KK) v0 (hv0 : v0 = (sameFlash ⟨ws, fu⟩ ⟨ws2, fu2⟩)) : segD Γ_ref_SameUnit tab fn_ref_SameUnit 0 K rec [.code (bodyOf fn_ref_SameUnit)] (initSt [.agg [dL ws, dI fu, dB up, dI un, dI ug], .agg [dL ws2, dI fu2, dB up2, dI un2, dI ug2]] []) = (
 ((List.length ws) ≤ 140737488355328) ∧
 (br v0
 (br (eqb up up2)
 (br (eqi un un2)
 (K (.one (dB (eqi ug ug2))) [])
 (K vF []))
 (K vF []))
 (K vF []))) := by subst_vars; kernel_rfl
theorem ref_SameUnit_w (m : Nat) (K : KK) (st : St) : goD Γ_ref_SameUnit tab fn_ref_SameUnit 0 K (m + 1) [.code (bodyOf fn_ref_SameUnit)] st = segD Γ_ref_SameUnit tab fn_ref_SameUnit 0 K (goD Γ_ref_SameUnit tab fn_ref_SameUnit 0 K m) [.code (bodyOf fn_ref_SameUnit)] st := rfl

set_option maxHeartbeats 4000000 in
theorem run_ref_SameUnit (ws : List Int) (fu : Int) (up : Bool) (un ug : Int)(ws2 : List Int) (fu2 : Int) (up2 : Bool) (un2 ug2 : Int) (hp : Sm ws) (K : KK) (hK : K (.one (dB (sameUnit ⟨⟨ws, fu⟩, up, un, ug⟩ ⟨⟨ws2, fu2⟩, up2, un2, ug2⟩))) []) : ∃ m, goD Γ_ref_SameUnit tab fn_ref_SameUnit 0 K m [.code (bodyOf fn_ref_SameUnit)] (initSt [.agg [dL ws, dI fu, dB up, dI un, dI ug], .agg [dL ws2, dI fu2, dB up2, dI un2, dI ug2]] []) := by
  refine ⟨1, ?_⟩
  rw [ref_SameUnit_w, ref_SameUnit_vc _ _ _ _ _ _ _ _ _ _ _ _ _ rfl]
  unfold sameUnit at hK
  simp only at hK
  refine ⟨hp, br_split (fun h1 => br_split (fun h2 => br_split (fun h3 => ?_) (fun h3 => ?_)) (fun h2 => ?_)) (fun h1 => ?_)⟩
  · rw [h1, h2, h3] at hK; exact hK
  · rw [h1, h2, h3] at hK; exact hK
  · rw [h1, h2] at hK; exact hK
  · rw [h1] at hK; exact hK
theorem sound_ref_SameUnit : SoundC Tryz.prog tab n_ref_SameUnit c_ref_SameUnit := soundC_of ok_ref_SameUnit hf_ref_SameUnit hB_ref_SameUnit (by
  intro vs bs p v bs' h hp
  unfold c_ref_SameUnit at h
  split at h
  · cases h
    exact ⟨by kernel_rfl, rfl, .inl (run_ref_SameUnit _ _ _ _ _ _ _ _ _ _ hp.1 _ ⟨rfl, rfl⟩)⟩
  · cases h)

def c_ref_CheckImage : Contract := fun vs bs => match vs, bs with
  | [.one (.dat (.list .int) l)], [] => some (none, .one (.dat .int (checkImage l)), [])
  | _, _ => none
def Γ_ref_CheckImage : Ctx := [(n_ref_allWords, c_ref_allWords)]
theorem ok_ref_CheckImage : Ok Tryz.prog tab Γ_ref_CheckImage := (ok_nil.consC hf_ref_allWords hB_ref_allWords sound_ref_allWords)
theorem ref_CheckImage_vc (l : List Int) (rec : RK) (K : KK) v0 (hv0 : v0 = (okWords l)) : segD Γ_ref_CheckImage tab fn_ref_CheckImage 0 K rec [.code (bodyOf fn_ref_CheckImage)] (initSt [.one (dL l)] []) = (
 br (lti (((len l) : Nat) : Int) (1 : Int))
 (K (.one (dI (2 : Int))) [])
 (br (lti (40 : Int) (((len l) : Nat) : Int))
 (K (.one (dI (2 : Int))) [])
 (((List.length l) ≤ 140737488355328) ∧
 (br (!v0)
 (K (.one (dI (3 : Int))) [])
 (K (.one (dI (0 : Int))) []))))) := by subst_vars; kernel_rfl
theorem ref_CheckImage_w (m : Nat) (K : KK) (st : St) : goD Γ_ref_CheckImage tab fn_ref_CheckImage 0 K (m + 1) [.code (bodyOf fn_ref_CheckImage)] st = segD Γ_ref_CheckImage tab fn_ref_CheckImage 0 K (goD Γ_ref_CheckImage tab fn_ref_CheckImage 0 K m) [.code (bodyOf fn_ref_CheckImage)] st := rfl

set_option maxHeartbeats 4000000 in
theorem run_ref_CheckImage (l : List Int) (K : KK) (hK : K (.one (dI (checkImage l))) []) : ∃ m, goD Γ_ref_CheckImage tab fn_ref_CheckImage 0 K m [.code (bodyOf fn_ref_CheckImage)] (initSt [.one (dL l)] []) := by
  refine ⟨1, ?_⟩
  rw [ref_CheckImage_w, ref_CheckImage_vc _ _ _ _ rfl]
  unfold checkImage at hK
  refine lt_s (fun h => ?_) (fun h => lt_s (fun h2 => ?_) (fun h2 => ⟨by simp only [len] at h2; omega, nt_s (fun h3 => ?_) (fun h3 => ?_)⟩))
  · rw [if_pos (by simp only [len] at h; omega)] at hK; exact hK
  · rw [if_pos (by simp only [len] at h2; omega)] at hK; exact hK
  · rw [if_neg (by simp only [len] at h h2; omega), if_neg (by rw [h3]; simp)] at hK; exact hK
  · rw [if_neg (by simp only [len] at h h2; omega), if_pos h3] at hK; exact hK
theorem sound_ref_CheckImage : SoundC Tryz.prog tab n_ref_CheckImage c_ref_CheckImage := soundC_of ok_ref_CheckImage hf_ref_CheckImage hB_ref_CheckImage (by
  intro vs bs p v bs' h hp
  unfold c_ref_CheckImage at h
  split at h
  · cases h
    exact ⟨by kernel_rfl, rfl, .inl (run_ref_CheckImage _ _ ⟨rfl, rfl⟩)⟩
  · cases h)

abbrev n_slices_Repeat_Lint_o : Nat := n_slices_Repeat_Lint
noncomputable abbrev fn_slices_Repeat_Lint_o : Func := fn_slices_Repeat_Lint
theorem hf_slices_Repeat_Lint_o : Tryz.prog.funcs[n_slices_Repeat_Lint_o]? = some fn_slices_Repeat_Lint_o := hf_slices_Repeat_Lint
theorem hB_slices_Repeat_Lint_o : fnB fn_slices_Repeat_Lint_o = true := hB_slices_Repeat_Lint
def c_slices_Repeat_Lint_o : Contract := fun vs bs => match vs, bs with
  | [.one (.dat (.list .int) [x]), .one (.dat .int n)], [] => some (some (0 ≤ n ∧ n ≤ 1000000), .one (.own 0), [.arr .int (zeros n.toNat x)])
  | _, _ => none
def Γ_slices_Repeat_Lint_o : Ctx := [(n_math_bits_Mul, c_math_bits_Mul), (n_slices_Repeat_Lint, c_slices_Repeat_Lint)]
theorem ok_slices_Repeat_Lint_o : Ok Tryz.prog tab Γ_slices_Repeat_Lint_o := ((ok_nil.consC hf_slices_Repeat_Lint hB_slices_Repeat_Lint sound_slices_Repeat_Lint).consC hf_math_bits_Mul hB_math_bits_Mul sound_math_bits_Mul)
noncomputable def slices_Repeat_Lint_o_L0 : List It := [.inLoop [8, 7, 4] (Code.sub (bodyOf fn_slices_Repeat_Lint_o) [1, 1, 1, 1, 1, 1, 0, 0, 0]), .inBlock 0, .code (Code.sub (bodyOf fn_slices_Repeat_Lint_o) [1, 1, 1, 1, 1, 1, 1])]
def slices_Repeat_Lint_o_S0 (x0 : Int) (x1 : (List Int)) (x2 : (List Int)) : St := ⟨[(8, .one (dI x0)), (7, .one (.own 0)), (4, .one (.own 1))], [(0, .arr Ty.int x1), (1, .arr Ty.int x2)], 2⟩
theorem slices_Repeat_Lint_o_vc (x : Int) (n : Int) (rec : RK) (K : KK) v0 (hv0 : v0 = (u64w (((len (x :: [])) : Nat) : Int))) v1 (hv1 : v1 = (inU64 v0)) v2 (hv2 : v2 = (u64w n)) v3 (hv3 : v3 = (inU64 v2)) : segO Γ_slices_Repeat_Lint_o tab fn_slices_Repeat_Lint_o 0 K rec [.code (bodyOf fn_slices_Repeat_Lint_o)] (initSt [.one (dL (x :: [])), .one (dI n)] []) = (
 br (lti n (0 : Int))
 (False)
 (((v1 = true) ∧ (v3 = true)) ∧
 (br (lti (0 : Int) ((v0 * v2) / two64))
 (False)
 (br (lti (9223372036854775807 : Int) ((v0 * v2) % two64))
 (False)
 ((((0 : Int) ≤ (w64 ((v0 * v2) % two64))) ∧ ((((w64 ((v0 * v2) % two64)) * ((8 : Nat) : Int)) ≤ (140737488355328 : Int)) ∧ ((w64 ((v0 * v2) % two64)) ≤ (140737488355328 : Int)))) ∧
 (rec slices_Repeat_Lint_o_L0 (slices_Repeat_Lint_o_S0 (((min (len (zeros (Int.toNat (w64 ((v0 * v2) % two64))) (Ty.dflt Ty.int))) (len (x :: []))) : Nat) : Int) (put (zeros (Int.toNat (w64 ((v0 * v2) % two64))) (Ty.dflt Ty.int)) 0 (slc (x :: []) 0 (min (len (zeros (Int.toNat (w64 ((v0 * v2) % two64))) (Ty.dflt Ty.int))) (len (x :: []))))) []))))))) := by subst_vars; kernel_rfl
theorem slices_Repeat_Lint_o_w (m : Nat) (K : KK) (st : St) : goO Γ_slices_Repeat_Lint_o tab fn_slices_Repeat_Lint_o 0 K (m + 1) [.code (bodyOf fn_slices_Repeat_Lint_o)] st = segO Γ_slices_Repeat_Lint_o tab fn_slices_Repeat_Lint_o 0 K (goO Γ_slices_Repeat_Lint_o tab fn_slices_Repeat_Lint_o 0 K m) [.code (bodyOf fn_slices_Repeat_Lint_o)] st := rfl
theorem slices_Repeat_Lint_o_vc0 (x0 : Int) (x1 : (List Int)) (x2 : (List Int)) (rec : RK) (K : KK) : segO Γ_slices_Repeat_Lint_o tab fn_slices_Repeat_Lint_o 0 K rec (.code (Code.sub (bodyOf fn_slices_Repeat_Lint_o) [1, 1, 1, 1, 1, 1, 0, 0, 0]) :: slices_Repeat_Lint_o_L0) (slices_Repeat_Lint_o_S0 x0 x1 x2) = (
 br (lti x0 (((len x1) : Nat) : Int))
 ((((0 : Int) ≤ x0) ∧ ((x0 ≤ (((len x1) : Nat) : Int)) ∧ ((((len x1) : Nat) : Int) ≤ (((len x1) : Nat) : Int)))) ∧
 ((((0 : Int) ≤ (0 : Int)) ∧ (((0 : Int) ≤ x0) ∧ (x0 ≤ (((len x1) : Nat) : Int)))) ∧
 (((((Int.toNat (0 : Int)) + (Int.toNat (x0 - (0 : Int)))) ≤ (len x1)) ∧ (((Int.toNat x0) + (Int.toNat ((((len x1) : Nat) : Int) - x0))) ≤ (len x1))) ∧
 (rec slices_Repeat_Lint_o_L0 (slices_Repeat_Lint_o_S0 (w64 (x0 + (((min (Int.toNat ((((len x1) : Nat) : Int) - x0)) (len (slc x1 (Int.toNat (0 : Int)) ((Int.toNat (0 : Int)) + (Int.toNat (x0 - (0 : Int))))))) : Nat) : Int))) (put x1 (Int.toNat x0) (slc (slc x1 (Int.toNat (0 : Int)) ((Int.toNat (0 : Int)) + (Int.toNat (x0 - (0 : Int))))) 0 (min (Int.toNat ((((len x1) : Nat) : Int) - x0)) (len (slc x1 (Int.toNat (0 : Int)) ((Int.toNat (0 : Int)) + (Int.toNat (x0 - (0 : Int))))))))) x2)))))
 (K (.one (.own 0)) [.arr Ty.int x1])) := by kernel_rfl
theorem slices_Repeat_Lint_o_w0 (m : Nat) (K : KK) (st : St) : goO Γ_slices_Repeat_Lint_o tab fn_slices_Repeat_Lint_o 0 K (m + 1) slices_Repeat_Lint_o_L0 st = segO Γ_slices_Repeat_Lint_o tab fn_slices_Repeat_Lint_o 0 K (goO Γ_slices_Repeat_Lint_o tab fn_slices_Repeat_Lint_o 0 K m) (.code (Code.sub (bodyOf fn_slices_Repeat_Lint_o) [1, 1, 1, 1, 1, 1, 0, 0, 0]) :: slices_Repeat_Lint_o_L0) st := rfl

theorem loop_slices_Repeat_Lint_o (x : Int) (n : Nat) (hn : n ≤ 1000000) (K : KK) (hK : K (.one (.own 0)) [.arr .int (zeros n x)]) : ∀ (d k : Nat), n ≤ k + d → k ≤ n → (0 < n → 0 < k) →
    goO Γ_slices_Repeat_Lint_o tab fn_slices_Repeat_Lint_o 0 K (d + 1) slices_Repeat_Lint_o_L0 (slices_Repeat_Lint_o_S0 (k : Int) (List.replicate k x ++ List.replicate (n - k) 0) [])
  | 0, k, hd, hk, hp => by
    rw [slices_Repeat_Lint_o_w0, slices_Repeat_Lint_o_vc0 _ _ _ _ _]
    have e : k = n := by omega
    subst e
    refine lt_f (by simp [len]) ?_
    simpa [zeros] using hK
  | d + 1, k, hd, hk, hp => by
    rw [slices_Repeat_Lint_o_w0, slices_Repeat_Lint_o_vc0 _ _ _ _ _]
    have hl : len (List.replicate k x ++ List.replicate (n - k) (0 : Int)) = n := by simp [len]; omega
    rw [hl]
    by_cases c : k < n
    · refine lt_t (by omega) ⟨⟨by omega, by omega, by omega⟩, ⟨by omega, by omega, by omega⟩, ⟨by omega, by omega⟩, ?_⟩
      have e1 : slc (List.replicate k x ++ List.replicate (n - k) (0 : Int)) (Int.toNat 0) (Int.toNat 0 + Int.toNat ((k : Int) - 0)) = List.replicate k x := by
        rw [show Int.toNat 0 + Int.toNat ((k : Int) - 0) = k by omega]
        unfold slc
        rw [List.take_left' (by simp)]
        simp
      rw [e1]
      have e2 : len (List.replicate k x) = k := by simp [len]
      rw [e2]
      generalize hj : min (Int.toNat ((n : Int) - (k : Int))) k = j
      have hj' : j = min (n - k) k := by omega
      have e3 : slc (List.replicate k x) 0 j = List.replicate j x := by
        unfold slc
        rw [List.take_replicate]
        simp
        omega
      rw [e3, toNat_nat, put_rep x n k j, w64_id (by omega) (by omega), show (k : Int) + (j : Int) = ((k + j : Nat) : Int) by omega]
      exact loop_slices_Repeat_Lint_o x n hn K hK d (k + j) (by have := hp (by omega); omega) (by omega) (fun h => by have := hp h; omega)
    · have e : k = n := by omega
      subst e
      refine lt_f (by omega) ?_
      simpa [zeros] using hK
set_option maxHeartbeats 4000000 in
theorem run_slices_Repeat_Lint_o (x n : Int) (hp : 0 ≤ n ∧ n ≤ 1000000) (K : KK) (hK : K (.one (.own 0)) [.arr .int (zeros n.toNat x)]) : ∃ m, goO Γ_slices_Repeat_Lint_o tab fn_slices_Repeat_Lint_o 0 K m [.code (bodyOf fn_slices_Repeat_Lint_o)] (initSt [.one (dL [x]), .one (dI n)] []) := by
  obtain ⟨h1, h2⟩ := hp
  refine ⟨n.toNat + 2, ?_⟩
  rw [slices_Repeat_Lint_o_w, slices_Repeat_Lint_o_vc _ _ _ _ _ rfl _ rfl _ rfl _ rfl]
  have e1 : u64w (((len (x :: [])) : Nat) : Int) = 1 := by simp only [len, List.length_cons, List.length_nil]; exact u64w_id (by omega) (by omega)
  rw [e1, u64w_id (n := n) h1 (by omega), Int.one_mul]
  have e2 : n / two64 = 0 := by unfold two64; omega
  have e3 : n % two64 = n := by unfold two64; omega
  rw [e2, e3, w64_id (by omega) (by omega)]
  refine lt_f h1 ⟨⟨inU64_of (by omega) (by omega), inU64_of h1 (by omega)⟩, lt_f (by omega) (lt_f (by omega) ⟨⟨h1, by omega, by omega⟩, ?_⟩)⟩
  obtain ⟨k, rfl⟩ := Int.eq_ofNat_of_zero_le h1
  rw [toNat_nat] at hK ⊢
  have e4 : len (zeros k (Ty.dflt Ty.int)) = k := by simp [len, zeros]
  rw [e4]
  have := loop_slices_Repeat_Lint_o x k (by omega) K hK k (min k 1) (by omega) (by omega) (by omega)
  have e5 : put (zeros k (Ty.dflt Ty.int)) 0 (slc (x :: []) 0 (min k (len (x :: [])))) = List.replicate (min k 1) x ++ List.replicate (k - min k 1) 0 := by
    have h := put_rep x k 0 (min k 1)
    rw [Nat.zero_add] at h
    rw [← h]
    have : slc (x :: []) 0 (min k (len (x :: []))) = List.replicate (min k 1) x := by
      simp only [len, List.length_cons, List.length_nil, slc]
      cases k with
      | zero => simp
      | succ k => rw [show min (k + 1) (0 + 1) = 1 by omega]; rfl
    rw [this]
    rfl
  rw [e5, show min k (len (x :: [])) = min k 1 from rfl]
  exact this
theorem sound_slices_Repeat_Lint_o : SoundC Tryz.prog tab n_slices_Repeat_Lint_o c_slices_Repeat_Lint_o := soundC_of ok_slices_Repeat_Lint_o hf_slices_Repeat_Lint_o hB_slices_Repeat_Lint_o (by
  intro vs bs p v bs' h hp
  unfold c_slices_Repeat_Lint_o at h
  split at h
  · cases h
    exact ⟨by kernel_rfl, rfl, .inr (.inl (run_slices_Repeat_Lint_o _ _ hp.1 _ ⟨rfl, rfl⟩))⟩
  · cases h)

def c_ref_NewUnit : Contract := fun vs bs => match vs, bs with
  | [.one (.dat (.list .int) l), .one (.dat .int name)], [] => some (some (checkImage l = 0 ∧ 1 ≤ name ∧ name ≤ 60), .agg [.dat (.list .int) (newU l name).1.f.words, .dat .int (newU l name).1.f.fuel, .dat .bool (newU l name).1.up, .dat .int (newU l name).1.n, .dat .int (newU l name).1.got], [])
  | _, _ => none
def Γ_ref_NewUnit : Ctx := [(n_slices_Repeat_Lint_o, c_slices_Repeat_Lint_o)]
theorem ok_ref_NewUnit : Ok Tryz.prog tab Γ_ref_NewUnit := (ok_nil.consC hf_slices_Repeat_Lint_o hB_slices_Repeat_Lint_o sound_slices_Repeat_Lint_o)
theorem ref_NewUnit_vc (l : List Int) (name : Int) (rec : RK) (K : KK) : segD Γ_ref_NewUnit tab fn_ref_NewUnit 0 K rec [.code (bodyOf fn_ref_NewUnit)] (initSt [.one (dL l), .one (dI name)] []) = (
 (((0 : Int) ≤ (192 : Int)) ∧ ((192 : Int) ≤ (1000000 : Int))) ∧
 ((((0 : Int) ≤ (0 : Int)) ∧ ((0 : Int) < (((len (zeros (Int.toNat (192 : Int)) (65535 : Int))) : Nat) : Int))) ∧
 (((Int.toNat (0 : Int)) < (len (zeros (Int.toNat (192 : Int)) (65535 : Int)))) ∧
 ((((0 : Int) ≤ (1 : Int)) ∧ (((1 : Int) ≤ (((len (setAt (zeros (Int.toNat (192 : Int)) (65535 : Int)) (Int.toNat (0 : Int)) (1 : Int))) : Nat) : Int)) ∧ ((((len (setAt (zeros (Int.toNat (192 : Int)) (65535 : Int)) (Int.toNat (0 : Int)) (1 : Int))) : Nat) : Int) ≤ (((len (setAt (zeros (Int.toNat (192 : Int)) (65535 : Int)) (Int.toNat (0 : Int)) (1 : Int))) : Nat) : Int)))) ∧
 ((((Int.toNat (1 : Int)) + (Int.toNat ((((len (setAt (zeros (Int.toNat (192 : Int)) (65535 : Int)) (Int.toNat (0 : Int)) (1 : Int))) : Nat) : Int) - (1 : Int)))) ≤ (len (setAt (zeros (Int.toNat (192 : Int)) (65535 : Int)) (Int.toNat (0 : Int)) (1 : Int)))) ∧
 ((((0 : Int) ≤ (64 : Int)) ∧ (((64 : Int) ≤ (((len (put (setAt (zeros (Int.toNat (192 : Int)) (65535 : Int)) (Int.toNat (0 : Int)) (1 : Int)) (Int.toNat (1 : Int)) (slc ((42243 : Int) :: ((1 : Int) :: ((0 : Int) :: ((0 : Int) :: [])))) 0 (min (Int.toNat ((((len (setAt (zeros (Int.toNat (192 : Int)) (65535 : Int)) (Int.toNat (0 : Int)) (1 : Int))) : Nat) : Int) - (1 : Int))) (len ((42243 : Int) :: ((1 : Int) :: ((0 : Int) :: ((0 : Int) :: []))))))))) : Nat) : Int)) ∧ ((((len (put (setAt (zeros (Int.toNat (192 : Int)) (65535 : Int)) (Int.toNat (0 : Int)) (1 : Int)) (Int.toNat (1 : Int)) (slc ((42243 : Int) :: ((1 : Int) :: ((0 : Int) :: ((0 : Int) :: [])))) 0 (min (Int.toNat ((((len (setAt (zeros (Int.toNat (192 : Int)) (65535 : Int)) (Int.toNat (0 : Int)) (1 : Int))) : Nat) : Int) - (1 : Int))) (len ((42243 : Int) :: ((1 : Int) :: ((0 : Int) :: ((0 : Int) :: []))))))))) : Nat) : Int) ≤ (((len (put (setAt (zeros (Int.toNat (192 : Int)) (65535 : Int)) (Int.toNat (0 : Int)) (1 : Int)) (Int.toNat (1 : Int)) (slc ((42243 : Int) :: ((1 : Int) :: ((0 : Int) :: ((0 : Int) :: [])))) 0 (min (Int.toNat ((((len (setAt (zeros (Int.toNat (192 : Int)) (65535 : Int)) (Int.toNat (0 : Int)) (1 : Int))) : Nat) : Int) - (1 : Int))) (len ((42243 : Int) :: ((1 : Int) :: ((0 : Int) :: ((0 : Int) :: []))))))))) : Nat) : Int)))) ∧
 ((((Int.toNat (64 : Int)) + (Int.toNat ((((len (put (setAt (zeros (Int.toNat (192 : Int)) (65535 : Int)) (Int.toNat (0 : Int)) (1 : Int)) (Int.toNat (1 : Int)) (slc ((42243 : Int) :: ((1 : Int) :: ((0 : Int) :: ((0 : Int) :: [])))) 0 (min (Int.toNat ((((len (setAt (zeros (Int.toNat (192 : Int)) (65535 : Int)) (Int.toNat (0 : Int)) (1 : Int))) : Nat) : Int) - (1 : Int))) (len ((42243 : Int) :: ((1 : Int) :: ((0 : Int) :: ((0 : Int) :: []))))))))) : Nat) : Int) - (64 : Int)))) ≤ (len (put (setAt (zeros (Int.toNat (192 : Int)) (65535 : Int)) (Int.toNat (0 : Int)) (1 : Int)) (Int.toNat (1 : Int)) (slc ((42243 : Int) :: ((1 : Int) :: ((0 : Int) :: ((0 : Int) :: [])))) 0 (min (Int.toNat ((((len (setAt (zeros (Int.toNat (192 : Int)) (65535 : Int)) (Int.toNat (0 : Int)) (1 : Int))) : Nat) : Int) - (1 : Int))) (len ((42243 : Int) :: ((1 : Int) :: ((0 : Int) :: ((0 : Int) :: [])))))))))) ∧
 ((((0 : Int) ≤ (68 : Int)) ∧ (((68 : Int) ≤ (((len (put (put (setAt (zeros (Int.toNat (192 : Int)) (65535 : Int)) (Int.toNat (0 : Int)) (1 : Int)) (Int.toNat (1 : Int)) (slc ((42243 : Int) :: ((1 : Int) :: ((0 : Int) :: ((0 : Int) :: [])))) 0 (min (Int.toNat ((((len (setAt (zeros (Int.toNat (192 : Int)) (65535 : Int)) (Int.toNat (0 : Int)) (1 : Int))) : Nat) : Int) - (1 : Int))) (len ((42243 : Int) :: ((1 : Int) :: ((0 : Int) :: ((0 : Int) :: [])))))))) (Int.toNat (64 : Int)) (slc ((((len l) : Nat) : Int) :: (name :: ((w64 ((65535 : Int) - (((len l) : Nat) : Int))) :: ((w64 ((65535 : Int) - name)) :: [])))) 0 (min (Int.toNat ((((len (put (setAt (zeros (Int.toNat (192 : Int)) (65535 : Int)) (Int.toNat (0 : Int)) (1 : Int)) (Int.toNat (1 : Int)) (slc ((42243 : Int) :: ((1 : Int) :: ((0 : Int) :: ((0 : Int) :: [])))) 0 (min (Int.toNat ((((len (setAt (zeros (Int.toNat (192 : Int)) (65535 : Int)) (Int.toNat (0 : Int)) (1 : Int))) : Nat) : Int) - (1 : Int))) (len ((42243 : Int) :: ((1 : Int) :: ((0 : Int) :: ((0 : Int) :: []))))))))) : Nat) : Int) - (64 : Int))) (len ((((len l) : Nat) : Int) :: (name :: ((w64 ((65535 : Int) - (((len l) : Nat) : Int))) :: ((w64 ((65535 : Int) - name)) :: []))))))))) : Nat) : Int)) ∧ ((((len (put (put (setAt (zeros (Int.toNat (192 : Int)) (65535 : Int)) (Int.toNat (0 : Int)) (1 : Int)) (Int.toNat (1 : Int)) (slc ((42243 : Int) :: ((1 : Int) :: ((0 : Int) :: ((0 : Int) :: [])))) 0 (min (Int.toNat ((((len (setAt (zeros (Int.toNat (192 : Int)) (65535 : Int)) (Int.toNat (0 : Int)) (1 : Int))) : Nat) : Int) - (1 : Int))) (len ((42243 : Int) :: ((1 : Int) :: ((0 : Int) :: ((0 : Int) :: [])))))))) (Int.toNat (64 : Int)) (slc ((((len l) : Nat) : Int) :: (name :: ((w64 ((65535 : Int) - (((len l) : Nat) : Int))) :: ((w64 ((65535 : Int) - name)) :: [])))) 0 (min (Int.toNat ((((len (put (setAt (zeros (Int.toNat (192 : Int)) (65535 : Int)) (Int.toNat (0 : Int)) (1 : Int)) (Int.toNat (1 : Int)) (slc ((42243 : Int) :: ((1 : Int) :: ((0 : Int) :: ((0 : Int) :: [])))) 0 (min (Int.toNat ((((len (setAt (zeros (Int.toNat (192 : Int)) (65535 : Int)) (Int.toNat (0 : Int)) (1 : Int))) : Nat) : Int) - (1 : Int))) (len ((42243 : Int) :: ((1 : Int) :: ((0 : Int) :: ((0 : Int) :: []))))))))) : Nat) : Int) - (64 : Int))) (len ((((len l) : Nat) : Int) :: (name :: ((w64 ((65535 : Int) - (((len l) : Nat) : Int))) :: ((w64 ((65535 : Int) - name)) :: []))))))))) : Nat) : Int) ≤ (((len (put (put (setAt (zeros (Int.toNat (192 : Int)) (65535 : Int)) (Int.toNat (0 : Int)) (1 : Int)) (Int.toNat (1 : Int)) (slc ((42243 : Int) :: ((1 : Int) :: ((0 : Int) :: ((0 : Int) :: [])))) 0 (min (Int.toNat ((((len (setAt (zeros (Int.toNat (192 : Int)) (65535 : Int)) (Int.toNat (0 : Int)) (1 : Int))) : Nat) : Int) - (1 : Int))) (len ((42243 : Int) :: ((1 : Int) :: ((0 : Int) :: ((0 : Int) :: [])))))))) (Int.toNat (64 : Int)) (slc ((((len l) : Nat) : Int) :: (name :: ((w64 ((65535 : Int) - (((len l) : Nat) : Int))) :: ((w64 ((65535 : Int) - name)) :: [])))) 0 (min (Int.toNat ((((len (put (setAt (zeros (Int.toNat (192 : Int)) (65535 : Int)) (Int.toNat (0 : Int)) (1 : Int)) (Int.toNat (1 : Int)) (slc ((42243 : Int) :: ((1 : Int) :: ((0 : Int) :: ((0 : Int) :: [])))) 0 (min (Int.toNat ((((len (setAt (zeros (Int.toNat (192 : Int)) (65535 : Int)) (Int.toNat (0 : Int)) (1 : Int))) : Nat) : Int) - (1 : Int))) (len ((42243 : Int) :: ((1 : Int) :: ((0 : Int) :: ((0 : Int) :: []))))))))) : Nat) : Int) - (64 : Int))) (len ((((len l) : Nat) : Int) :: (name :: ((w64 ((65535 : Int) - (((len l) : Nat) : Int))) :: ((w64 ((65535 : Int) - name)) :: []))))))))) : Nat) : Int)))) ∧
 ((((Int.toNat (68 : Int)) + (Int.toNat ((((len (put (put (setAt (zeros (Int.toNat (192 : Int)) (65535 : Int)) (Int.toNat (0 : Int)) (1 : Int)) (Int.toNat (1 : Int)) (slc ((42243 : Int) :: ((1 : Int) :: ((0 : Int) :: ((0 : Int) :: [])))) 0 (min (Int.toNat ((((len (setAt (zeros (Int.toNat (192 : Int)) (65535 : Int)) (Int.toNat (0 : Int)) (1 : Int))) : Nat) : Int) - (1 : Int))) (len ((42243 : Int) :: ((1 : Int) :: ((0 : Int) :: ((0 : Int) :: [])))))))) (Int.toNat (64 : Int)) (slc ((((len l) : Nat) : Int) :: (name :: ((w64 ((65535 : Int) - (((len l) : Nat) : Int))) :: ((w64 ((65535 : Int) - name)) :: [])))) 0 (min (Int.toNat ((((len (put (setAt (zeros (Int.toNat (192 : Int)) (65535 : Int)) (Int.toNat (0 : Int)) (1 : Int)) (Int.toNat (1 : Int)) (slc ((42243 : Int) :: ((1 : Int) :: ((0 : Int) :: ((0 : Int) :: [])))) 0 (min (Int.toNat ((((len (setAt (zeros (Int.toNat (192 : Int)) (65535 : Int)) (Int.toNat (0 : Int)) (1 : Int))) : Nat) : Int) - (1 : Int))) (len ((42243 : Int) :: ((1 : Int) :: ((0 : Int) :: ((0 : Int) :: []))))))))) : Nat) : Int) - (64 : Int))) (len ((((len l) : Nat) : Int) :: (name :: ((w64 ((65535 : Int) - (((len l) : Nat) : Int))) :: ((w64 ((65535 : Int) - name)) :: []))))))))) : Nat) : Int) - (68 : Int)))) ≤ (len (put (put (setAt (zeros (Int.toNat (192 : Int)) (65535 : Int)) (Int.toNat (0 : Int)) (1 : Int)) (Int.toNat (1 : Int)) (slc ((42243 : Int) :: ((1 : Int) :: ((0 : Int) :: ((0 : Int) :: [])))) 0 (min (Int.toNat ((((len (setAt (zeros (Int.toNat (192 : Int)) (65535 : Int)) (Int.toNat (0 : Int)) (1 : Int))) : Nat) : Int) - (1 : Int))) (len ((42243 : Int) :: ((1 : Int) :: ((0 : Int) :: ((0 : Int) :: [])))))))) (Int.toNat (64 : Int)) (slc ((((len l) : Nat) : Int) :: (name :: ((w64 ((65535 : Int) - (((len l) : Nat) : Int))) :: ((w64 ((65535 : Int) - name)) :: [])))) 0 (min (Int.toNat ((((len (put (setAt (zeros (Int.toNat (192 : Int)) (65535 : Int)) (Int.toNat (0 : Int)) (1 : Int)) (Int.toNat (1 : Int)) (slc ((42243 : Int) :: ((1 : Int) :: ((0 : Int) :: ((0 : Int) :: [])))) 0 (min (Int.toNat ((((len (setAt (zeros (Int.toNat (192 : Int)) (65535 : Int)) (Int.toNat (0 : Int)) (1 : Int))) : Nat) : Int) - (1 : Int))) (len ((42243 : Int) :: ((1 : Int) :: ((0 : Int) :: ((0 : Int) :: []))))))))) : Nat) : Int) - (64 : Int))) (len ((((len l) : Nat) : Int) :: (name :: ((w64 ((65535 : Int) - (((len l) : Nat) : Int))) :: ((w64 ((65535 : Int) - name)) :: [])))))))))) ∧
 (K (.agg [dL (put (put (put (setAt (zeros (Int.toNat (192 : Int)) (65535 : Int)) (Int.toNat (0 : Int)) (1 : Int)) (Int.toNat (1 : Int)) (slc ((42243 : Int) :: ((1 : Int) :: ((0 : Int) :: ((0 : Int) :: [])))) 0 (min (Int.toNat ((((len (setAt (zeros (Int.toNat (192 : Int)) (65535 : Int)) (Int.toNat (0 : Int)) (1 : Int))) : Nat) : Int) - (1 : Int))) (len ((42243 : Int) :: ((1 : Int) :: ((0 : Int) :: ((0 : Int) :: [])))))))) (Int.toNat (64 : Int)) (slc ((((len l) : Nat) : Int) :: (name :: ((w64 ((65535 : Int) - (((len l) : Nat) : Int))) :: ((w64 ((65535 : Int) - name)) :: [])))) 0 (min (Int.toNat ((((len (put (setAt (zeros (Int.toNat (192 : Int)) (65535 : Int)) (Int.toNat (0 : Int)) (1 : Int)) (Int.toNat (1 : Int)) (slc ((42243 : Int) :: ((1 : Int) :: ((0 : Int) :: ((0 : Int) :: [])))) 0 (min (Int.toNat ((((len (setAt (zeros (Int.toNat (192 : Int)) (65535 : Int)) (Int.toNat (0 : Int)) (1 : Int))) : Nat) : Int) - (1 : Int))) (len ((42243 : Int) :: ((1 : Int) :: ((0 : Int) :: ((0 : Int) :: []))))))))) : Nat) : Int) - (64 : Int))) (len ((((len l) : Nat) : Int) :: (name :: ((w64 ((65535 : Int) - (((len l) : Nat) : Int))) :: ((w64 ((65535 : Int) - name)) :: [])))))))) (Int.toNat (68 : Int)) (slc l 0 (min (Int.toNat ((((len (put (put (setAt (zeros (Int.toNat (192 : Int)) (65535 : Int)) (Int.toNat (0 : Int)) (1 : Int)) (Int.toNat (1 : Int)) (slc ((42243 : Int) :: ((1 : Int) :: ((0 : Int) :: ((0 : Int) :: [])))) 0 (min (Int.toNat ((((len (setAt (zeros (Int.toNat (192 : Int)) (65535 : Int)) (Int.toNat (0 : Int)) (1 : Int))) : Nat) : Int) - (1 : Int))) (len ((42243 : Int) :: ((1 : Int) :: ((0 : Int) :: ((0 : Int) :: [])))))))) (Int.toNat (64 : Int)) (slc ((((len l) : Nat) : Int) :: (name :: ((w64 ((65535 : Int) - (((len l) : Nat) : Int))) :: ((w64 ((65535 : Int) - name)) :: [])))) 0 (min (Int.toNat ((((len (put (setAt (zeros (Int.toNat (192 : Int)) (65535 : Int)) (Int.toNat (0 : Int)) (1 : Int)) (Int.toNat (1 : Int)) (slc ((42243 : Int) :: ((1 : Int) :: ((0 : Int) :: ((0 : Int) :: [])))) 0 (min (Int.toNat ((((len (setAt (zeros (Int.toNat (192 : Int)) (65535 : Int)) (Int.toNat (0 : Int)) (1 : Int))) : Nat) : Int) - (1 : Int))) (len ((42243 : Int) :: ((1 : Int) :: ((0 : Int) :: ((0 : Int) :: []))))))))) : Nat) : Int) - (64 : Int))) (len ((((len l) : Nat) : Int) :: (name :: ((w64 ((65535 : Int) - (((len l) : Nat) : Int))) :: ((w64 ((65535 : Int) - name)) :: []))))))))) : Nat) : Int) - (68 : Int))) (len l)))), dI (-(1 : Int)), dB true, dI (0 : Int), dI (0 : Int)]) [])))))))))) := by kernel_rfl
theorem ref_NewUnit_w (m : Nat) (K : KK) (st : St) : goD Γ_ref_NewUnit tab fn_ref_NewUnit 0 K (m + 1) [.code (bodyOf fn_ref_NewUnit)] st = segD Γ_ref_NewUnit tab fn_ref_NewUnit 0 K (goD Γ_ref_NewUnit tab fn_ref_NewUnit 0 K m) [.code (bodyOf fn_ref_NewUnit)] st := rfl

set_option maxHeartbeats 4000000 in
theorem run_ref_NewUnit (l : List Int) (name : Int) (hp : checkImage l = 0 ∧ 1 ≤ name ∧ name ≤ 60) (K : KK) (hK : K (.agg [dL (newU l name).1.f.words, dI (newU l name).1.f.fuel, dB (newU l name).1.up, dI (newU l name).1.n, dI (newU l name).1.got]) []) : ∃ m, goD Γ_ref_NewUnit tab fn_ref_NewUnit 0 K m [.code (bodyOf fn_ref_NewUnit)] (initSt [.one (dL l), .one (dI name)] []) := by
  obtain ⟨p1, p2, p3⟩ := hp
  obtain ⟨i1, i2, i3⟩ := checkImage_ok p1
  refine ⟨1, ?_⟩
  rw [ref_NewUnit_w, ref_NewUnit_vc _ _ _ _]
  rw [newU_is p1 p2 p3] at hK
  have eZ : setAt (zeros (Int.toNat (192 : Int)) (65535 : Int)) (Int.toNat (0 : Int)) (1 : Int) = freshW := rfl
  have lz : len (zeros (Int.toNat (192 : Int)) (65535 : Int)) = 192 := by unfold len zeros; rw [List.length_replicate]; rfl
  rw [eZ, lz]
  have l0 : len freshW = 192 := freshW_len
  rw [l0]
  have s1 : slc [(42243 : Int), 1, 0, 0] 0 (min (Int.toNat (((192 : Nat) : Int) - (1 : Int))) (len [(42243 : Int), 1, 0, 0])) = [42243, 1, 0, 0] := slc_all _ _ (by simp [len])
  rw [s1, show Int.toNat (1 : Int) = 1 from rfl]
  have a1 : (put freshW 1 [42243, 1, 0, 0]).length = 192 := by rw [put_len _ _ _ (by rw [freshW_len]; simp), freshW_len]
  have l1 : len (put freshW 1 [42243, 1, 0, 0]) = 192 := a1
  rw [l1]
  rw [w64_id (n := 65535 - ((len l : Nat) : Int)) (by simp only [len]; omega) (by simp only [len]; omega), w64_id (n := 65535 - name) (by omega) (by omega)]
  have s2 : slc [((len l : Nat) : Int), name, 65535 - ((len l : Nat) : Int), 65535 - name] 0 (min (Int.toNat (((192 : Nat) : Int) - (64 : Int))) (len [((len l : Nat) : Int), name, 65535 - ((len l : Nat) : Int), 65535 - name])) = headOf l.length name := slc_all _ _ (by simp [len])
  rw [s2, show Int.toNat (64 : Int) = 64 from rfl]
  have a2 : (put (put freshW 1 [42243, 1, 0, 0]) 64 (headOf l.length name)).length = 192 := by rw [put_len _ _ _ (by rw [a1]; simp [headOf]), a1]
  have l2 : len (put (put freshW 1 [42243, 1, 0, 0]) 64 (headOf l.length name)) = 192 := a2
  rw [l2]
  have s3 : slc l 0 (min (Int.toNat (((192 : Nat) : Int) - (68 : Int))) (len l)) = l := slc_all _ _ (by simp only [len]; omega)
  rw [s3, show Int.toNat (68 : Int) = 68 from rfl]
  refine ⟨by omega, ⟨by omega, by omega⟩, by omega, ⟨by omega, by omega, by omega⟩, by omega, ⟨by omega, by omega, by omega⟩, by omega, ⟨by omega, by omega, by omega⟩, by omega, hK⟩
theorem sound_ref_NewUnit : SoundC Tryz.prog tab n_ref_NewUnit c_ref_NewUnit := soundC_of ok_ref_NewUnit hf_ref_NewUnit hB_ref_NewUnit (by
  intro vs bs p v bs' h hp
  unfold c_ref_NewUnit at h
  split at h
  · cases h
    exact ⟨by kernel_rfl, rfl, .inl (run_ref_NewUnit _ _ hp.1 _ ⟨rfl, rfl⟩)⟩
  · cases h)

def c_ref_RecordsOf : Contract := fun vs bs => match vs, bs with
  | [.agg [.dat (.list .int) ws, .dat .int _]], [] => some (some (64 ≤ len ws ∧ len ws ≤ 192 ∧ okWords ws = true), .tup [.one (.dat (.list (.list .int)) (recsOf ws)), .one (.dat .int (nextI (liveS ws) (scanS ws (liveS ws)).2))], [])
  | _, _ => none
def Γ_ref_RecordsOf : Ctx := [(n_ref_counts, c_ref_counts)]
theorem ok_ref_RecordsOf : Ok Tryz.prog tab Γ_ref_RecordsOf := (ok_nil.consC hf_ref_counts hB_ref_counts sound_ref_counts)
noncomputable def ref_RecordsOf_L0 : List It := [.inLoop [8, 7, 6, 3, 2, 1] (Code.sub (bodyOf fn_ref_RecordsOf) [1, 1, 1, 1, 0, 0, 0]), .inBlock 0, .code (Code.sub (bodyOf fn_ref_RecordsOf) [1, 1, 1, 1, 1])]
def ref_RecordsOf_S0 (x0 : Int) (x1 : Int) (x2 : Int) (x3 : (List (List Int))) (x4 : (List (List Int))) (x5 : (List Int)) (x6 : Int) : St := ⟨[(8, .one (dI x0)), (7, .one (dI x1)), (6, .one (.own 0)), (3, .one (dI x2)), (2, .one (.own 1)), (1, .one (.ptr 2 0))], [(0, .arr (Ty.list Ty.int) x3), (1, .arr (Ty.list Ty.int) x4), (2, .box [dL x5, dI x6])], 3⟩
noncomputable def ref_RecordsOf_L1 : List It := [.inLoop [84, 83, 82, 7, 6, 3, 2] (Code.sub (bodyOf fn_ref_RecordsOf) [1, 1, 1, 1, 1, 0, 1, 0, 0]), .inBlock 2, .code (Code.sub (bodyOf fn_ref_RecordsOf) [1, 1, 1, 1, 1, 1])]
def ref_RecordsOf_S1 (x0 : Int) (x1 : Int) (x2 : (List Int)) (x3 : Int) (x4 : Int) (x5 : (List (List Int))) (x6 : (List (List Int))) : St := ⟨[(84, .one (dI x0)), (83, .one (dI x1)), (82, .one (dL x2)), (7, .one (dI x3)), (6, .one (.own 0)), (3, .one (dI x4)), (2, .one (.own 1))], [(0, .arr (Ty.list Ty.int) x5), (1, .arr (Ty.list Ty.int) x6)], 2⟩
theorem ref_RecordsOf_vc (ws : List Int) (fu : Int) (rec : RK) (K : KK) v0 (hv0 : v0 = (liveS ws)) : segD Γ_ref_RecordsOf tab fn_ref_RecordsOf 0 K rec [.code (bodyOf fn_ref_RecordsOf)] (initSt [.agg [dL ws, dI fu]] []) = (
 (64 ≤ (len ws)) ∧
 (rec ref_RecordsOf_L0 (ref_RecordsOf_S0 (w64 ((w64 ((32 : Int) * ((v0 : Nat) : Int))) + (32 : Int))) (w64 ((w64 ((32 : Int) * ((v0 : Nat) : Int))) + (1 : Int))) (0 : Int) [] [] ws fu))) := by subst_vars; kernel_rfl
theorem ref_RecordsOf_w (m : Nat) (K : KK) (st : St) : goD Γ_ref_RecordsOf tab fn_ref_RecordsOf 0 K (m + 1) [.code (bodyOf fn_ref_RecordsOf)] st = segD Γ_ref_RecordsOf tab fn_ref_RecordsOf 0 K (goD Γ_ref_RecordsOf tab fn_ref_RecordsOf 0 K m) [.code (bodyOf fn_ref_RecordsOf)] st := rfl
theorem ref_RecordsOf_vc0 (x0 : Int) (x1 : Int) (x2 : Int) (x3 : (List (List Int))) (x4 : (List (List Int))) (x5 : (List Int)) (x6 : Int) (rec : RK) (K : KK) v0 (hv0 : v0 = (rec ref_RecordsOf_L1 (ref_RecordsOf_S1 (0 : Int) (((len (slc x5 (Int.toNat x1) (Int.toNat x0))) : Nat) : Int) (slc x5 (Int.toNat x1) (Int.toNat x0)) x1 x2 x3 x4))) : segD Γ_ref_RecordsOf tab fn_ref_RecordsOf 0 K rec (.code (Code.sub (bodyOf fn_ref_RecordsOf) [1, 1, 1, 1, 0, 0, 0]) :: ref_RecordsOf_L0) (ref_RecordsOf_S0 x0 x1 x2 x3 x4 x5 x6) = (
 br (lti x1 x0)
 ((((0 : Int) ≤ x1) ∧ (x1 < (((len x5) : Nat) : Int))) ∧
 (br (lei (42241 : Int) (nth x5 (Int.toNat x1) (Ty.dflt Ty.int)))
 ((((0 : Int) ≤ x1) ∧ (x1 < (((len x5) : Nat) : Int))) ∧
 (br (lei (nth x5 (Int.toNat x1) (Ty.dflt Ty.int)) (42244 : Int))
 ((((0 : Int) ≤ x1) ∧ (x1 < (((len x5) : Nat) : Int))) ∧
 (br (lti (w64 ((w64 (x1 + (nth x5 (Int.toNat x1) (Ty.dflt Ty.int)))) - (42240 : Int))) x0)
 ((((0 : Int) ≤ x1) ∧ (x1 < (((len x5) : Nat) : Int))) ∧
 ((((0 : Int) ≤ (w64 (x1 + (1 : Int)))) ∧ (((w64 (x1 + (1 : Int))) ≤ (w64 ((w64 (x1 + (1 : Int))) + (w64 ((nth x5 (Int.toNat x1) (Ty.dflt Ty.int)) - (42240 : Int)))))) ∧ ((w64 ((w64 (x1 + (1 : Int))) + (w64 ((nth x5 (Int.toNat x1) (Ty.dflt Ty.int)) - (42240 : Int))))) ≤ (((len x5) : Nat) : Int)))) ∧
 ((((0 + (len (slc x5 (Int.toNat (w64 (x1 + (1 : Int)))) (Int.toNat (w64 ((w64 (x1 + (1 : Int))) + (w64 ((nth x5 (Int.toNat x1) (Ty.dflt Ty.int)) - (42240 : Int))))))))) * 8) ≤ 140737488355328) ∧
 (((((len x3) + (len ((cat [] (slc x5 (Int.toNat (w64 (x1 + (1 : Int)))) (Int.toNat (w64 ((w64 (x1 + (1 : Int))) + (w64 ((nth x5 (Int.toNat x1) (Ty.dflt Ty.int)) - (42240 : Int)))))))) :: []))) * 24) ≤ 140737488355328) ∧
 (rec ref_RecordsOf_L0 (ref_RecordsOf_S0 x0 (w64 (x1 + (w64 ((1 : Int) + (w64 ((nth x5 (Int.toNat x1) (Ty.dflt Ty.int)) - (42240 : Int))))))) x2 (cat x3 ((cat [] (slc x5 (Int.toNat (w64 (x1 + (1 : Int)))) (Int.toNat (w64 ((w64 (x1 + (1 : Int))) + (w64 ((nth x5 (Int.toNat x1) (Ty.dflt Ty.int)) - (42240 : Int)))))))) :: [])) x4 x5 x6))))))
 ((((0 : Int) ≤ x1) ∧ ((x1 ≤ x0) ∧ (x0 ≤ (((len x5) : Nat) : Int)))) ∧
 v0)))
 ((((0 : Int) ≤ x1) ∧ ((x1 ≤ x0) ∧ (x0 ≤ (((len x5) : Nat) : Int)))) ∧
 v0)))
 ((((0 : Int) ≤ x1) ∧ ((x1 ≤ x0) ∧ (x0 ≤ (((len x5) : Nat) : Int)))) ∧
 v0)))
 ((((0 : Int) ≤ x1) ∧ ((x1 ≤ x0) ∧ (x0 ≤ (((len x5) : Nat) : Int)))) ∧
 v0)) := by subst_vars; kernel_rfl
theorem ref_RecordsOf_w0 (m : Nat) (K : KK) (st : St) : goD Γ_ref_RecordsOf tab fn_ref_RecordsOf 0 K (m + 1) ref_RecordsOf_L0 st = segD Γ_ref_RecordsOf tab fn_ref_RecordsOf 0 K (goD Γ_ref_RecordsOf tab fn_ref_RecordsOf 0 K m) (.code (Code.sub (bodyOf fn_ref_RecordsOf) [1, 1, 1, 1, 0, 0, 0]) :: ref_RecordsOf_L0) st := rfl
theorem ref_RecordsOf_vc1 (x0 : Int) (x1 : Int) (x2 : (List Int)) (x3 : Int) (x4 : Int) (x5 : (List (List Int))) (x6 : (List (List Int))) (rec : RK) (K : KK) : segD Γ_ref_RecordsOf tab fn_ref_RecordsOf 0 K rec (.code (Code.sub (bodyOf fn_ref_RecordsOf) [1, 1, 1, 1, 1, 0, 1, 0, 0]) :: ref_RecordsOf_L1) (ref_RecordsOf_S1 x0 x1 x2 x3 x4 x5 x6) = (
 br (lti x0 x1)
 ((((0 : Int) ≤ x0) ∧ (x0 < (((len x2) : Nat) : Int))) ∧
 (br (!(eqi (nth x2 (Int.toNat x0) (Ty.dflt Ty.int)) (65535 : Int)))
 (K (.tup [.one (dR x5), .one (dI (-(1 : Int)))]) [])
 (rec ref_RecordsOf_L1 (ref_RecordsOf_S1 (w64 (x0 + (1 : Int))) x1 x2 x3 x4 x5 x6))))
 (K (.tup [.one (dR x5), .one (dI x3)]) [])) := by kernel_rfl
theorem ref_RecordsOf_w1 (m : Nat) (K : KK) (st : St) : goD Γ_ref_RecordsOf tab fn_ref_RecordsOf 0 K (m + 1) ref_RecordsOf_L1 st = segD Γ_ref_RecordsOf tab fn_ref_RecordsOf 0 K (goD Γ_ref_RecordsOf tab fn_ref_RecordsOf 0 K m) (.code (Code.sub (bodyOf fn_ref_RecordsOf) [1, 1, 1, 1, 1, 0, 1, 0, 0]) :: ref_RecordsOf_L1) st := rfl

theorem clean_ref_RecordsOf (x3 x4 : Int) (x5 x6 : List (List Int)) (K : KK) (t : List Int) (ht : t.length ≤ 32)
    (hK : K (.tup [.one (dR x5), .one (dI (if allClean t then x3 else -1))]) []) : ∀ (d k : Nat), t.length ≤ k + d → k ≤ t.length → allClean (t.take k) = true →
    goD Γ_ref_RecordsOf tab fn_ref_RecordsOf 0 K (d + 1) ref_RecordsOf_L1 (ref_RecordsOf_S1 (k : Int) (((len t) : Nat) : Int) t x3 x4 x5 x6)
  | 0, k, hk, hk2, he => by
    rw [ref_RecordsOf_w1, ref_RecordsOf_vc1 _ _ _ _ _ _ _ _ _]
    rw [List.take_of_length_le (by omega)] at he
    rw [if_pos he] at hK
    exact lt_f (by simp only [len]; omega) hK
  | d + 1, k, hk, hk2, he => by
    rw [ref_RecordsOf_w1, ref_RecordsOf_vc1 _ _ _ _ _ _ _ _ _, toNat_nat]
    by_cases c : k = t.length
    · rw [List.take_of_length_le (by omega)] at he
      rw [if_pos he] at hK
      exact lt_f (by simp only [len]; omega) hK
    refine lt_t (by simp only [len]; omega) ⟨⟨by omega, by simp only [len]; omega⟩, ne_s (fun hne => ?_) (fun heq => ?_)⟩
    · rw [if_neg (by rw [show allClean t = false from all_false (k := k) (by omega) (Ty.dflt Ty.int) (by simpa using hne)]; simp)] at hK
      exact hK
    · rw [w64_succ (by omega)]
      exact clean_ref_RecordsOf x3 x4 x5 x6 K t ht hK d (k + 1) (by omega) (by omega) (all_take_step (by omega) (Ty.dflt Ty.int) he (by simpa using heq))
theorem exit_ref_RecordsOf (ws : List Int) (sec : Nat) (hsec : sec ≤ 1) (hl : 32 * sec + 32 ≤ ws.length) (K : KK) (k : Nat) (hk : k ≤ 31) (acc : List (List Int)) (x2 : Int) (x4 : List (List Int)) (M : Nat)
    (hK : K (.tup [.one (dR acc), .one (dI (if allClean ((tailS ws sec).drop k) then 32 * (sec : Int) + 1 + k else -1))]) []) :
    goD Γ_ref_RecordsOf tab fn_ref_RecordsOf 0 K (M + 33) ref_RecordsOf_L1 (ref_RecordsOf_S1 (0 : Int) (((len (slc ws (32 * sec + 1 + k) (32 * sec + 32))) : Nat) : Int) (slc ws (32 * sec + 1 + k) (32 * sec + 32)) (((32 * sec + 1 + k : Nat) : Int)) x2 acc x4) := by
  have e : slc ws (32 * sec + 1 + k) (32 * sec + 32) = (tailS ws sec).drop k := by
    unfold tailS sectorW slc
    rw [List.drop_drop, List.drop_drop]; congr 1; omega
  rw [e]
  have ll : ((tailS ws sec).drop k).length ≤ 32 := by rw [List.length_drop, tailS_len hl]; omega
  refine clean_ref_RecordsOf _ _ _ _ K _ ll ?_ (M + 32) 0 (by omega) (by omega) rfl
  rw [show ((32 * sec + 1 + k : Nat) : Int) = 32 * (sec : Int) + 1 + k by omega]
  exact hK
theorem loop_ref_RecordsOf (ws : List Int) (fu : Int) (sec : Nat) (hsec : sec ≤ 1) (hl : 32 * sec + 32 ≤ ws.length) (hok : okWords ws = true) (x2 : Int) (x4 : List (List Int)) (K : KK) : ∀ (m k : Nat) (acc : List (List Int)), k ≤ 31 → 31 ≤ m + k → acc.length ≤ k →
    K (.tup [.one (dR (acc ++ (scanL m ((tailS ws sec).drop k)).1)), .one (dI (match (scanL m ((tailS ws sec).drop k)).2 with | some n => 32 * (sec : Int) + 1 + k + n | none => -1))]) [] →
    goD Γ_ref_RecordsOf tab fn_ref_RecordsOf 0 K (m + 34) ref_RecordsOf_L0 (ref_RecordsOf_S0 (((32 * sec + 32 : Nat) : Int)) (((32 * sec + 1 + k : Nat) : Int)) x2 acc x4 ws fu)
  | 0, k, acc, hk, hm, ha, hK => by
    have : k = 31 := by omega
    subst this
    rw [show 0 + 34 = 33 + 1 by omega, ref_RecordsOf_w0, ref_RecordsOf_vc0 _ _ _ _ _ _ _ _ _ _ rfl, toNat_nat]; try rw [toNat_nat]
    simp only [scanL, List.append_nil] at hK
    refine lt_f (by omega) ⟨⟨by omega, by omega, by simp only [len]; omega⟩, exit_ref_RecordsOf ws sec hsec hl K 31 (by omega) acc x2 x4 0 ?_⟩
    rw [List.drop_of_length_le (by rw [tailS_len hl]; omega)]
    simpa [allClean] using hK
  | m + 1, k, acc, hk, hm, ha, hK => by
    rw [show m + 1 + 34 = (m + 34) + 1 by omega, ref_RecordsOf_w0, ref_RecordsOf_vc0 _ _ _ _ _ _ _ _ _ _ rfl, toNat_nat]; try rw [toNat_nat]
    by_cases c : k = 31
    · subst c
      rw [List.drop_of_length_le (by rw [tailS_len hl]; omega)] at hK
      simp only [scanL, List.append_nil] at hK
      refine lt_f (by omega) ⟨⟨by omega, by omega, by simp only [len]; omega⟩, exit_ref_RecordsOf ws sec hsec hl K 31 (by omega) acc x2 x4 (m + 1) ?_⟩
      rw [List.drop_of_length_le (by rw [tailS_len hl]; omega)]
      simpa [allClean] using hK
    have tl := tailS_len hl
    have hdr := drop_step (l := tailS ws sec) (k := k) (by omega) (Ty.dflt Ty.int)
    have hnx : nth (tailS ws sec) k (Ty.dflt Ty.int) = nth ws (32 * sec + 1 + k) (Ty.dflt Ty.int) := tailS_getD ws sec k (by omega)
    rw [hnx] at hdr
    rw [hdr] at hK
    obtain ⟨x, hx⟩ : ∃ x, nth ws (32 * sec + 1 + k) (Ty.dflt Ty.int) = x := ⟨_, rfl⟩
    have hxo := getD_ok hok (32 * sec + 1 + k)
    have hxe : ws.getD (32 * sec + 1 + k) 0 = x := hx
    rw [hxe] at hxo
    rw [hx] at hK hdr ⊢
    simp only [scanL] at hK
    have out : headN x = 0 ∨ ¬ headN x ≤ ((tailS ws sec).drop (k + 1)).length → (((0 : Int) ≤ ((32 * sec + 1 + k : Nat) : Int)) ∧ ((((32 * sec + 1 + k : Nat) : Int) ≤ ((32 * sec + 32 : Nat) : Int)) ∧ (((32 * sec + 32 : Nat) : Int) ≤ (((len ws) : Nat) : Int)))) ∧
        goD Γ_ref_RecordsOf tab fn_ref_RecordsOf 0 K (m + 34) ref_RecordsOf_L1 (ref_RecordsOf_S1 (0 : Int) (((len (slc ws (32 * sec + 1 + k) (32 * sec + 32))) : Nat) : Int) (slc ws (32 * sec + 1 + k) (32 * sec + 32)) (((32 * sec + 1 + k : Nat) : Int)) x2 acc x4) := fun hh => by
      refine ⟨⟨by omega, by omega, by simp only [len]; omega⟩, exit_ref_RecordsOf ws sec hsec hl K k hk acc x2 x4 (m + 1) ?_⟩
      rw [hdr]
      by_cases c2 : x = 65535
      · rw [if_pos c2] at hK
        have e : allClean (x :: (tailS ws sec).drop (k + 1)) = allClean ((tailS ws sec).drop (k + 1)) := by simp [allClean, c2]
        rw [e]
        cases hc : allClean ((tailS ws sec).drop (k + 1))
        · simpa [hc] using hK
        · simpa [hc] using hK
      · rw [if_neg c2] at hK
        have e : allClean (x :: (tailS ws sec).drop (k + 1)) = false := by simp [allClean, c2]
        rw [e]
        by_cases c3 : headN x = 0
        · rw [if_pos c3] at hK; simpa using hK
        · rw [if_neg c3, if_neg (hh.resolve_left c3)] at hK; simpa using hK
    have rng : ((0 : Int) ≤ ((32 * sec + 1 + k : Nat) : Int)) ∧ (((32 * sec + 1 + k : Nat) : Int) < (((len ws) : Nat) : Int)) := ⟨by omega, by simp only [len]; omega⟩
    refine lt_t (by omega) ⟨rng, br_split (fun g1 => ⟨rng, br_split (fun g2 => ⟨rng, ?_⟩) (fun g2 => ?_)⟩) (fun g1 => ?_)⟩
    case refine_2 => exact out (.inl (by rw [lei_false] at g2; unfold headN; rw [if_neg (by omega)]))
    case refine_3 => exact out (.inl (by rw [lei_false] at g1; unfold headN; rw [if_neg (by omega)]))
    rw [lei_true] at g1 g2
    obtain ⟨n, hn⟩ : ∃ n, headN x = n := ⟨_, rfl⟩
    have hxn : x = 42240 + (n : Int) ∧ 1 ≤ n ∧ n ≤ 4 := by unfold headN at hn; rw [if_pos ⟨g1, g2⟩] at hn; omega
    obtain ⟨hxn, n1, n4⟩ := hxn
    have ld : ((tailS ws sec).drop (k + 1)).length = 30 - k := by rw [List.length_drop, tl]; omega
    rw [w64_id (n := ((32 * sec + 1 + k : Nat) : Int) + x) (by omega) (by omega), w64_id (n := ((32 * sec + 1 + k : Nat) : Int) + x - 42240) (by omega) (by omega)]
    refine lt_s (fun g3 => ?_) (fun g3 => out (.inr (by rw [ld, hn]; omega)))
    rw [hn] at hK
    rw [if_neg (by omega), if_neg (by omega), if_pos (by rw [ld]; omega)] at hK
    rw [w64_id (n := x - 42240) (by omega) (by omega), show x - 42240 = (n : Int) by omega, w64_id (n := ((32 * sec + 1 + k : Nat) : Int) + 1) (by omega) (by omega), w64_id (n := ((32 * sec + 1 + k : Nat) : Int) + 1 + (n : Int)) (by omega) (by omega), w64_id (n := (1 : Int) + (n : Int)) (by omega) (by omega), w64_id (n := ((32 * sec + 1 + k : Nat) : Int) + (1 + (n : Int))) (by omega) (by omega)]
    rw [show Int.toNat (((32 * sec + 1 + k : Nat) : Int) + 1) = 32 * sec + 1 + (k + 1) by omega, show Int.toNat (((32 * sec + 1 + k : Nat) : Int) + 1 + (n : Int)) = 32 * sec + 1 + (k + 1) + n by omega, show ((32 * sec + 1 + k : Nat) : Int) + (1 + (n : Int)) = ((32 * sec + 1 + (k + 1 + n) : Nat) : Int) by omega]
    have es : slc ws (32 * sec + 1 + (k + 1)) (32 * sec + 1 + (k + 1) + n) = ((tailS ws sec).drop (k + 1)).take n := by
      refine ext_getD (by rw [slc_len _ _ _ (by omega), List.length_take, ld]; omega) fun i hi => ?_
      rw [slc_len _ _ _ (by omega)] at hi
      rw [slc_getD _ _ _ _ (by omega)]
      have e2 : ∀ l : List Int, (l.take n).getD i 0 = l.getD i 0 := fun l => by simp only [List.getD_eq_getElem?_getD]; rw [List.getElem?_take_of_lt hi]
      rw [e2, drop_getD, tailS_getD _ _ _ (by omega), show 32 * sec + 1 + (k + 1 + i) = 32 * sec + 1 + (k + 1) + i by omega]
    rw [es]
    have ec : cat ([] : List Int) (((tailS ws sec).drop (k + 1)).take n) = ((tailS ws sec).drop (k + 1)).take n := rfl
    rw [ec]
    refine ⟨rng, ⟨by omega, by omega, by simp only [len]; omega⟩, by simp only [len, List.length_take]; omega, by simp only [len, List.length_cons, List.length_nil]; omega, ?_⟩
    refine loop_ref_RecordsOf ws fu sec hsec hl hok x2 x4 K m (k + 1 + n) _ (by omega) (by omega) (by simp only [cat, List.length_append, List.length_cons, List.length_nil]; omega) ?_
    rw [List.drop_drop] at hK
    have hK' := hK
    simp only [cat, List.append_assoc, List.cons_append, List.nil_append] at hK' ⊢
    cases hsc : (scanL m ((tailS ws sec).drop (k + 1 + n))).2 with
    | none => simpa [hsc] using hK'
    | some p =>
      simp only [hsc, Option.map] at hK'
      rw [show 32 * (sec : Int) + 1 + (k : Int) + ((p + n + 1 : Nat) : Int) = 32 * (sec : Int) + 1 + ((k + 1 + n : Nat) : Int) + (p : Int) by omega] at hK'
      exact hK'
set_option maxHeartbeats 4000000 in
theorem run_ref_RecordsOf (ws : List Int) (fu : Int) (hp : 64 ≤ len ws ∧ len ws ≤ 192 ∧ okWords ws = true) (K : KK) (hK : K (.tup [.one (dR (recsOf ws)), .one (dI (nextI (liveS ws) (scanS ws (liveS ws)).2))]) []) : ∃ m, goD Γ_ref_RecordsOf tab fn_ref_RecordsOf 0 K m [.code (bodyOf fn_ref_RecordsOf)] (initSt [.agg [dL ws, dI fu]] []) := by
  obtain ⟨h1, h2, hok⟩ := hp
  have hs := liveS_le ws
  refine ⟨32 + 34 + 1, ?_⟩
  rw [ref_RecordsOf_w, ref_RecordsOf_vc _ _ _ _ _ rfl]
  unfold recsOf at hK
  obtain ⟨s, hss⟩ : ∃ s, liveS ws = s := ⟨_, rfl⟩
  rw [hss] at hK hs ⊢
  simp only [len] at h1 h2
  rw [w64_id (n := 32 * (s : Int)) (by omega) (by omega), w64_id (n := 32 * (s : Int) + 32) (by omega) (by omega), w64_id (n := 32 * (s : Int) + 1) (by omega) (by omega)]
  refine ⟨h1, ?_⟩
  rw [show 32 * (s : Int) + 32 = ((32 * s + 32 : Nat) : Int) by omega, show 32 * (s : Int) + 1 = ((32 * s + 1 + 0 : Nat) : Int) by omega]
  refine loop_ref_RecordsOf ws fu s hs (by omega) hok 0 [] K 32 0 [] (by omega) (by omega) (by simp) ?_
  rw [List.nil_append, List.drop_zero]
  rw [tailS_nonempty (by omega)] at hK
  cases hsc : (scanL 32 (tailS ws s)).2 with
  | none =>
    simp only [hsc, nextI] at hK
    exact hK
  | some p =>
    simp only [hsc, nextI] at hK
    simpa using hK
theorem sound_ref_RecordsOf : SoundC Tryz.prog tab n_ref_RecordsOf c_ref_RecordsOf := soundC_of ok_ref_RecordsOf hf_ref_RecordsOf hB_ref_RecordsOf (by
  intro vs bs p v bs' h hp
  unfold c_ref_RecordsOf at h
  split at h
  · cases h
    exact ⟨by kernel_rfl, rfl, .inl (run_ref_RecordsOf _ _ hp.1 _ ⟨rfl, rfl⟩)⟩
  · cases h)

def c_ref_UnitStateOf : Contract := fun vs bs => match vs, bs with
  | [.agg [.dat (.list .int) ws, .dat .int fu, .dat .bool _, .dat .int _, .dat .int _]], [] => some (some (checkLog ⟨ws, fu⟩ = 0), .agg [.dat .int (ofU ⟨ws, fu⟩).slot, .dat .int (ofU ⟨ws, fu⟩).by_, .dat .int (ofU ⟨ws, fu⟩).ready], [])
  | _, _ => none
def Γ_ref_UnitStateOf : Ctx := [(n_ref_RecordsOf, c_ref_RecordsOf)]
theorem ok_ref_UnitStateOf : Ok Tryz.prog tab Γ_ref_UnitStateOf := (ok_nil.consC hf_ref_RecordsOf hB_ref_RecordsOf sound_ref_RecordsOf)
noncomputable def ref_UnitStateOf_L0 : List It := [.inLoop [7, 6, 5, 3, 2] (Code.sub (bodyOf fn_ref_UnitStateOf) [1, 1, 1, 1, 0, 1, 0, 0]), .inBlock 0, .code (Code.sub (bodyOf fn_ref_UnitStateOf) [1, 1, 1, 1, 1])]
def ref_UnitStateOf_S0 (x0 : Int) (x1 : Bool) (x2 : (List (List Int))) (x3 : Int) (x4 : Int) (x5 : Int) (x6 : Int) (x7 : Int) (x8 : Int) : St := ⟨[(7, .one (dI x0)), (6, .one (dB x1)), (5, .one (.ptr 0 0)), (3, .one (dR x2)), (2, .one (.ptr 1 0))], [(0, .box [dI x3, dI x4, dI x5]), (1, .box [dI x6, dI x7, dI x8])], 2⟩
theorem ref_UnitStateOf_vc (ws : List Int) (fu : Int) (up : Bool) (un : Int) (ug : Int) (rec : RK) (K : KK) v0 (hv0 : v0 = (okWords ws)) v1 (hv1 : v1 = (recsOf ws)) : segD Γ_ref_UnitStateOf tab fn_ref_UnitStateOf 0 K rec [.code (bodyOf fn_ref_UnitStateOf)] (initSt [.agg [dL ws, dI fu, dB up, dI un, dI ug]] []) = (
 ((64 ≤ (len ws)) ∧ (((len ws) ≤ 192) ∧ (v0 = true))) ∧
 (rec ref_UnitStateOf_L0 (ref_UnitStateOf_S0 (w64 ((((len v1) : Nat) : Int) - (1 : Int))) false v1 (0 : Int) (0 : Int) (0 : Int) (0 : Int) (0 : Int) (0 : Int)))) := by subst_vars; kernel_rfl
theorem ref_UnitStateOf_w (m : Nat) (K : KK) (st : St) : goD Γ_ref_UnitStateOf tab fn_ref_UnitStateOf 0 K (m + 1) [.code (bodyOf fn_ref_UnitStateOf)] st = segD Γ_ref_UnitStateOf tab fn_ref_UnitStateOf 0 K (goD Γ_ref_UnitStateOf tab fn_ref_UnitStateOf 0 K m) [.code (bodyOf fn_ref_UnitStateOf)] st := rfl
theorem ref_UnitStateOf_vc0 (x0 : Int) (x1 : Bool) (x2 : (List (List Int))) (x3 : Int) (x4 : Int) (x5 : Int) (x6 : Int) (x7 : Int) (x8 : Int) (rec : RK) (K : KK) v2 (hv2 : v2 = (rec ref_UnitStateOf_L0 (ref_UnitStateOf_S0 (w64 (x0 - (1 : Int))) x1 x2 x3 x4 x5 x6 x7 x8))) v1 (hv1 : v1 = (br (!x1)
 ((((0 : Int) ≤ (0 : Int)) ∧ ((0 : Int) < (((len (nth x2 (Int.toNat x0) (Ty.dflt (Ty.list Ty.int)))) : Nat) : Int))) ∧
 (br (eqi (nth (nth x2 (Int.toNat x0) (Ty.dflt (Ty.list Ty.int))) (Int.toNat (0 : Int)) (Ty.dflt Ty.int)) (2 : Int))
 ((((0 : Int) ≤ (1 : Int)) ∧ ((1 : Int) < (((len (nth x2 (Int.toNat x0) (Ty.dflt (Ty.list Ty.int)))) : Nat) : Int))) ∧
 (rec ref_UnitStateOf_L0 (ref_UnitStateOf_S0 (w64 (x0 - (1 : Int))) true x2 x3 x4 (nth (nth x2 (Int.toNat x0) (Ty.dflt (Ty.list Ty.int))) (Int.toNat (1 : Int)) (Ty.dflt Ty.int)) x6 x7 x8)))
 (rec ref_UnitStateOf_L0 (ref_UnitStateOf_S0 (w64 (x0 - (1 : Int))) true x2 x3 x4 x5 x6 x7 x8))))
 v2)) v0 (hv0 : v0 = (br (eqi (((len (nth x2 (Int.toNat x0) (Ty.dflt (Ty.list Ty.int)))) : Nat) : Int) (2 : Int))
 ((((0 : Int) ≤ (0 : Int)) ∧ ((0 : Int) < (((len (nth x2 (Int.toNat x0) (Ty.dflt (Ty.list Ty.int)))) : Nat) : Int))) ∧
 (br (eqi (nth (nth x2 (Int.toNat x0) (Ty.dflt (Ty.list Ty.int))) (Int.toNat (0 : Int)) (Ty.dflt Ty.int)) (2 : Int))
 v1
 ((((0 : Int) ≤ (0 : Int)) ∧ ((0 : Int) < (((len (nth x2 (Int.toNat x0) (Ty.dflt (Ty.list Ty.int)))) : Nat) : Int))) ∧
 (br (eqi (nth (nth x2 (Int.toNat x0) (Ty.dflt (Ty.list Ty.int))) (Int.toNat (0 : Int)) (Ty.dflt Ty.int)) (3 : Int))
 v1
 v2))))
 v2)) : segD Γ_ref_UnitStateOf tab fn_ref_UnitStateOf 0 K rec (.code (Code.sub (bodyOf fn_ref_UnitStateOf) [1, 1, 1, 1, 0, 1, 0, 0]) :: ref_UnitStateOf_L0) (ref_UnitStateOf_S0 x0 x1 x2 x3 x4 x5 x6 x7 x8) = (
 br (lei (0 : Int) x0)
 ((((0 : Int) ≤ x0) ∧ (x0 < (((len x2) : Nat) : Int))) ∧
 (br (eqi (((len (nth x2 (Int.toNat x0) (Ty.dflt (Ty.list Ty.int)))) : Nat) : Int) (3 : Int))
 ((((0 : Int) ≤ (0 : Int)) ∧ ((0 : Int) < (((len (nth x2 (Int.toNat x0) (Ty.dflt (Ty.list Ty.int)))) : Nat) : Int))) ∧
 (br (eqi (nth (nth x2 (Int.toNat x0) (Ty.dflt (Ty.list Ty.int))) (Int.toNat (0 : Int)) (Ty.dflt Ty.int)) (1 : Int))
 ((((0 : Int) ≤ (1 : Int)) ∧ ((1 : Int) < (((len (nth x2 (Int.toNat x0) (Ty.dflt (Ty.list Ty.int)))) : Nat) : Int))) ∧
 (br (lti (nth (nth x2 (Int.toNat x0) (Ty.dflt (Ty.list Ty.int))) (Int.toNat (1 : Int)) (Ty.dflt Ty.int)) (2 : Int))
 ((((0 : Int) ≤ (1 : Int)) ∧ ((1 : Int) < (((len (nth x2 (Int.toNat x0) (Ty.dflt (Ty.list Ty.int)))) : Nat) : Int))) ∧
 ((((0 : Int) ≤ (2 : Int)) ∧ ((2 : Int) < (((len (nth x2 (Int.toNat x0) (Ty.dflt (Ty.list Ty.int)))) : Nat) : Int))) ∧
 (K (.agg [dI (nth (nth x2 (Int.toNat x0) (Ty.dflt (Ty.list Ty.int))) (Int.toNat (1 : Int)) (Ty.dflt Ty.int)), dI (nth (nth x2 (Int.toNat x0) (Ty.dflt (Ty.list Ty.int))) (Int.toNat (2 : Int)) (Ty.dflt Ty.int)), dI x5]) [])))
 v0))
 v0))
 v0))
 (K (.agg [dI x3, dI x4, dI x5]) [])) := by subst_vars; kernel_rfl
theorem ref_UnitStateOf_w0 (m : Nat) (K : KK) (st : St) : goD Γ_ref_UnitStateOf tab fn_ref_UnitStateOf 0 K (m + 1) ref_UnitStateOf_L0 st = segD Γ_ref_UnitStateOf tab fn_ref_UnitStateOf 0 K (goD Γ_ref_UnitStateOf tab fn_ref_UnitStateOf 0 K m) (.code (Code.sub (bodyOf fn_ref_UnitStateOf) [1, 1, 1, 1, 0, 1, 0, 0]) :: ref_UnitStateOf_L0) st := rfl

theorem br_three {p q r : Bool} {c0 c1 T X : Prop} (hc0 : p = true → c0) (hc1 : p = true → c1) (hT : p = true → q = true → r = true → T) (hX : ¬ (p = true ∧ q = true ∧ r = true) → X) : br p (c0 ∧ br q (c1 ∧ br r T X) X) X := by
  cases p
  · exact hX (by simp)
  · refine ⟨hc0 rfl, ?_⟩
    cases q
    · exact hX (by simp)
    · refine ⟨hc1 rfl, ?_⟩
      cases r
      · exact hX (by simp)
      · exact hT rfl rfl rfl
theorem loop_ref_UnitStateOf (l : List (List Int)) (hl : l.length ≤ 1000) (K : KK) (x6 x7 x8 : Int) (hK : K (.agg [dI (stateR l).slot, dI (stateR l).by_, dI (stateR l).ready]) []) : ∀ (d : Nat) (told : Bool) (x5 : Int), d ≤ l.length → (told = false → x5 = 0) →
    (stateR l = ⟨(stateR (l.take d)).slot, (stateR (l.take d)).by_, if told then x5 else (stateR (l.take d)).ready⟩) →
    goD Γ_ref_UnitStateOf tab fn_ref_UnitStateOf 0 K (d + 1) ref_UnitStateOf_L0 (ref_UnitStateOf_S0 ((d : Int) - 1) told l 0 0 x5 x6 x7 x8)
  | 0, told, x5, hd, h0, hi => by
    rw [ref_UnitStateOf_w0, ref_UnitStateOf_vc0 _ _ _ _ _ _ _ _ _ _ _ _ rfl _ rfl _ rfl]
    refine br_f (by rw [lei_false]; omega) ?_
    rw [hi] at hK
    have e : (if told then x5 else (stateR (l.take 0)).ready) = x5 := by
      cases told
      · exact (h0 rfl).symm
      · rfl
    rw [e] at hK
    exact hK
  | d + 1, told, x5, hd, h0, hi => by
    rw [ref_UnitStateOf_w0, ref_UnitStateOf_vc0 _ _ _ _ _ _ _ _ _ _ _ _ rfl _ rfl _ rfl]
    rw [show (((d + 1 : Nat) : Int) - 1) = (d : Int) by omega, toNat_nat, w64_id (by omega) (by omega)]
    have es : stateR (l.take (d + 1)) = stepR (stateR (l.take d)) (nth l d (Ty.dflt (Ty.list Ty.int))) := by
      rw [take_step (by omega) (Ty.dflt (Ty.list Ty.int))]
      unfold stateR
      rw [List.foldl_append]; rfl
    rw [es] at hi
    obtain ⟨e, he⟩ : ∃ e, nth l d (Ty.dflt (Ty.list Ty.int)) = e := ⟨_, rfl⟩
    rw [he] at hi ⊢
    obtain ⟨F, hF⟩ : ∃ F, stateR (l.take d) = F := ⟨_, rfl⟩
    have go : ∀ (told' : Bool) (y : Int), (told' = false → y = 0) → stateR l = ⟨F.slot, F.by_, if told' then y else F.ready⟩ → goD Γ_ref_UnitStateOf tab fn_ref_UnitStateOf 0 K (d + 1) ref_UnitStateOf_L0 (ref_UnitStateOf_S0 ((d : Int) - 1) told' l 0 0 y x6 x7 x8) := fun told' y h1 h2 =>
      loop_ref_UnitStateOf l hl K x6 x7 x8 hK d told' y (by omega) h1 (by rw [hF]; exact h2)
    rw [hF] at hi
    have e0 : nth e 0 (Ty.dflt Ty.int) = e.getD 0 0 := rfl
    have e1 : nth e 1 (Ty.dflt Ty.int) = e.getD 1 0 := rfl
    have e2 : nth e 2 (Ty.dflt Ty.int) = e.getD 2 0 := rfl
    rw [show Int.toNat (0 : Int) = 0 from rfl, show Int.toNat (1 : Int) = 1 from rfl, show Int.toNat (2 : Int) = 2 from rfl, e0, e1, e2]
    refine br_t (by rw [lei_true]; omega) ⟨⟨by omega, by simp only [len]; omega⟩, br_three (fun h => ?_) (fun h => ?_) (fun h1 h2 h3 => ?_) (fun hn => ?_)⟩
    · rw [eqi_true] at h; exact ⟨by omega, by omega⟩
    · rw [eqi_true] at h; exact ⟨by omega, by omega⟩
    · rw [eqi_true] at h1 h2
      rw [lti_true] at h3
      refine ⟨⟨by omega, by omega⟩, ⟨by omega, by omega⟩, ?_⟩
      have es2 : stepR F e = ⟨e.getD 1 0, e.getD 2 0, 0⟩ := if_pos ⟨h2, by simp only [len] at h1; omega, by omega⟩
      rw [es2] at hi
      rw [hi] at hK
      have ey : (if told then x5 else (0 : Int)) = x5 := by
        cases told
        · exact (h0 rfl).symm
        · rfl
      simp only at hK
      rw [ey] at hK
      exact hK
    · have n1 : ¬ (e.getD 0 0 = 1 ∧ e.length = 3 ∧ e.getD 1 0 ≤ 1) := fun g => hn ⟨eqi_true.2 (by simp only [len]; omega), eqi_true.2 g.1, lti_true.2 (by omega)⟩
      have stay : ¬ (e.length = 2 ∧ (e.getD 0 0 = 2 ∨ e.getD 0 0 = 3)) → goD Γ_ref_UnitStateOf tab fn_ref_UnitStateOf 0 K (d + 1) ref_UnitStateOf_L0 (ref_UnitStateOf_S0 ((d : Int) - 1) told l 0 0 x5 x6 x7 x8) := fun n2 => by
        refine go told x5 h0 ?_
        have : stepR F e = F := by
          unfold stepR
          rw [if_neg n1, if_neg (fun g => n2 ⟨g.2, .inl g.1⟩), if_neg (fun g => n2 ⟨g.2, .inr g.1⟩)]
        rw [this] at hi; exact hi
      refine eq_s (fun h1 => ⟨⟨by omega, by omega⟩, eq_s (fun h2 => ?_) (fun h2 => ⟨⟨by omega, by omega⟩, eq_s (fun h3 => ?_) (fun h3 => stay (fun g => ?_))⟩)⟩) (fun h1 => stay (fun g => h1 (by simp only [len]; omega)))
      · have es2 : stepR F e = ⟨F.slot, F.by_, e.getD 1 0⟩ := by
          unfold stepR
          rw [if_neg n1, if_pos ⟨h2, by simp only [len] at h1; omega⟩]
        rw [es2] at hi
        cases told
        · exact ⟨⟨by omega, by omega⟩, eq_t h2 ⟨⟨by omega, by omega⟩, go true _ (fun h => by cases h) hi⟩⟩
        · exact go true x5 h0 hi
      · have es2 : stepR F e = ⟨F.slot, F.by_, 0⟩ := by
          unfold stepR
          rw [if_neg n1, if_neg (fun g => h2 g.1), if_pos ⟨h3, by simp only [len] at h1; omega⟩]
        rw [es2] at hi
        cases told
        · refine ⟨⟨by omega, by omega⟩, eq_f h2 (go true x5 (fun h => by cases h) ?_)⟩
          rw [hi, h0 rfl]; rfl
        · exact go true x5 h0 hi
      · rcases g.2 with g | g
        · exact h2 g
        · exact h3 g
set_option maxHeartbeats 4000000 in
theorem run_ref_UnitStateOf (ws : List Int) (fu : Int) (up : Bool) (un ug : Int) (hp : checkLog ⟨ws, fu⟩ = 0) (K : KK) (hK : K (.agg [dI (ofU ⟨ws, fu⟩).slot, dI (ofU ⟨ws, fu⟩).by_, dI (ofU ⟨ws, fu⟩).ready]) []) : ∃ m, goD Γ_ref_UnitStateOf tab fn_ref_UnitStateOf 0 K m [.code (bodyOf fn_ref_UnitStateOf)] (initSt [.agg [dL ws, dI fu, dB up, dI un, dI ug]] []) := by
  obtain ⟨k1, k2, _⟩ := checkLog_ok hp
  obtain ⟨c1, _, _, c4⟩ := checkFlash_ok k1
  simp only at k2 c1 c4
  refine ⟨(recsOf ws).length + 2, ?_⟩
  rw [ref_UnitStateOf_w, ref_UnitStateOf_vc _ _ _ _ _ _ _ _ rfl _ rfl]
  have hm := (recsOf_small ws).2
  refine ⟨⟨by simp only [len]; omega, by have := okLen_le c1; simp only [len]; omega, c4⟩, ?_⟩
  rw [ofU_W hp] at hK
  unfold stW at hK
  rw [w64_id (by simp only [len]; omega) (by simp only [len]; omega)]
  exact loop_ref_UnitStateOf (recsOf ws) (by omega) K 0 0 0 hK (recsOf ws).length false 0 (Nat.le_refl _) (fun _ => rfl) (by rw [List.take_length]; rfl)
theorem sound_ref_UnitStateOf : SoundC Tryz.prog tab n_ref_UnitStateOf c_ref_UnitStateOf := soundC_of ok_ref_UnitStateOf hf_ref_UnitStateOf hB_ref_UnitStateOf (by
  intro vs bs p v bs' h hp
  unfold c_ref_UnitStateOf at h
  split at h
  · cases h
    exact ⟨by kernel_rfl, rfl, .inl (run_ref_UnitStateOf _ _ _ _ _ hp.1 _ ⟨rfl, rfl⟩)⟩
  · cases h)

def c_ref_ImageOf : Contract := fun vs bs => match vs, bs with
  | [.agg [.dat (.list .int) ws, .dat .int fu], .one (.dat .int slot)], [] => some (some (checkSlot ⟨ws, fu⟩ slot = 0), .tup [.one (.dat (.list .int) (imageR ws slot).1), .one (.dat .int (imageR ws slot).2)], [])
  | _, _ => none
def Γ_ref_ImageOf : Ctx := []
theorem ok_ref_ImageOf : Ok Tryz.prog tab Γ_ref_ImageOf := ok_nil
theorem ref_ImageOf_vc (ws : List Int) (fu : Int) (slot : Int) (rec : RK) (K : KK) : segD Γ_ref_ImageOf tab fn_ref_ImageOf 0 K rec [.code (bodyOf fn_ref_ImageOf)] (initSt [.agg [dL ws, dI fu], .one (dI slot)] []) = (
 (((0 : Int) ≤ (w64 ((64 : Int) + (w64 ((64 : Int) * slot))))) ∧ (((w64 ((64 : Int) + (w64 ((64 : Int) * slot)))) ≤ (((len ws) : Nat) : Int)) ∧ ((((len ws) : Nat) : Int) ≤ (((len ws) : Nat) : Int)))) ∧
 ((((0 : Int) ≤ (0 : Int)) ∧ ((0 : Int) < (((len (slc ws (Int.toNat (w64 ((64 : Int) + (w64 ((64 : Int) * slot))))) (Int.toNat (((len ws) : Nat) : Int)))) : Nat) : Int))) ∧
 ((((0 : Int) ≤ (1 : Int)) ∧ ((1 : Int) < (((len (slc ws (Int.toNat (w64 ((64 : Int) + (w64 ((64 : Int) * slot))))) (Int.toNat (((len ws) : Nat) : Int)))) : Nat) : Int))) ∧
 (br (lti (nth (slc ws (Int.toNat (w64 ((64 : Int) + (w64 ((64 : Int) * slot))))) (Int.toNat (((len ws) : Nat) : Int))) (Int.toNat (0 : Int)) (Ty.dflt Ty.int)) (1 : Int))
 (K (.tup [.one (dL []), .one (dI (0 : Int))]) [])
 (br (lti (40 : Int) (nth (slc ws (Int.toNat (w64 ((64 : Int) + (w64 ((64 : Int) * slot))))) (Int.toNat (((len ws) : Nat) : Int))) (Int.toNat (0 : Int)) (Ty.dflt Ty.int)))
 (K (.tup [.one (dL []), .one (dI (0 : Int))]) [])
 (br (lti (nth (slc ws (Int.toNat (w64 ((64 : Int) + (w64 ((64 : Int) * slot))))) (Int.toNat (((len ws) : Nat) : Int))) (Int.toNat (1 : Int)) (Ty.dflt Ty.int)) (1 : Int))
 (K (.tup [.one (dL []), .one (dI (0 : Int))]) [])
 (br (lti (60 : Int) (nth (slc ws (Int.toNat (w64 ((64 : Int) + (w64 ((64 : Int) * slot))))) (Int.toNat (((len ws) : Nat) : Int))) (Int.toNat (1 : Int)) (Ty.dflt Ty.int)))
 (K (.tup [.one (dL []), .one (dI (0 : Int))]) [])
 ((((0 : Int) ≤ (2 : Int)) ∧ ((2 : Int) < (((len (slc ws (Int.toNat (w64 ((64 : Int) + (w64 ((64 : Int) * slot))))) (Int.toNat (((len ws) : Nat) : Int)))) : Nat) : Int))) ∧
 (br (!(eqi (w64 ((nth (slc ws (Int.toNat (w64 ((64 : Int) + (w64 ((64 : Int) * slot))))) (Int.toNat (((len ws) : Nat) : Int))) (Int.toNat (0 : Int)) (Ty.dflt Ty.int)) + (nth (slc ws (Int.toNat (w64 ((64 : Int) + (w64 ((64 : Int) * slot))))) (Int.toNat (((len ws) : Nat) : Int))) (Int.toNat (2 : Int)) (Ty.dflt Ty.int)))) (65535 : Int)))
 (K (.tup [.one (dL []), .one (dI (0 : Int))]) [])
 ((((0 : Int) ≤ (3 : Int)) ∧ ((3 : Int) < (((len (slc ws (Int.toNat (w64 ((64 : Int) + (w64 ((64 : Int) * slot))))) (Int.toNat (((len ws) : Nat) : Int)))) : Nat) : Int))) ∧
 (br (!(eqi (w64 ((nth (slc ws (Int.toNat (w64 ((64 : Int) + (w64 ((64 : Int) * slot))))) (Int.toNat (((len ws) : Nat) : Int))) (Int.toNat (1 : Int)) (Ty.dflt Ty.int)) + (nth (slc ws (Int.toNat (w64 ((64 : Int) + (w64 ((64 : Int) * slot))))) (Int.toNat (((len ws) : Nat) : Int))) (Int.toNat (3 : Int)) (Ty.dflt Ty.int)))) (65535 : Int)))
 (K (.tup [.one (dL []), .one (dI (0 : Int))]) [])
 ((((0 : Int) ≤ (4 : Int)) ∧ (((4 : Int) ≤ (w64 ((4 : Int) + (nth (slc ws (Int.toNat (w64 ((64 : Int) + (w64 ((64 : Int) * slot))))) (Int.toNat (((len ws) : Nat) : Int))) (Int.toNat (0 : Int)) (Ty.dflt Ty.int))))) ∧ ((w64 ((4 : Int) + (nth (slc ws (Int.toNat (w64 ((64 : Int) + (w64 ((64 : Int) * slot))))) (Int.toNat (((len ws) : Nat) : Int))) (Int.toNat (0 : Int)) (Ty.dflt Ty.int)))) ≤ (((len (slc ws (Int.toNat (w64 ((64 : Int) + (w64 ((64 : Int) * slot))))) (Int.toNat (((len ws) : Nat) : Int)))) : Nat) : Int)))) ∧
 (K (.tup [.one (dL (slc (slc ws (Int.toNat (w64 ((64 : Int) + (w64 ((64 : Int) * slot))))) (Int.toNat (((len ws) : Nat) : Int))) (Int.toNat (4 : Int)) (Int.toNat (w64 ((4 : Int) + (nth (slc ws (Int.toNat (w64 ((64 : Int) + (w64 ((64 : Int) * slot))))) (Int.toNat (((len ws) : Nat) : Int))) (Int.toNat (0 : Int)) (Ty.dflt Ty.int))))))), .one (dI (nth (slc ws (Int.toNat (w64 ((64 : Int) + (w64 ((64 : Int) * slot))))) (Int.toNat (((len ws) : Nat) : Int))) (Int.toNat (1 : Int)) (Ty.dflt Ty.int)))]) []))))))))))))) := by kernel_rfl
theorem ref_ImageOf_w (m : Nat) (K : KK) (st : St) : goD Γ_ref_ImageOf tab fn_ref_ImageOf 0 K (m + 1) [.code (bodyOf fn_ref_ImageOf)] st = segD Γ_ref_ImageOf tab fn_ref_ImageOf 0 K (goD Γ_ref_ImageOf tab fn_ref_ImageOf 0 K m) [.code (bodyOf fn_ref_ImageOf)] st := rfl

set_option maxHeartbeats 4000000 in
theorem run_ref_ImageOf (ws : List Int) (fu slot : Int) (hp : checkSlot ⟨ws, fu⟩ slot = 0) (K : KK) (hK : K (.tup [.one (dL (imageR ws slot).1), .one (dI (imageR ws slot).2)]) []) : ∃ m, goD Γ_ref_ImageOf tab fn_ref_ImageOf 0 K m [.code (bodyOf fn_ref_ImageOf)] (initSt [.agg [dL ws, dI fu], .one (dI slot)] []) := by
  refine ⟨1, ?_⟩
  rw [ref_ImageOf_w, ref_ImageOf_vc _ _ _ _ _]
  obtain ⟨h1, h2, h3⟩ := checkSlot_ok hp
  obtain ⟨_, _, _, c4⟩ := checkFlash_ok h1
  simp only at h2 c4
  obtain ⟨b, hb⟩ : ∃ b, beginS slot = b := ⟨_, rfl⟩
  have hb' : (64 + 64 * slot) = (b : Int) := by unfold beginS at hb; omega
  rw [w64_id (n := 64 * slot) (by omega) (by omega), w64_id (n := 64 + 64 * slot) (by omega) (by omega), hb', show Int.toNat (((len ws) : Nat) : Int) = ws.length from rfl, toNat_nat]
  have hlen : (slc ws b ws.length).length = 192 - b := by simp [slc]; omega
  have g0 : nth (slc ws b ws.length) (Int.toNat (0 : Int)) (Ty.dflt Ty.int) = ws.getD b 0 := slc_getD ws b ws.length 0 (by omega)
  have g1 : nth (slc ws b ws.length) (Int.toNat (1 : Int)) (Ty.dflt Ty.int) = ws.getD (b + 1) 0 := slc_getD ws b ws.length 1 (by omega)
  have g2 : nth (slc ws b ws.length) (Int.toNat (2 : Int)) (Ty.dflt Ty.int) = ws.getD (b + 2) 0 := slc_getD ws b ws.length 2 (by omega)
  have g3 : nth (slc ws b ws.length) (Int.toNat (3 : Int)) (Ty.dflt Ty.int) = ws.getD (b + 3) 0 := slc_getD ws b ws.length 3 (by omega)
  rw [g0, g1, g2, g3]
  simp only [len, hlen]
  unfold imageR at hK
  simp only [hb] at hK
  have o0 := okWord_range (okWords_at c4 b (by omega))
  have o1 := okWord_range (okWords_at c4 (b + 1) (by omega))
  have o2 := okWord_range (okWords_at c4 (b + 2) (by omega))
  have o3 := okWord_range (okWords_at c4 (b + 3) (by omega))
  have four : ¬ (okHead (ws.getD b 0) (ws.getD (b + 1) 0) = true ∧ ws.getD (b + 2) 0 = 65535 - ws.getD b 0 ∧ ws.getD (b + 3) 0 = 65535 - ws.getD (b + 1) 0) → K (.tup [.one (dL []), .one (dI 0)]) [] := fun hn => by
    have : sealedAt ws b = false := by
      unfold sealedAt
      cases hh : okHead (ws.getD b 0) (ws.getD (b + 1) 0)
      · rfl
      · simp only [Bool.true_and, Bool.and_eq_false_iff, decide_eq_false_iff_not]
        by_cases c : ws.getD (b + 2) 0 = 65535 - ws.getD b 0
        · exact .inr fun c2 => hn ⟨hh, c, c2⟩
        · exact .inl c
    rw [this] at hK
    exact hK
  have hd : okHead (ws.getD b 0) (ws.getD (b + 1) 0) = true ↔ (1 ≤ ws.getD b 0 ∧ ws.getD b 0 ≤ 40 ∧ 1 ≤ ws.getD (b + 1) 0 ∧ ws.getD (b + 1) 0 ≤ 60) := by
    simp only [okHead, Bool.and_eq_true, decide_eq_true_eq]; omega
  rw [hd] at four
  refine ⟨by omega, by omega, by omega, lt_s (fun h4 => four (by omega)) (fun h4 => lt_s (fun h5 => four (by omega)) (fun h5 => lt_s (fun h6 => four (by omega)) (fun h6 => lt_s (fun h7 => four (by omega)) (fun h7 => ⟨by omega, ?_⟩))))⟩
  rw [w64_id (n := ws.getD b 0 + ws.getD (b + 2) 0) (by omega) (by omega), w64_id (n := ws.getD (b + 1) 0 + ws.getD (b + 3) 0) (by omega) (by omega)]
  refine ne_s (fun h8 => four (by omega)) (fun h8 => ⟨by omega, ne_s (fun h9 => four (by omega)) (fun h9 => ?_)⟩)
  rw [w64_id (by omega) (by omega), show Int.toNat (4 + ws.getD b 0) = 4 + (ws.getD b 0).toNat by omega, show Int.toNat (4 : Int) = 4 from rfl]
  have hs : sealedAt ws b = true := by
    unfold sealedAt
    rw [hd.2 (by omega)]
    simp only [Bool.true_and, Bool.and_eq_true, decide_eq_true_eq]
    exact ⟨by omega, by omega⟩
  rw [hs] at hK
  rw [slc_slc _ _ _ _ _ (by omega), ← Nat.add_assoc]
  exact ⟨by omega, hK⟩
theorem sound_ref_ImageOf : SoundC Tryz.prog tab n_ref_ImageOf c_ref_ImageOf := soundC_of ok_ref_ImageOf hf_ref_ImageOf hB_ref_ImageOf (by
  intro vs bs p v bs' h hp
  unfold c_ref_ImageOf at h
  split at h
  · cases h
    exact ⟨by kernel_rfl, rfl, .inl (run_ref_ImageOf _ _ _ hp.1 _ ⟨rfl, rfl⟩)⟩
  · cases h)

def c_ref_CheckBook : Contract := fun vs bs => match vs, bs with
  | [.agg [.dat (.list .str) l]], [] => some (none, .one (.dat .int (checkBook l)), [])
  | _, _ => none
def Γ_ref_CheckBook : Ctx := [(n_slices_Index_Lstring, c_slices_Index_Lstring)]
theorem ok_ref_CheckBook : Ok Tryz.prog tab Γ_ref_CheckBook := (ok_nil.consC hf_slices_Index_Lstring hB_slices_Index_Lstring sound_slices_Index_Lstring)
noncomputable def ref_CheckBook_L0 : List It := [.inLoop [12, 11, 10, 2, 1] (Code.sub (bodyOf fn_ref_CheckBook) [1, 1, 0, 1, 0, 0]), .inBlock 0, .code (Code.sub (bodyOf fn_ref_CheckBook) [1, 1, 1])]
def ref_CheckBook_S0 (x0 : Int) (x1 : Int) (x2 : (List (List UInt8))) (x3 : Int) (x4 : (List (List UInt8))) : St := ⟨[(12, .one (dI x0)), (11, .one (dI x1)), (10, .one (.dat (Ty.list Ty.str) x2)), (2, .one (dI x3)), (1, .one (.ptr 0 0))], [(0, .box [.dat (Ty.list Ty.str) x4])], 1⟩
theorem ref_CheckBook_vc (l : List (List UInt8)) (rec : RK) (K : KK) : segD Γ_ref_CheckBook tab fn_ref_CheckBook 0 K rec [.code (bodyOf fn_ref_CheckBook)] (initSt [.agg [.dat (Ty.list Ty.str) l]] []) = (
 br (lti (60 : Int) (((len l) : Nat) : Int))
 (K (.one (dI (2 : Int))) [])
 (rec ref_CheckBook_L0 (ref_CheckBook_S0 (0 : Int) (((len l) : Nat) : Int) l (0 : Int) l))) := by kernel_rfl
theorem ref_CheckBook_w (m : Nat) (K : KK) (st : St) : goD Γ_ref_CheckBook tab fn_ref_CheckBook 0 K (m + 1) [.code (bodyOf fn_ref_CheckBook)] st = segD Γ_ref_CheckBook tab fn_ref_CheckBook 0 K (goD Γ_ref_CheckBook tab fn_ref_CheckBook 0 K m) [.code (bodyOf fn_ref_CheckBook)] st := rfl
theorem ref_CheckBook_vc0 (x0 : Int) (x1 : Int) (x2 : (List (List UInt8))) (x3 : Int) (x4 : (List (List UInt8))) (rec : RK) (K : KK) v0 (hv0 : v0 = (indexS (nth x2 (Int.toNat x0) (Ty.dflt Ty.str)) x4)) : segD Γ_ref_CheckBook tab fn_ref_CheckBook 0 K rec (.code (Code.sub (bodyOf fn_ref_CheckBook) [1, 1, 0, 1, 0, 0]) :: ref_CheckBook_L0) (ref_CheckBook_S0 x0 x1 x2 x3 x4) = (
 br (lti x0 x1)
 ((((0 : Int) ≤ x0) ∧ (x0 < (((len x2) : Nat) : Int))) ∧
 (br (lti (2000 : Int) (((len (nth x2 (Int.toNat x0) (Ty.dflt Ty.str))) : Nat) : Int))
 (K (.one (dI (2 : Int))) [])
 (((List.length x4) ≤ 140737488355328) ∧
 (br (lti v0 x0)
 (K (.one (dI (6 : Int))) [])
 (rec ref_CheckBook_L0 (ref_CheckBook_S0 (w64 (x0 + (1 : Int))) x1 x2 x3 x4))))))
 (K (.one (dI (0 : Int))) [])) := by subst_vars; kernel_rfl
theorem ref_CheckBook_w0 (m : Nat) (K : KK) (st : St) : goD Γ_ref_CheckBook tab fn_ref_CheckBook 0 K (m + 1) ref_CheckBook_L0 st = segD Γ_ref_CheckBook tab fn_ref_CheckBook 0 K (goD Γ_ref_CheckBook tab fn_ref_CheckBook 0 K m) (.code (Code.sub (bodyOf fn_ref_CheckBook) [1, 1, 0, 1, 0, 0]) :: ref_CheckBook_L0) st := rfl

theorem loop_ref_CheckBook (l : List (List UInt8)) (hl : l.length ≤ 60) (K : KK) : ∀ (d k : Nat), k + d = l.length → K (.one (dI (bookFrom (l.take k) (l.drop k)))) [] →
    goD Γ_ref_CheckBook tab fn_ref_CheckBook 0 K (d + 1) ref_CheckBook_L0 (ref_CheckBook_S0 (k : Int) (((len l) : Nat) : Int) l 0 l)
  | 0, k, hk, hK => by
    rw [ref_CheckBook_w0, ref_CheckBook_vc0 _ _ _ _ _ _ _ _ rfl]
    rw [List.drop_of_length_le (by omega)] at hK
    exact lt_f (by simp only [len]; omega) hK
  | d + 1, k, hk, hK => by
    rw [ref_CheckBook_w0, ref_CheckBook_vc0 _ _ _ _ _ _ _ _ rfl, toNat_nat]
    have hi := indexS_take (l := l) (k := k) (by omega) (rfl : nth l k (Ty.dflt Ty.str) = nth l k (Ty.dflt Ty.str))
    rw [drop_step (by omega) (Ty.dflt Ty.str)] at hK
    simp only [bookFrom] at hK
    refine lt_t (by simp only [len]; omega) ⟨⟨by omega, by simp only [len]; omega⟩, lt_s (fun h => ?_) (fun h => ⟨by omega, br_split (fun h2 => ?_) (fun h2 => ?_)⟩)⟩
    · rw [if_pos (by simp only [len] at h; omega)] at hK; exact hK
    · rw [if_neg (by simp only [len] at h; omega), if_pos (by rw [← hi]; exact h2)] at hK; exact hK
    · rw [if_neg (by simp only [len] at h; omega), if_neg (by rw [← hi, h2]; simp)] at hK
      rw [w64_succ (by omega)]
      rw [← take_step (by omega) (Ty.dflt Ty.str)] at hK
      exact loop_ref_CheckBook l hl K d (k + 1) (by omega) hK
set_option maxHeartbeats 4000000 in
theorem run_ref_CheckBook (l : List (List UInt8)) (K : KK) (hK : K (.one (dI (checkBook l))) []) : ∃ m, goD Γ_ref_CheckBook tab fn_ref_CheckBook 0 K m [.code (bodyOf fn_ref_CheckBook)] (initSt [.agg [.dat (.list .str) l]] []) := by
  refine ⟨l.length + 2, ?_⟩
  rw [ref_CheckBook_w, ref_CheckBook_vc _ _ _]
  unfold checkBook at hK
  refine lt_s (fun h => ?_) (fun h => ?_)
  · rw [if_pos (by simp only [len] at h; omega)] at hK; exact hK
  · rw [if_neg (by simp only [len] at h; omega)] at hK
    exact loop_ref_CheckBook l (by simp only [len] at h; omega) K l.length 0 (by omega) hK
theorem sound_ref_CheckBook : SoundC Tryz.prog tab n_ref_CheckBook c_ref_CheckBook := soundC_of ok_ref_CheckBook hf_ref_CheckBook hB_ref_CheckBook (by
  intro vs bs p v bs' h hp
  unfold c_ref_CheckBook at h
  split at h
  · cases h
    exact ⟨by kernel_rfl, rfl, .inl (run_ref_CheckBook _ _ ⟨rfl, rfl⟩)⟩
  · cases h)

abbrev n_ref_OwnFlash_d : Nat := n_ref_OwnFlash
noncomputable abbrev fn_ref_OwnFlash_d : Func := fn_ref_OwnFlash
theorem hf_ref_OwnFlash_d : Tryz.prog.funcs[n_ref_OwnFlash_d]? = some fn_ref_OwnFlash_d := hf_ref_OwnFlash
theorem hB_ref_OwnFlash_d : fnB fn_ref_OwnFlash_d = true := hB_ref_OwnFlash
def c_ref_OwnFlash_d : Contract := fun vs bs => match vs, bs with
  | [.agg [.dat (.list .int) ws, .dat .int fu]], [] => some (some (len ws * 8 ≤ 140737488355328), .agg [.dat (.list .int) ws, .dat .int fu], [])
  | _, _ => none
def Γ_ref_OwnFlash_d : Ctx := []
theorem ok_ref_OwnFlash_d : Ok Tryz.prog tab Γ_ref_OwnFlash_d := ok_nil
theorem ref_OwnFlash_d_vc (ws : List Int) (fu : Int) (rec : RK) (K : KK) : segD Γ_ref_OwnFlash_d tab fn_ref_OwnFlash_d 0 K rec [.code (bodyOf fn_ref_OwnFlash_d)] (initSt [.agg [dL ws, dI fu]] []) = (
 (((0 + (len ws)) * 8) ≤ 140737488355328) ∧
 (K (.agg [dL (cat [] ws), dI fu]) [])) := by kernel_rfl
theorem ref_OwnFlash_d_w (m : Nat) (K : KK) (st : St) : goD Γ_ref_OwnFlash_d tab fn_ref_OwnFlash_d 0 K (m + 1) [.code (bodyOf fn_ref_OwnFlash_d)] st = segD Γ_ref_OwnFlash_d tab fn_ref_OwnFlash_d 0 K (goD Γ_ref_OwnFlash_d tab fn_ref_OwnFlash_d 0 K m) [.code (bodyOf fn_ref_OwnFlash_d)] st := rfl

set_option maxHeartbeats 4000000 in
theorem run_ref_OwnFlash_d (ws : List Int) (fu : Int) (hp : len ws * 8 ≤ 140737488355328) (K : KK) (hK : K (.agg [dL ws, dI fu]) []) : ∃ m, goD Γ_ref_OwnFlash_d tab fn_ref_OwnFlash_d 0 K m [.code (bodyOf fn_ref_OwnFlash_d)] (initSt [.agg [dL ws, dI fu]] []) := by
  refine ⟨1, ?_⟩
  rw [ref_OwnFlash_d_w, ref_OwnFlash_d_vc _ _ _ _]
  exact ⟨by simp only [len] at hp ⊢; omega, hK⟩
theorem sound_ref_OwnFlash_d : SoundC Tryz.prog tab n_ref_OwnFlash_d c_ref_OwnFlash_d := soundC_of ok_ref_OwnFlash_d hf_ref_OwnFlash_d hB_ref_OwnFlash_d (by
  intro vs bs p v bs' h hp
  unfold c_ref_OwnFlash_d at h
  split at h
  · cases h
    exact ⟨by kernel_rfl, rfl, .inl (run_ref_OwnFlash_d _ _ hp.1 _ ⟨rfl, rfl⟩)⟩
  · cases h)

def c_ref_UnitHears_1 : Contract := fun vs bs => match vs, bs with
  | [.one (.dat .int k), .one (.dat .bool y), .one (.ptr 0 0), .one (.ptr 1 0)], [.box [.ptr 2 0], .box [.dat .int mk, .dat .int mu, .dat .int mn, .dat .int ma, .dat .int mi, .dat (.list .int) mw, .dat .bool my], .box [.dat (.list .int) ws, .dat .int fu, .dat .bool up, .dat .int un, .dat .int ug, .dat .bool hs]] => some (none, .tup [.agg [.dat (.list .int) ws, .dat .int fu, .dat .bool up, .dat .int un, .dat .int ug], .one (.dat (.list .message) (answerS hs mu mn k y))], [.box [.ptr 2 0], .box [.dat .int mk, .dat .int mu, .dat .int mn, .dat .int ma, .dat .int mi, .dat (.list .int) mw, .dat .bool my], .box [.dat (.list .int) ws, .dat .int fu, .dat .bool up, .dat .int un, .dat .int ug, .dat .bool hs]])
  | _, _ => none
def Γ_ref_UnitHears_1 : Ctx := []
theorem ok_ref_UnitHears_1 : Ok Tryz.prog tab Γ_ref_UnitHears_1 := ok_nil
theorem ref_UnitHears_1_vc (k : Int) (y : Bool) (ws : List Int) (fu : Int) (up : Bool) (un : Int) (ug : Int) (hs : Bool) (mk : Int) (mu : Int) (mn : Int) (ma : Int) (mi : Int) (mw : List Int) (my : Bool) (rec : RK) (K : KK) : segD Γ_ref_UnitHears_1 tab fn_ref_UnitHears_1 3 K rec [.code (bodyOf fn_ref_UnitHears_1)] (initSt [.one (dI k), .one (dB y), .one (.ptr 0 0), .one (.ptr 1 0)] [.box [.ptr 2 0], .box [dI mk, dI mu, dI mn, dI ma, dI mi, dL mw, dB my], .box [dL ws, dI fu, dB up, dI un, dI ug, dB hs]]) = (
 br hs
 (K (.tup [.agg [dL ws, dI fu, dB up, dI un, dI ug], .one (dM [])]) [.box [.ptr 2 0], .box [dI mk, dI mu, dI mn, dI ma, dI mi, dL mw, dB my], .box [dL ws, dI fu, dB up, dI un, dI ug, dB hs]])
 (K (.tup [.agg [dL ws, dI fu, dB up, dI un, dI ug], .one (dM ((⟨k, mu, mn, (0 : Int), (0 : Int), [], y⟩ : Vm.Message) :: []))]) [.box [.ptr 2 0], .box [dI mk, dI mu, dI mn, dI ma, dI mi, dL mw, dB my], .box [dL ws, dI fu, dB up, dI un, dI ug, dB hs]])) := by kernel_rfl
theorem ref_UnitHears_1_w (m : Nat) (K : KK) (st : St) : goD Γ_ref_UnitHears_1 tab fn_ref_UnitHears_1 3 K (m + 1) [.code (bodyOf fn_ref_UnitHears_1)] st = segD Γ_ref_UnitHears_1 tab fn_ref_UnitHears_1 3 K (goD Γ_ref_UnitHears_1 tab fn_ref_UnitHears_1 3 K m) [.code (bodyOf fn_ref_UnitHears_1)] st := rfl

set_option maxHeartbeats 4000000 in
theorem run_ref_UnitHears_1 (k : Int) (y : Bool) (ws : List Int) (fu : Int) (up : Bool) (un ug : Int) (hs : Bool) (mk mu mn ma mi : Int) (mw : List Int) (my : Bool) (K : KK) (hK : K (.tup [.agg [dL ws, dI fu, dB up, dI un, dI ug], .one (dM (answerS hs mu mn k y))]) [.box [.ptr 2 0], .box [dI mk, dI mu, dI mn, dI ma, dI mi, dL mw, dB my], .box [dL ws, dI fu, dB up, dI un, dI ug, dB hs]]) : ∃ m, goD Γ_ref_UnitHears_1 tab fn_ref_UnitHears_1 3 K m [.code (bodyOf fn_ref_UnitHears_1)] (initSt [.one (dI k), .one (dB y), .one (.ptr 0 0), .one (.ptr 1 0)] [.box [.ptr 2 0], .box [dI mk, dI mu, dI mn, dI ma, dI mi, dL mw, dB my], .box [dL ws, dI fu, dB up, dI un, dI ug, dB hs]]) := by
  refine ⟨1, ?_⟩
  rw [ref_UnitHears_1_w, ref_UnitHears_1_vc _ _ _ _ _ _ _ _ _ _ _ _ _ _ _ _ _]
  cases hs
  · exact hK
  · exact hK
theorem sound_ref_UnitHears_1 : SoundC Tryz.prog tab n_ref_UnitHears_1 c_ref_UnitHears_1 := soundC_of ok_ref_UnitHears_1 hf_ref_UnitHears_1 hB_ref_UnitHears_1 (by
  intro vs bs p v bs' h hp
  unfold c_ref_UnitHears_1 at h
  split at h
  · cases h
    exact ⟨by kernel_rfl, rfl, .inl (run_ref_UnitHears_1 _ _ _ _ _ _ _ _ _ _ _ _ _ _ _ _ ⟨rfl, rfl⟩)⟩
  · cases h)

def c_ref_hands_flash : Contract := fun vs bs => match vs, bs with
  | [.one (.ptr 0 0), .agg [.dat (.list .int) gs, .dat .int gf], .one (.dat .int e)], [.box [.dat (.list .int) ws, .dat .int fu, .dat .bool up, .dat .int un, .dat .int ug, .dat .bool hs]] => some (none, .tup [], [.box [.dat (.list .int) (changeU ⟨⟨ws, fu⟩, up, un, ug⟩ ⟨gs, gf⟩ e).1.f.words, .dat .int (changeU ⟨⟨ws, fu⟩, up, un, ug⟩ ⟨gs, gf⟩ e).1.f.fuel, .dat .bool (changeU ⟨⟨ws, fu⟩, up, un, ug⟩ ⟨gs, gf⟩ e).1.up, .dat .int (changeU ⟨⟨ws, fu⟩, up, un, ug⟩ ⟨gs, gf⟩ e).1.n, .dat .int (changeU ⟨⟨ws, fu⟩, up, un, ug⟩ ⟨gs, gf⟩ e).1.got, .dat .bool (stopS hs e)]])
  | _, _ => none
def Γ_ref_hands_flash : Ctx := []
theorem ok_ref_hands_flash : Ok Tryz.prog tab Γ_ref_hands_flash := ok_nil
theorem ref_hands_flash_vc (ws : List Int) (fu : Int) (up : Bool) (un : Int) (ug : Int) (hs : Bool) (gs : List Int) (gf : Int) (e : Int) (rec : RK) (K : KK) v0 (hv0 : v0 = (br (eqi e (7 : Int))
 (br hs
 (K (.tup []) [.box [dL gs, dI gf, dB false, dI (0 : Int), dI (0 : Int), dB true]])
 (K (.tup []) [.box [dL gs, dI gf, dB false, dI (0 : Int), dI (0 : Int), dB (!(eqi e (0 : Int)))]]))
 (br hs
 (K (.tup []) [.box [dL gs, dI gf, dB up, dI un, dI ug, dB true]])
 (K (.tup []) [.box [dL gs, dI gf, dB up, dI un, dI ug, dB (!(eqi e (0 : Int)))]])))) : segD Γ_ref_hands_flash tab fn_ref_hands_flash 1 K rec [.code (bodyOf fn_ref_hands_flash)] (initSt [.one (.ptr 0 0), .agg [dL gs, dI gf], .one (dI e)] [.box [dL ws, dI fu, dB up, dI un, dI ug, dB hs]]) = (
 br (eqi e (0 : Int))
 v0
 (br (eqi e (7 : Int))
 v0
 (br (eqi e (7 : Int))
 (br hs
 (K (.tup []) [.box [dL ws, dI fu, dB false, dI (0 : Int), dI (0 : Int), dB true]])
 (K (.tup []) [.box [dL ws, dI fu, dB false, dI (0 : Int), dI (0 : Int), dB (!(eqi e (0 : Int)))]]))
 (br hs
 (K (.tup []) [.box [dL ws, dI fu, dB up, dI un, dI ug, dB true]])
 (K (.tup []) [.box [dL ws, dI fu, dB up, dI un, dI ug, dB (!(eqi e (0 : Int)))]]))))) := by subst_vars; kernel_rfl
theorem ref_hands_flash_w (m : Nat) (K : KK) (st : St) : goD Γ_ref_hands_flash tab fn_ref_hands_flash 1 K (m + 1) [.code (bodyOf fn_ref_hands_flash)] st = segD Γ_ref_hands_flash tab fn_ref_hands_flash 1 K (goD Γ_ref_hands_flash tab fn_ref_hands_flash 1 K m) [.code (bodyOf fn_ref_hands_flash)] st := rfl

set_option maxHeartbeats 4000000 in
theorem run_ref_hands_flash (ws : List Int) (fu : Int) (up : Bool) (un ug : Int) (hs : Bool) (gs : List Int) (gf e : Int) (K : KK) (hK : K (.tup []) [.box [dL (changeU ⟨⟨ws, fu⟩, up, un, ug⟩ ⟨gs, gf⟩ e).1.f.words, dI (changeU ⟨⟨ws, fu⟩, up, un, ug⟩ ⟨gs, gf⟩ e).1.f.fuel, dB (changeU ⟨⟨ws, fu⟩, up, un, ug⟩ ⟨gs, gf⟩ e).1.up, dI (changeU ⟨⟨ws, fu⟩, up, un, ug⟩ ⟨gs, gf⟩ e).1.n, dI (changeU ⟨⟨ws, fu⟩, up, un, ug⟩ ⟨gs, gf⟩ e).1.got, dB (stopS hs e)]]) : ∃ m, goD Γ_ref_hands_flash tab fn_ref_hands_flash 1 K m [.code (bodyOf fn_ref_hands_flash)] (initSt [.one (.ptr 0 0), .agg [dL gs, dI gf], .one (dI e)] [.box [dL ws, dI fu, dB up, dI un, dI ug, dB hs]]) := by
  refine ⟨1, ?_⟩
  rw [ref_hands_flash_w, ref_hands_flash_vc _ _ _ _ _ _ _ _ _ _ _ _ rfl]
  unfold changeU stopS at hK
  by_cases h : e = 0
  · subst h
    cases hs
    · exact hK
    · exact hK
  · have h0 : eqi e 0 = false := eqi_false.2 h
    rw [if_neg h] at hK
    by_cases h7 : e = 7
    · subst h7
      cases hs
      · exact hK
      · exact hK
    · have h1 : eqi e 7 = false := eqi_false.2 h7
      rw [if_neg h7] at hK
      rw [h0, h1]
      rw [h0] at hK
      cases hs
      · exact hK
      · exact hK
theorem sound_ref_hands_flash : SoundC Tryz.prog tab n_ref_hands_flash c_ref_hands_flash := soundC_of ok_ref_hands_flash hf_ref_hands_flash hB_ref_hands_flash (by
  intro vs bs p v bs' h hp
  unfold c_ref_hands_flash at h
  split at h
  · cases h
    exact ⟨by kernel_rfl, rfl, .inl (run_ref_hands_flash _ _ _ _ _ _ _ _ _ _ ⟨rfl, rfl⟩)⟩
  · cases h)

def c_ref_erases : Contract := fun vs bs => match vs, bs with
  | [.one (.dat .int sector)], [] => some (some (0 ≤ sector ∧ sector ≤ 10), .one (.own 0), [.arr .change (wipeCh sector)])
  | _, _ => none
def Γ_ref_erases : Ctx := []
theorem ok_ref_erases : Ok Tryz.prog tab Γ_ref_erases := ok_nil
noncomputable def ref_erases_L0 : List It := [.inLoop [5, 3, 2, 0] (Code.sub (bodyOf fn_ref_erases) [1, 1, 0, 1, 0, 0]), .inBlock 0, .code (Code.sub (bodyOf fn_ref_erases) [1, 1, 1])]
def ref_erases_S0 (x0 : Int) (x1 : Int) (x2 : (List Change)) (x3 : (List Change)) : St := ⟨[(5, .one (dI x0)), (3, .one (.own 0)), (2, .one (.own 1)), (0, .one (dI x1))], [(0, .arr Ty.change x2), (1, .arr Ty.change x3)], 2⟩
theorem ref_erases_vc (sector : Int) (rec : RK) (K : KK) : segO Γ_ref_erases tab fn_ref_erases 0 K rec [.code (bodyOf fn_ref_erases)] (initSt [.one (dI sector)] []) = (
 rec ref_erases_L0 (ref_erases_S0 (0 : Int) sector [] [])) := by kernel_rfl
theorem ref_erases_w (m : Nat) (K : KK) (st : St) : goO Γ_ref_erases tab fn_ref_erases 0 K (m + 1) [.code (bodyOf fn_ref_erases)] st = segO Γ_ref_erases tab fn_ref_erases 0 K (goO Γ_ref_erases tab fn_ref_erases 0 K m) [.code (bodyOf fn_ref_erases)] st := rfl
theorem ref_erases_vc0 (x0 : Int) (x1 : Int) (x2 : (List Change)) (x3 : (List Change)) (rec : RK) (K : KK) : segO Γ_ref_erases tab fn_ref_erases 0 K rec (.code (Code.sub (bodyOf fn_ref_erases) [1, 1, 0, 1, 0, 0]) :: ref_erases_L0) (ref_erases_S0 x0 x1 x2 x3) = (
 br (lti x0 (32 : Int))
 (((((len x2) + (len ((⟨(w64 ((w64 ((32 : Int) * x1)) + x0)), none⟩ : Change) :: []))) * 16) ≤ 140737488355328) ∧
 (rec ref_erases_L0 (ref_erases_S0 (w64 (x0 + (1 : Int))) x1 (cat x2 ((⟨(w64 ((w64 ((32 : Int) * x1)) + x0)), none⟩ : Change) :: [])) x3)))
 (K (.one (.own 0)) [.arr Ty.change x2])) := by kernel_rfl
theorem ref_erases_w0 (m : Nat) (K : KK) (st : St) : goO Γ_ref_erases tab fn_ref_erases 0 K (m + 1) ref_erases_L0 st = segO Γ_ref_erases tab fn_ref_erases 0 K (goO Γ_ref_erases tab fn_ref_erases 0 K m) (.code (Code.sub (bodyOf fn_ref_erases) [1, 1, 0, 1, 0, 0]) :: ref_erases_L0) st := rfl

theorem wipe_snoc (a : Int) : ∀ n : Nat, wipeFrom a (n + 1) = wipeFrom a n ++ [⟨a + n, none⟩] := by
  intro n
  induction n generalizing a with
  | zero => simp [wipeFrom]
  | succ n ih =>
    rw [wipeFrom, ih (a + 1)]
    simp only [wipeFrom, List.cons_append]
    rw [show a + 1 + (n : Int) = a + ((n + 1 : Nat) : Int) by omega]
theorem loop_ref_erases (sector : Int) (h0 : 0 ≤ sector) (h1 : sector ≤ 10) (K : KK) (hK : K (.one (.own 0)) [.arr .change (wipeCh sector)]) : ∀ (d k : Nat), k + d = 32 →
    goO Γ_ref_erases tab fn_ref_erases 0 K (d + 1) ref_erases_L0 (ref_erases_S0 (k : Int) sector (wipeFrom (32 * sector) k) [])
  | 0, k, hk => by
    rw [ref_erases_w0, ref_erases_vc0 _ _ _ _ _ _]
    have : k = 32 := by omega
    subst this
    exact lt_f (by omega) hK
  | d + 1, k, hk => by
    rw [ref_erases_w0, ref_erases_vc0 _ _ _ _ _ _]
    refine lt_t (by omega) ⟨?_, ?_⟩
    · simp only [len, wipeFrom_len, List.length_cons, List.length_nil]; omega
    · rw [w64_id (n := 32 * sector) (by omega) (by omega), w64_id (n := 32 * sector + (k : Int)) (by omega) (by omega), w64_succ (by omega)]
      have := loop_ref_erases sector h0 h1 K hK d (k + 1) (by omega)
      rw [wipe_snoc] at this
      exact this
set_option maxHeartbeats 4000000 in
theorem run_ref_erases (sector : Int) (hp : 0 ≤ sector ∧ sector ≤ 10) (K : KK) (hK : K (.one (.own 0)) [.arr .change (wipeCh sector)]) : ∃ m, goO Γ_ref_erases tab fn_ref_erases 0 K m [.code (bodyOf fn_ref_erases)] (initSt [.one (dI sector)] []) := by
  refine ⟨34, ?_⟩
  rw [ref_erases_w, ref_erases_vc _ _ _]
  exact loop_ref_erases sector hp.1 hp.2 K hK 32 0 rfl
theorem sound_ref_erases : SoundC Tryz.prog tab n_ref_erases c_ref_erases := soundC_of ok_ref_erases hf_ref_erases hB_ref_erases (by
  intro vs bs p v bs' h hp
  unfold c_ref_erases at h
  split at h
  · cases h
    exact ⟨by kernel_rfl, rfl, .inr (.inl (run_ref_erases _ hp.1 _ ⟨rfl, rfl⟩))⟩
  · cases h)

def c_ref_Changed : Contract := fun vs bs => match vs, bs with
  | [.agg [.dat (.list .int) ws, .dat .int fu], .one (.dat (.list .change) cs)], [] => some (some (len ws ≤ 192 ∧ -1 ≤ fu ∧ fu ≤ 100000 ∧ len cs ≤ 1000 ∧ inPlaces ws.length cs = true), .tup [.agg [.dat (.list .int) (power (doCh ⟨ws, fu⟩ cs)).1.words, .dat .int (power (doCh ⟨ws, fu⟩ cs)).1.fuel], .one (.dat .int (power (doCh ⟨ws, fu⟩ cs)).2)], [])
  | _, _ => none
def Γ_ref_Changed : Ctx := [(n_ref_OwnFlash, c_ref_OwnFlash)]
theorem ok_ref_Changed : Ok Tryz.prog tab Γ_ref_Changed := (ok_nil.consC hf_ref_OwnFlash hB_ref_OwnFlash sound_ref_OwnFlash)
noncomputable def ref_Changed_L0 : List It := [.inLoop [31, 30, 29, 6, 5, 4, 2] (Code.sub (bodyOf fn_ref_Changed) [1, 1, 1, 1, 0, 1, 0, 0]), .inBlock 0, .code (Code.sub (bodyOf fn_ref_Changed) [1, 1, 1, 1, 1])]
def ref_Changed_S0 (x0 : Int) (x1 : Int) (x2 : (List Change)) (x3 : Int) (x4 : Int) (x5 : Int) (x6 : Int) (x7 : (List Int)) (x8 : (List Int)) : St := ⟨[(31, .one (dI x0)), (30, .one (dI x1)), (29, .one (.dat (Ty.list Ty.change) x2)), (6, .one (dI x3)), (5, .one (dI x4)), (4, .one (.ptr 0 0)), (2, .one (.ptr 1 0))], [(0, .box [.own 2, dI x5]), (1, .box [.own 3, dI x6]), (2, .arr Ty.int x7), (3, .arr Ty.int x8)], 4⟩
theorem ref_Changed_vc (ws : List Int) (fu : Int) (cs : List Change) (rec : RK) (K : KK) : segD Γ_ref_Changed tab fn_ref_Changed 0 K rec [.code (bodyOf fn_ref_Changed)] (initSt [.agg [dL ws, dI fu], .one (.dat (Ty.list Ty.change) cs)] []) = (
 (((len ws) * 8) ≤ 140737488355328) ∧
 (br (lei (0 : Int) fu)
 (br (lti fu (((len cs) : Nat) : Int))
 ((((0 : Int) ≤ (0 : Int)) ∧ (((0 : Int) ≤ fu) ∧ (fu ≤ (((len cs) : Nat) : Int)))) ∧
 (rec ref_Changed_L0 (ref_Changed_S0 (0 : Int) (((len (slc cs (Int.toNat (0 : Int)) (Int.toNat fu))) : Nat) : Int) (slc cs (Int.toNat (0 : Int)) (Int.toNat fu)) (7 : Int) (0 : Int) (0 : Int) (w64 (fu - (((len (slc cs (Int.toNat (0 : Int)) (Int.toNat fu))) : Nat) : Int))) [] ws)))
 (rec ref_Changed_L0 (ref_Changed_S0 (0 : Int) (((len cs) : Nat) : Int) cs (0 : Int) (0 : Int) (0 : Int) (w64 (fu - (((len cs) : Nat) : Int))) [] ws)))
 (rec ref_Changed_L0 (ref_Changed_S0 (0 : Int) (((len cs) : Nat) : Int) cs (0 : Int) (0 : Int) (0 : Int) fu [] ws)))) := by kernel_rfl
theorem ref_Changed_w (m : Nat) (K : KK) (st : St) : goD Γ_ref_Changed tab fn_ref_Changed 0 K (m + 1) [.code (bodyOf fn_ref_Changed)] st = segD Γ_ref_Changed tab fn_ref_Changed 0 K (goD Γ_ref_Changed tab fn_ref_Changed 0 K m) [.code (bodyOf fn_ref_Changed)] st := rfl
theorem ref_Changed_vc0 (x0 : Int) (x1 : Int) (x2 : (List Change)) (x3 : Int) (x4 : Int) (x5 : Int) (x6 : Int) (x7 : (List Int)) (x8 : (List Int)) (rec : RK) (K : KK) : segD Γ_ref_Changed tab fn_ref_Changed 0 K rec (.code (Code.sub (bodyOf fn_ref_Changed) [1, 1, 1, 1, 0, 1, 0, 0]) :: ref_Changed_L0) (ref_Changed_S0 x0 x1 x2 x3 x4 x5 x6 x7 x8) = (
 br (lti x0 x1)
 ((((0 : Int) ≤ x0) ∧ (x0 < (((len x2) : Nat) : Int))) ∧
 ((((0 : Int) ≤ ((nth x2 (Int.toNat x0) (Ty.dflt Ty.change))).at_) ∧ (((nth x2 (Int.toNat x0) (Ty.dflt Ty.change))).at_ < (((len x8) : Nat) : Int))) ∧
 (((Int.toNat ((nth x2 (Int.toNat x0) (Ty.dflt Ty.change))).at_) < (len x8)) ∧
 ((((0 : Int) ≤ ((nth x2 (Int.toNat x0) (Ty.dflt Ty.change))).at_) ∧ (((nth x2 (Int.toNat x0) (Ty.dflt Ty.change))).at_ < (((len x8) : Nat) : Int))) ∧
 (((Int.toNat ((nth x2 (Int.toNat x0) (Ty.dflt Ty.change))).at_) < (len x8)) ∧
 (rec ref_Changed_L0 (ref_Changed_S0 (w64 (x0 + (1 : Int))) x1 x2 x3 x4 x5 x6 x7 (setAt x8 (Int.toNat ((nth x2 (Int.toNat x0) (Ty.dflt Ty.change))).at_) (fnwApp ((nth x2 (Int.toNat x0) (Ty.dflt Ty.change))).word (nth x8 (Int.toNat ((nth x2 (Int.toNat x0) (Ty.dflt Ty.change))).at_) (Ty.dflt Ty.int)))))))))))
 (K (.tup [.agg [dL x8, dI x6], .one (dI x3)]) [])) := by kernel_rfl
theorem ref_Changed_w0 (m : Nat) (K : KK) (st : St) : goD Γ_ref_Changed tab fn_ref_Changed 0 K (m + 1) ref_Changed_L0 st = segD Γ_ref_Changed tab fn_ref_Changed 0 K (goD Γ_ref_Changed tab fn_ref_Changed 0 K m) (.code (Code.sub (bodyOf fn_ref_Changed) [1, 1, 1, 1, 0, 1, 0, 0]) :: ref_Changed_L0) st := rfl

set_option maxHeartbeats 4000000 in
theorem run_ref_Changed (ws : List Int) (fu : Int) (cs : List Change) (hp : len ws ≤ 192 ∧ -1 ≤ fu ∧ fu ≤ 100000 ∧ len cs ≤ 1000 ∧ inPlaces ws.length cs = true) (K : KK) (hK : K (.tup [.agg [dL (power (doCh ⟨ws, fu⟩ cs)).1.words, dI (power (doCh ⟨ws, fu⟩ cs)).1.fuel], .one (dI (power (doCh ⟨ws, fu⟩ cs)).2)]) []) : ∃ m, goD Γ_ref_Changed tab fn_ref_Changed 0 K m [.code (bodyOf fn_ref_Changed)] (initSt [.agg [dL ws, dI fu], .one (.dat (.list .change) cs)] []) := by
  obtain ⟨h1, h2, h3, h4, h5⟩ := hp
  refine ⟨cs.length + 2, ?_⟩
  rw [ref_Changed_w, ref_Changed_vc _ _ _ _ _]
  simp only [len] at h1 h4 ⊢
  have sub : ∀ k, inPlaces ws.length (cs.take k) = true := fun k => List.all_eq_true.2 fun c hc => List.all_eq_true.1 h5 c (List.mem_of_mem_take hc)
  have more : ∀ (cs' : List Change) (e f : Int), cs'.length ≤ cs.length → inPlaces ws.length cs' = true → K (.tup [.agg [dL (applyCh ws cs'), dI f], .one (dI e)]) [] →
      goD Γ_ref_Changed tab fn_ref_Changed 0 K (cs.length + 1) ref_Changed_L0 (ref_Changed_S0 0 (((List.length cs') : Nat) : Int) cs' e 0 0 f [] ws) := fun cs' e f hl hi hk => by
    have key : ∀ (d k : Nat) (ws : List Int), k + d ≥ cs'.length → inPlaces ws.length cs' = true → K (.tup [.agg [dL (applyCh ws (cs'.drop k)), dI f], .one (dI e)]) [] → k ≤ cs'.length →
        goD Γ_ref_Changed tab fn_ref_Changed 0 K (d + 1) ref_Changed_L0 (ref_Changed_S0 (k : Int) (((List.length cs') : Nat) : Int) cs' e 0 0 f [] ws) := by
      intro d
      induction d with
      | zero =>
        intro k ws hk hi hK hle
        rw [ref_Changed_w0, ref_Changed_vc0 _ _ _ _ _ _ _ _ _ _ _]
        rw [List.drop_of_length_le (by omega)] at hK
        exact lt_f (by omega) hK
      | succ d ih =>
        intro k ws hk hi hK hle
        by_cases c : k = cs'.length
        · subst c
          rw [ref_Changed_w0, ref_Changed_vc0 _ _ _ _ _ _ _ _ _ _ _]
          rw [List.drop_of_length_le (Nat.le_refl _)] at hK
          exact lt_f (by omega) hK
        · rw [ref_Changed_w0, ref_Changed_vc0 _ _ _ _ _ _ _ _ _ _ _]
          rw [toNat_nat]
          have hm : nth cs' k (Ty.dflt Ty.change) ∈ cs' := by
            have : k < cs'.length := by omega
            simp [nth, List.getD_eq_getElem?_getD, this]
          have hpl := List.all_eq_true.1 hi _ hm
          simp only [Bool.and_eq_true, decide_eq_true_eq] at hpl
          refine lt_t (by omega) ⟨⟨by omega, by simp only [len]; omega⟩, ⟨hpl.1, hpl.2⟩, by simp only [len]; omega, ⟨hpl.1, hpl.2⟩, by simp only [len]; omega, ?_⟩
          rw [w64_succ (by omega)]
          refine ih (k + 1) _ (by omega) (by simpa [setAt] using hi) ?_ (by omega)
          rw [drop_step (by omega) (Ty.dflt Ty.change), applyCh_cons] at hK
          exact hK
    exact key cs.length 0 ws (by omega) hi hk (by omega)
  unfold power doCh at hK
  refine ⟨by omega, br_split (fun h => ?_) (fun h => ?_)⟩
  · rw [lei_true] at h
    simp only [if_neg (show ¬ fu < 0 by omega)] at hK
    refine lt_s (fun h6 => ⟨⟨by omega, h, by omega⟩, ?_⟩) (fun h6 => ?_)
    · rw [if_neg (by omega)] at hK
      have es : slc cs (Int.toNat 0) (Int.toNat fu) = cs.take fu.toNat := slc_take _ _
      have el : (cs.take fu.toNat).length = fu.toNat := by simp; omega
      rw [es, el, w64_id (by omega) (by omega), show fu - ((fu.toNat : Nat) : Int) = 0 by omega]
      have := more (cs.take fu.toNat) 7 0 (by simp; omega) (sub _) hK
      rw [el] at this
      exact this
    · rw [if_pos (by omega)] at hK
      rw [w64_id (by omega) (by omega)]
      exact more cs 0 _ (Nat.le_refl _) h5 hK
  · rw [lei_false] at h
    rw [if_pos h] at hK
    exact more cs 0 fu (Nat.le_refl _) h5 hK
theorem sound_ref_Changed : SoundC Tryz.prog tab n_ref_Changed c_ref_Changed := soundC_of ok_ref_Changed hf_ref_Changed hB_ref_Changed (by
  intro vs bs p v bs' h hp
  unfold c_ref_Changed at h
  split at h
  · cases h
    exact ⟨by kernel_rfl, rfl, .inl (run_ref_Changed _ _ _ hp.1 _ ⟨rfl, rfl⟩)⟩
  · cases h)

def c_ref_Cleared : Contract := fun vs bs => match vs, bs with
  | [.agg [.dat (.list .int) ws, .dat .int fu], .one (.dat .int slot)], [] => some (some (checkSlot ⟨ws, fu⟩ slot = 0), .tup [.agg [.dat (.list .int) (clearS ⟨ws, fu⟩ slot).1.words, .dat .int (clearS ⟨ws, fu⟩ slot).1.fuel], .one (.dat .int (clearS ⟨ws, fu⟩ slot).2)], [])
  | _, _ => none
def Γ_ref_Cleared : Ctx := [(n_ref_erases, c_ref_erases), (n_ref_Changed, c_ref_Changed)]
theorem ok_ref_Cleared : Ok Tryz.prog tab Γ_ref_Cleared := ((ok_nil.consC hf_ref_Changed hB_ref_Changed sound_ref_Changed).consC hf_ref_erases hB_ref_erases sound_ref_erases)
theorem ref_Cleared_vc (ws : List Int) (fu : Int) (slot : Int) (rec : RK) (K : KK) v0 (hv0 : v0 = (wipeCh (w64 ((2 : Int) + (w64 ((2 : Int) * slot)))))) v1 (hv1 : v1 = (wipeCh (w64 ((3 : Int) + (w64 ((2 : Int) * slot)))))) v2 (hv2 : v2 = (inPlaces (List.length ws) (cat v0 v1))) v3 (hv3 : v3 = (doCh (⟨ws, fu⟩ : Flash) (cat v0 v1))) v4 (hv4 : v4 = (powerE v3.snd)) : segD Γ_ref_Cleared tab fn_ref_Cleared 0 K rec [.code (bodyOf fn_ref_Cleared)] (initSt [.agg [dL ws, dI fu], .one (dI slot)] []) = (
 (((0 : Int) ≤ (w64 ((2 : Int) + (w64 ((2 : Int) * slot))))) ∧ ((w64 ((2 : Int) + (w64 ((2 : Int) * slot)))) ≤ (10 : Int))) ∧
 ((((0 : Int) ≤ (w64 ((3 : Int) + (w64 ((2 : Int) * slot))))) ∧ ((w64 ((3 : Int) + (w64 ((2 : Int) * slot)))) ≤ (10 : Int))) ∧
 (((((len v0) + (len v1)) * 16) ≤ 140737488355328) ∧
 ((((len ws) ≤ 192) ∧ (((-(1 : Int)) ≤ fu) ∧ ((fu ≤ (100000 : Int)) ∧ (((len (cat v0 v1)) ≤ 1000) ∧ (v2 = true))))) ∧
 (K (.tup [.agg [dL v3.fst.words, dI v3.fst.fuel], .one (dI v4)]) []))))) := by subst_vars; kernel_rfl
theorem ref_Cleared_w (m : Nat) (K : KK) (st : St) : goD Γ_ref_Cleared tab fn_ref_Cleared 0 K (m + 1) [.code (bodyOf fn_ref_Cleared)] st = segD Γ_ref_Cleared tab fn_ref_Cleared 0 K (goD Γ_ref_Cleared tab fn_ref_Cleared 0 K m) [.code (bodyOf fn_ref_Cleared)] st := rfl

set_option maxHeartbeats 4000000 in
theorem run_ref_Cleared (ws : List Int) (fu slot : Int) (hp : checkSlot ⟨ws, fu⟩ slot = 0) (K : KK) (hK : K (.tup [.agg [dL (clearS ⟨ws, fu⟩ slot).1.words, dI (clearS ⟨ws, fu⟩ slot).1.fuel], .one (dI (clearS ⟨ws, fu⟩ slot).2)]) []) : ∃ m, goD Γ_ref_Cleared tab fn_ref_Cleared 0 K m [.code (bodyOf fn_ref_Cleared)] (initSt [.agg [dL ws, dI fu], .one (dI slot)] []) := by
  refine ⟨1, ?_⟩
  rw [ref_Cleared_w, ref_Cleared_vc _ _ _ _ _ _ rfl _ rfl _ rfl _ rfl _ rfl]
  unfold clearS at hK
  rw [if_pos hp] at hK
  obtain ⟨h1, h2, h3⟩ := checkSlot_ok hp
  obtain ⟨c1, c2, c3, c4⟩ := checkFlash_ok h1
  simp only at c2 c3 h2
  rw [w64_id (n := 2 * slot) (by omega) (by omega), w64_id (n := 2 + 2 * slot) (by omega) (by omega), w64_id (n := 3 + 2 * slot) (by omega) (by omega)]
  have hl : ∀ s : Int, (wipeCh s).length = 32 := fun s => wipeFrom_len _ _
  refine ⟨by omega, by omega, by simp only [len, hl]; omega, ⟨by simp only [len]; omega, c2, c3, ?_, ?_⟩, hK⟩
  · simp only [len, cat, List.length_append, hl]; omega
  · simp only [cat, inPlaces, List.all_append, Bool.and_eq_true]
    exact ⟨wipe_in _ _ _ (by omega) (by omega), wipe_in _ _ _ (by omega) (by omega)⟩
theorem sound_ref_Cleared : SoundC Tryz.prog tab n_ref_Cleared c_ref_Cleared := soundC_of ok_ref_Cleared hf_ref_Cleared hB_ref_Cleared (by
  intro vs bs p v bs' h hp
  unfold c_ref_Cleared at h
  split at h
  · cases h
    exact ⟨by kernel_rfl, rfl, .inl (run_ref_Cleared _ _ _ hp.1 _ ⟨rfl, rfl⟩)⟩
  · cases h)

def c_ref_programs : Contract := fun vs bs => match vs, bs with
  | [.one (.dat .int at_), .one (.dat (.list .int) l)], [] => some (some (0 ≤ at_ ∧ at_ ≤ 1000 ∧ len l ≤ 1000), .one (.own 0), [.arr .change (burnCh at_ l)])
  | _, _ => none
def Γ_ref_programs : Ctx := []
theorem ok_ref_programs : Ok Tryz.prog tab Γ_ref_programs := ok_nil
noncomputable def ref_programs_L0 : List It := [.inLoop [10, 9, 8, 5, 4, 0] (Code.sub (bodyOf fn_ref_programs) [1, 1, 0, 1, 0, 0]), .inBlock 0, .code (Code.sub (bodyOf fn_ref_programs) [1, 1, 1])]
def ref_programs_S0 (x0 : Int) (x1 : Int) (x2 : (List Int)) (x3 : Int) (x4 : (List Change)) (x5 : (List Change)) : St := ⟨[(10, .one (dI x0)), (9, .one (dI x1)), (8, .one (dL x2)), (5, .one (.own 0)), (4, .one (.own 1)), (0, .one (dI x3))], [(0, .arr Ty.change x4), (1, .arr Ty.change x5)], 2⟩
theorem ref_programs_vc (at_ : Int) (l : List Int) (rec : RK) (K : KK) : segO Γ_ref_programs tab fn_ref_programs 0 K rec [.code (bodyOf fn_ref_programs)] (initSt [.one (dI at_), .one (dL l)] []) = (
 rec ref_programs_L0 (ref_programs_S0 (0 : Int) (((len l) : Nat) : Int) l at_ [] [])) := by kernel_rfl
theorem ref_programs_w (m : Nat) (K : KK) (st : St) : goO Γ_ref_programs tab fn_ref_programs 0 K (m + 1) [.code (bodyOf fn_ref_programs)] st = segO Γ_ref_programs tab fn_ref_programs 0 K (goO Γ_ref_programs tab fn_ref_programs 0 K m) [.code (bodyOf fn_ref_programs)] st := rfl
theorem ref_programs_vc0 (x0 : Int) (x1 : Int) (x2 : (List Int)) (x3 : Int) (x4 : (List Change)) (x5 : (List Change)) (rec : RK) (K : KK) : segO Γ_ref_programs tab fn_ref_programs 0 K rec (.code (Code.sub (bodyOf fn_ref_programs) [1, 1, 0, 1, 0, 0]) :: ref_programs_L0) (ref_programs_S0 x0 x1 x2 x3 x4 x5) = (
 br (lti x0 x1)
 ((((0 : Int) ≤ x0) ∧ (x0 < (((len x2) : Nat) : Int))) ∧
 (((((len x4) + (len ((⟨(w64 (x3 + x0)), (some (nth x2 (Int.toNat x0) (Ty.dflt Ty.int)))⟩ : Change) :: []))) * 16) ≤ 140737488355328) ∧
 (rec ref_programs_L0 (ref_programs_S0 (w64 (x0 + (1 : Int))) x1 x2 x3 (cat x4 ((⟨(w64 (x3 + x0)), (some (nth x2 (Int.toNat x0) (Ty.dflt Ty.int)))⟩ : Change) :: [])) x5))))
 (K (.one (.own 0)) [.arr Ty.change x4])) := by kernel_rfl
theorem ref_programs_w0 (m : Nat) (K : KK) (st : St) : goO Γ_ref_programs tab fn_ref_programs 0 K (m + 1) ref_programs_L0 st = segO Γ_ref_programs tab fn_ref_programs 0 K (goO Γ_ref_programs tab fn_ref_programs 0 K m) (.code (Code.sub (bodyOf fn_ref_programs) [1, 1, 0, 1, 0, 0]) :: ref_programs_L0) st := rfl

theorem loop_ref_programs (at_ : Int) (l : List Int) (h0 : 0 ≤ at_) (h1 : at_ ≤ 1000) (h2 : l.length ≤ 1000) (K : KK) (hK : K (.one (.own 0)) [.arr .change (burnCh at_ l)]) : ∀ (d k : Nat), k + d = l.length →
    goO Γ_ref_programs tab fn_ref_programs 0 K (d + 1) ref_programs_L0 (ref_programs_S0 (k : Int) (((len l) : Nat) : Int) l at_ (burnCh at_ (l.take k)) [])
  | 0, k, hk => by
    rw [ref_programs_w0, ref_programs_vc0 _ _ _ _ _ _ _ _]
    rw [List.take_of_length_le (by omega)]
    exact lt_f (by simp only [len]; omega) hK
  | d + 1, k, hk => by
    rw [ref_programs_w0, ref_programs_vc0 _ _ _ _ _ _ _ _]
    refine lt_t (by simp only [len]; omega) ⟨⟨by omega, by simp only [len]; omega⟩, ?_, ?_⟩
    · simp only [len, burnCh_len, List.length_cons, List.length_nil, List.length_take]; omega
    · rw [w64_id (n := at_ + (k : Int)) (by omega) (by omega), w64_succ (by omega), toNat_nat]
      have := loop_ref_programs at_ l h0 h1 h2 K hK d (k + 1) (by omega)
      rw [take_step (by omega) (Ty.dflt Ty.int), burnCh_append] at this
      rw [show ((l.take k).length : Int) = (k : Int) by simp; omega] at this
      exact this
set_option maxHeartbeats 4000000 in
theorem run_ref_programs (at_ : Int) (l : List Int) (hp : 0 ≤ at_ ∧ at_ ≤ 1000 ∧ len l ≤ 1000) (K : KK) (hK : K (.one (.own 0)) [.arr .change (burnCh at_ l)]) : ∃ m, goO Γ_ref_programs tab fn_ref_programs 0 K m [.code (bodyOf fn_ref_programs)] (initSt [.one (dI at_), .one (dL l)] []) := by
  refine ⟨l.length + 2, ?_⟩
  rw [ref_programs_w, ref_programs_vc _ _ _ _]
  exact loop_ref_programs at_ l hp.1 hp.2.1 hp.2.2 K hK l.length 0 (by omega)
theorem sound_ref_programs : SoundC Tryz.prog tab n_ref_programs c_ref_programs := soundC_of ok_ref_programs hf_ref_programs hB_ref_programs (by
  intro vs bs p v bs' h hp
  unfold c_ref_programs at h
  split at h
  · cases h
    exact ⟨by kernel_rfl, rfl, .inr (.inl (run_ref_programs _ _ hp.1 _ ⟨rfl, rfl⟩))⟩
  · cases h)

def c_ref_Programmed : Contract := fun vs bs => match vs, bs with
  | [.agg [.dat (.list .int) ws, .dat .int fu], .one (.dat .int at_), .one (.dat (.list .int) l)], [] => some (some (checkFlash ⟨ws, fu⟩ = 0 ∧ Sm l), .tup [.agg [.dat (.list .int) (programF ⟨ws, fu⟩ at_ l).1.words, .dat .int (programF ⟨ws, fu⟩ at_ l).1.fuel], .one (.dat .int (programF ⟨ws, fu⟩ at_ l).2)], [])
  | _, _ => none
def Γ_ref_Programmed : Ctx := [(n_ref_allWords, c_ref_allWords), (n_ref_Changed, c_ref_Changed), (n_ref_programs, c_ref_programs)]
theorem ok_ref_Programmed : Ok Tryz.prog tab Γ_ref_Programmed := (((ok_nil.consC hf_ref_programs hB_ref_programs sound_ref_programs).consC hf_ref_Changed hB_ref_Changed sound_ref_Changed).consC hf_ref_allWords hB_ref_allWords sound_ref_allWords)
theorem ref_Programmed_vc (ws : List Int) (fu : Int) (at_ : Int) (l : List Int) (rec : RK) (K : KK) v0 (hv0 : v0 = (okWords l)) v1 (hv1 : v1 = (burnCh at_ l)) v2 (hv2 : v2 = (inPlaces (List.length ws) v1)) v3 (hv3 : v3 = (doCh ⟨ws, fu⟩ v1)) v4 (hv4 : v4 = (powerE v3.snd)) v5 (hv5 : v5 = (K (.tup [.agg [dL [], dI (0 : Int)], .one (dI (5 : Int))]) [])) : segD Γ_ref_Programmed tab fn_ref_Programmed 0 K rec [.code (bodyOf fn_ref_Programmed)] (initSt [.agg [dL ws, dI fu], .one (dI at_), .one (dL l)] []) = (
 br (lti at_ (0 : Int))
 v5
 (br (lti (((len ws) : Nat) : Int) at_)
 v5
 (br (lti (w64 ((((len ws) : Nat) : Int) - at_)) (((len l) : Nat) : Int))
 v5
 (((List.length l) ≤ 140737488355328) ∧
 (br (!v0)
 (K (.tup [.agg [dL [], dI (0 : Int)], .one (dI (3 : Int))]) [])
 ((((0 : Int) ≤ at_) ∧ ((at_ ≤ (1000 : Int)) ∧ ((len l) ≤ 1000))) ∧
 ((((len ws) ≤ 192) ∧ (((-(1 : Int)) ≤ fu) ∧ ((fu ≤ (100000 : Int)) ∧ (((len v1) ≤ 1000) ∧ (v2 = true))))) ∧
 (K (.tup [.agg [dL v3.fst.words, dI v3.fst.fuel], .one (dI v4)]) [])))))))) := by subst_vars; kernel_rfl
theorem ref_Programmed_w (m : Nat) (K : KK) (st : St) : goD Γ_ref_Programmed tab fn_ref_Programmed 0 K (m + 1) [.code (bodyOf fn_ref_Programmed)] st = segD Γ_ref_Programmed tab fn_ref_Programmed 0 K (goD Γ_ref_Programmed tab fn_ref_Programmed 0 K m) [.code (bodyOf fn_ref_Programmed)] st := rfl

set_option maxHeartbeats 4000000 in
theorem run_ref_Programmed (ws : List Int) (fu at_ : Int) (l : List Int) (hp : checkFlash ⟨ws, fu⟩ = 0 ∧ Sm l) (K : KK) (hK : K (.tup [.agg [dL (programF ⟨ws, fu⟩ at_ l).1.words, dI (programF ⟨ws, fu⟩ at_ l).1.fuel], .one (dI (programF ⟨ws, fu⟩ at_ l).2)]) []) : ∃ m, goD Γ_ref_Programmed tab fn_ref_Programmed 0 K m [.code (bodyOf fn_ref_Programmed)] (initSt [.agg [dL ws, dI fu], .one (dI at_), .one (dL l)] []) := by
  obtain ⟨hc, hs⟩ := hp
  obtain ⟨c1, c2, c3, c4⟩ := checkFlash_ok hc
  obtain ⟨c5, c6⟩ := okLen_le c1
  simp only at c2 c3 c5 c6
  refine ⟨1, ?_⟩
  rw [ref_Programmed_w, ref_Programmed_vc _ _ _ _ _ _ _ rfl _ rfl _ rfl _ rfl _ rfl _ rfl]
  unfold programF at hK
  rw [if_pos hc] at hK
  have five : ¬ (0 ≤ at_ ∧ at_ ≤ (ws.length : Int) ∧ (l.length : Int) ≤ ws.length - at_) → K (.tup [.agg [dL [], dI 0], .one (dI 5)]) [] := fun hn => by
    rw [if_neg hn] at hK; exact hK
  simp only [len]
  refine lt_s (fun h1 => five (by omega)) (fun h1 => lt_s (fun h2 => five (by omega)) (fun h2 => ?_))
  rw [w64_id (by omega) (by omega)]
  refine lt_s (fun h3 => five (by omega)) (fun h3 => ⟨hs, nt_s (fun h4 => ?_) (fun h4 => ?_)⟩)
  · rw [if_pos ⟨h1, h2, h3⟩, if_neg (by rw [h4]; simp)] at hK; exact hK
  · rw [if_pos ⟨h1, h2, h3⟩, if_pos h4] at hK
    exact ⟨⟨h1, by omega, by first | omega | (simp only [len]; omega)⟩, ⟨c6, c2, c3, by rw [burnCh_len]; omega, burn_in _ _ _ h1 (by omega)⟩, hK⟩
theorem sound_ref_Programmed : SoundC Tryz.prog tab n_ref_Programmed c_ref_Programmed := soundC_of ok_ref_Programmed hf_ref_Programmed hB_ref_Programmed (by
  intro vs bs p v bs' h hp
  unfold c_ref_Programmed at h
  split at h
  · cases h
    exact ⟨by kernel_rfl, rfl, .inl (run_ref_Programmed _ _ _ _ hp.1 _ ⟨rfl, rfl⟩)⟩
  · cases h)

def c_ref_Filled : Contract := fun vs bs => match vs, bs with
  | [.agg [.dat (.list .int) ws, .dat .int fu], .one (.dat .int slot), .one (.dat .int at_), .one (.dat (.list .int) l)], [] => some (some (checkSlot ⟨ws, fu⟩ slot = 0 ∧ Sm l), .tup [.agg [.dat (.list .int) (fillS ⟨ws, fu⟩ slot at_ l).1.words, .dat .int (fillS ⟨ws, fu⟩ slot at_ l).1.fuel], .one (.dat .int (fillS ⟨ws, fu⟩ slot at_ l).2)], [])
  | _, _ => none
def Γ_ref_Filled : Ctx := [(n_ref_Programmed, c_ref_Programmed)]
theorem ok_ref_Filled : Ok Tryz.prog tab Γ_ref_Filled := (ok_nil.consC hf_ref_Programmed hB_ref_Programmed sound_ref_Programmed)
theorem ref_Filled_vc (ws : List Int) (fu : Int) (slot : Int) (at_ : Int) (l : List Int) (rec : RK) (K : KK) v0 (hv0 : v0 = (checkFlash (⟨ws, fu⟩ : Flash))) v1 (hv1 : v1 = (programF (⟨ws, fu⟩ : Flash) (w64 ((w64 ((w64 ((64 : Int) + (w64 ((64 : Int) * slot)))) + (4 : Int))) + at_)) l)) v2 (hv2 : v2 = (K (.tup [.agg [dL [], dI (0 : Int)], .one (dI (2 : Int))]) [])) : segD Γ_ref_Filled tab fn_ref_Filled 0 K rec [.code (bodyOf fn_ref_Filled)] (initSt [.agg [dL ws, dI fu], .one (dI slot), .one (dI at_), .one (dL l)] []) = (
 br (lti at_ (0 : Int))
 v2
 (br (lti (40 : Int) at_)
 v2
 (br (lti (w64 ((40 : Int) - at_)) (((len l) : Nat) : Int))
 v2
 (((v0 = (0 : Int)) ∧ ((List.length l) ≤ 140737488355328)) ∧
 (K (.tup [.agg [dL v1.fst.words, dI v1.fst.fuel], .one (dI v1.snd)]) []))))) := by subst_vars; kernel_rfl
theorem ref_Filled_w (m : Nat) (K : KK) (st : St) : goD Γ_ref_Filled tab fn_ref_Filled 0 K (m + 1) [.code (bodyOf fn_ref_Filled)] st = segD Γ_ref_Filled tab fn_ref_Filled 0 K (goD Γ_ref_Filled tab fn_ref_Filled 0 K m) [.code (bodyOf fn_ref_Filled)] st := rfl

set_option maxHeartbeats 4000000 in
theorem run_ref_Filled (ws : List Int) (fu slot at_ : Int) (l : List Int) (hp : checkSlot ⟨ws, fu⟩ slot = 0 ∧ Sm l) (K : KK) (hK : K (.tup [.agg [dL (fillS ⟨ws, fu⟩ slot at_ l).1.words, dI (fillS ⟨ws, fu⟩ slot at_ l).1.fuel], .one (dI (fillS ⟨ws, fu⟩ slot at_ l).2)]) []) : ∃ m, goD Γ_ref_Filled tab fn_ref_Filled 0 K m [.code (bodyOf fn_ref_Filled)] (initSt [.agg [dL ws, dI fu], .one (dI slot), .one (dI at_), .one (dL l)] []) := by
  obtain ⟨h, hl⟩ := hp
  refine ⟨1, ?_⟩
  rw [ref_Filled_w, ref_Filled_vc _ _ _ _ _ _ _ _ rfl _ rfl _ rfl]
  unfold fillS at hK
  rw [if_pos h] at hK
  obtain ⟨h1, h2, h3⟩ := checkSlot_ok h
  simp only [len]
  refine lt_s (fun h4 => ?_) (fun h4 => lt_s (fun h5 => ?_) (fun h5 => ?_))
  · rw [if_neg (by omega)] at hK; exact hK
  · rw [if_neg (by omega)] at hK; exact hK
  rw [w64_id (n := 40 - at_) (by omega) (by omega)]
  refine lt_s (fun h6 => ?_) (fun h6 => ?_)
  · rw [if_neg (by omega)] at hK; exact hK
  rw [w64_id (n := 64 * slot) (by omega) (by omega), w64_id (n := 64 + 64 * slot) (by omega) (by omega), w64_id (n := 64 + 64 * slot + 4) (by omega) (by omega), w64_id (by omega) (by omega), show 64 + 64 * slot + 4 + at_ = 68 + 64 * slot + at_ by omega]
  rw [if_pos (by omega)] at hK
  exact ⟨⟨h1, hl⟩, hK⟩
theorem sound_ref_Filled : SoundC Tryz.prog tab n_ref_Filled c_ref_Filled := soundC_of ok_ref_Filled hf_ref_Filled hB_ref_Filled (by
  intro vs bs p v bs' h hp
  unfold c_ref_Filled at h
  split at h
  · cases h
    exact ⟨by kernel_rfl, rfl, .inl (run_ref_Filled _ _ _ _ _ hp.1 _ ⟨rfl, rfl⟩)⟩
  · cases h)

def c_ref_SealedIn : Contract := fun vs bs => match vs, bs with
  | [.agg [.dat (.list .int) ws, .dat .int fu], .one (.dat .int slot), .one (.dat .int long), .one (.dat .int name)], [] => some (some (checkSlot ⟨ws, fu⟩ slot = 0), .tup [.agg [.dat (.list .int) (sealS ⟨ws, fu⟩ slot long name).1.words, .dat .int (sealS ⟨ws, fu⟩ slot long name).1.fuel], .one (.dat .int (sealS ⟨ws, fu⟩ slot long name).2)], [])
  | _, _ => none
def Γ_ref_SealedIn : Ctx := [(n_ref_Programmed, c_ref_Programmed)]
theorem ok_ref_SealedIn : Ok Tryz.prog tab Γ_ref_SealedIn := (ok_nil.consC hf_ref_Programmed hB_ref_Programmed sound_ref_Programmed)
theorem ref_SealedIn_vc (ws : List Int) (fu : Int) (slot : Int) (long : Int) (name : Int) (rec : RK) (K : KK) v0 (hv0 : v0 = (checkFlash (⟨ws, fu⟩ : Flash))) v1 (hv1 : v1 = (programF (⟨ws, fu⟩ : Flash) (w64 ((64 : Int) + (w64 ((64 : Int) * slot)))) (long :: (name :: ((w64 ((65535 : Int) - long)) :: ((w64 ((65535 : Int) - name)) :: [])))))) v2 (hv2 : v2 = (K (.tup [.agg [dL [], dI (0 : Int)], .one (dI (3 : Int))]) [])) : segD Γ_ref_SealedIn tab fn_ref_SealedIn 0 K rec [.code (bodyOf fn_ref_SealedIn)] (initSt [.agg [dL ws, dI fu], .one (dI slot), .one (dI long), .one (dI name)] []) = (
 br (lti long (1 : Int))
 v2
 (br (lti (40 : Int) long)
 v2
 (br (lti name (1 : Int))
 v2
 (br (lti (60 : Int) name)
 v2
 (((v0 = (0 : Int)) ∧ ((List.length (long :: (name :: ((w64 ((65535 : Int) - long)) :: ((w64 ((65535 : Int) - name)) :: []))))) ≤ 140737488355328)) ∧
 (K (.tup [.agg [dL v1.fst.words, dI v1.fst.fuel], .one (dI v1.snd)]) [])))))) := by subst_vars; kernel_rfl
theorem ref_SealedIn_w (m : Nat) (K : KK) (st : St) : goD Γ_ref_SealedIn tab fn_ref_SealedIn 0 K (m + 1) [.code (bodyOf fn_ref_SealedIn)] st = segD Γ_ref_SealedIn tab fn_ref_SealedIn 0 K (goD Γ_ref_SealedIn tab fn_ref_SealedIn 0 K m) [.code (bodyOf fn_ref_SealedIn)] st := rfl

set_option maxHeartbeats 4000000 in
theorem run_ref_SealedIn (ws : List Int) (fu slot long name : Int) (hp : checkSlot ⟨ws, fu⟩ slot = 0) (K : KK) (hK : K (.tup [.agg [dL (sealS ⟨ws, fu⟩ slot long name).1.words, dI (sealS ⟨ws, fu⟩ slot long name).1.fuel], .one (dI (sealS ⟨ws, fu⟩ slot long name).2)]) []) : ∃ m, goD Γ_ref_SealedIn tab fn_ref_SealedIn 0 K m [.code (bodyOf fn_ref_SealedIn)] (initSt [.agg [dL ws, dI fu], .one (dI slot), .one (dI long), .one (dI name)] []) := by
  refine ⟨1, ?_⟩
  rw [ref_SealedIn_w, ref_SealedIn_vc _ _ _ _ _ _ _ _ rfl _ rfl _ rfl]
  unfold sealS at hK
  rw [if_pos hp] at hK
  obtain ⟨h1, h2, h3⟩ := checkSlot_ok hp
  have three : ¬ (1 ≤ long ∧ long ≤ 40 ∧ 1 ≤ name ∧ name ≤ 60) → K (.tup [.agg [dL [], dI 0], .one (dI 3)]) [] := fun hn => by
    rw [if_neg (by simp only [okHead, Bool.and_eq_true, decide_eq_true_eq]; omega)] at hK; exact hK
  refine lt_s (fun h4 => three (by omega)) (fun h4 => lt_s (fun h5 => three (by omega)) (fun h5 => lt_s (fun h6 => three (by omega)) (fun h6 => lt_s (fun h7 => three (by omega)) (fun h7 => ?_))))
  rw [if_pos (by simp only [okHead, Bool.and_eq_true, decide_eq_true_eq]; omega)] at hK
  rw [w64_id (n := 65535 - long) (by omega) (by omega), w64_id (n := 65535 - name) (by omega) (by omega), w64_id (n := 64 * slot) (by omega) (by omega), w64_id (n := 64 + 64 * slot) (by omega) (by omega)]
  exact ⟨⟨h1, by simp only [List.length_cons, List.length_nil]; omega⟩, hK⟩
theorem sound_ref_SealedIn : SoundC Tryz.prog tab n_ref_SealedIn c_ref_SealedIn := soundC_of ok_ref_SealedIn hf_ref_SealedIn hB_ref_SealedIn (by
  intro vs bs p v bs' h hp
  unfold c_ref_SealedIn at h
  split at h
  · cases h
    exact ⟨by kernel_rfl, rfl, .inl (run_ref_SealedIn _ _ _ _ _ hp.1 _ ⟨rfl, rfl⟩)⟩
  · cases h)

def c_ref_spaced : Contract := fun vs bs => match vs, bs with
  | [.one (.dat (.list .int) l)], [] => some (some (len l ≤ 1000 ∧ nums l = true), .one (.dat .str (listT l)), [])
  | _, _ => none
def Γ_ref_spaced : Ctx := [(n_strconv_Itoa, c_strconv_Itoa)]
theorem ok_ref_spaced : Ok Tryz.prog tab Γ_ref_spaced := (ok_nil.consC hf_strconv_Itoa hB_strconv_Itoa sound_strconv_Itoa)
noncomputable def ref_spaced_L0 : List It := [.inLoop [8, 7, 6, 3, 2] (Code.sub (bodyOf fn_ref_spaced) [1, 1, 0, 1, 0, 0]), .inBlock 0, .code (Code.sub (bodyOf fn_ref_spaced) [1, 1, 1])]
def ref_spaced_S0 (x0 : Int) (x1 : Int) (x2 : (List Int)) (x3 : (List UInt8)) (x4 : (List UInt8)) : St := ⟨[(8, .one (dI x0)), (7, .one (dI x1)), (6, .one (dL x2)), (3, .one (.dat Ty.str x3)), (2, .one (.dat Ty.str x4))], [], 0⟩
theorem ref_spaced_vc (l : List Int) (rec : RK) (K : KK) : segD Γ_ref_spaced tab fn_ref_spaced 0 K rec [.code (bodyOf fn_ref_spaced)] (initSt [.one (dL l)] []) = (
 rec ref_spaced_L0 (ref_spaced_S0 (0 : Int) (((len l) : Nat) : Int) l [] [])) := by kernel_rfl
theorem ref_spaced_w (m : Nat) (K : KK) (st : St) : goD Γ_ref_spaced tab fn_ref_spaced 0 K (m + 1) [.code (bodyOf fn_ref_spaced)] st = segD Γ_ref_spaced tab fn_ref_spaced 0 K (goD Γ_ref_spaced tab fn_ref_spaced 0 K m) [.code (bodyOf fn_ref_spaced)] st := rfl
theorem ref_spaced_vc0 (x0 : Int) (x1 : Int) (x2 : (List Int)) (x3 : (List UInt8)) (x4 : (List UInt8)) (rec : RK) (K : KK) v0 (hv0 : v0 = (numT (nth x2 (Int.toNat x0) (Ty.dflt Ty.int)))) : segD Γ_ref_spaced tab fn_ref_spaced 0 K rec (.code (Code.sub (bodyOf fn_ref_spaced) [1, 1, 0, 1, 0, 0]) :: ref_spaced_L0) (ref_spaced_S0 x0 x1 x2 x3 x4) = (
 br (lti x0 x1)
 ((((0 : Int) ≤ x0) ∧ (x0 < (((len x2) : Nat) : Int))) ∧
 (br (lti (0 : Int) x0)
 ((((len x3) + (len ((32 : UInt8) :: []))) ≤ 140737488355328) ∧
 ((((0 : Int) ≤ (nth x2 (Int.toNat x0) (Ty.dflt Ty.int))) ∧ ((nth x2 (Int.toNat x0) (Ty.dflt Ty.int)) ≤ (9223372036854775807 : Int))) ∧
 ((((len (cat x3 ((32 : UInt8) :: []))) + (len v0)) ≤ 140737488355328) ∧
 (rec ref_spaced_L0 (ref_spaced_S0 (w64 (x0 + (1 : Int))) x1 x2 (cat (cat x3 ((32 : UInt8) :: [])) v0) x4)))))
 ((((0 : Int) ≤ (nth x2 (Int.toNat x0) (Ty.dflt Ty.int))) ∧ ((nth x2 (Int.toNat x0) (Ty.dflt Ty.int)) ≤ (9223372036854775807 : Int))) ∧
 ((((len x3) + (len v0)) ≤ 140737488355328) ∧
 (rec ref_spaced_L0 (ref_spaced_S0 (w64 (x0 + (1 : Int))) x1 x2 (cat x3 v0) x4))))))
 (K (.one (.dat Ty.str x3)) [])) := by subst_vars; kernel_rfl
theorem ref_spaced_w0 (m : Nat) (K : KK) (st : St) : goD Γ_ref_spaced tab fn_ref_spaced 0 K (m + 1) ref_spaced_L0 st = segD Γ_ref_spaced tab fn_ref_spaced 0 K (goD Γ_ref_spaced tab fn_ref_spaced 0 K m) (.code (Code.sub (bodyOf fn_ref_spaced) [1, 1, 0, 1, 0, 0]) :: ref_spaced_L0) st := rfl

theorem loop_ref_spaced (l : List Int) (hl : l.length ≤ 1000) (hn : nums l = true) (K : KK) (hK : K (.one (.dat .str (listT l))) []) (y : List UInt8) : ∀ (d k : Nat), k + d = l.length →
    goD Γ_ref_spaced tab fn_ref_spaced 0 K (d + 1) ref_spaced_L0 (ref_spaced_S0 (k : Int) (((len l) : Nat) : Int) l (listT (l.take k)) y)
  | 0, k, hk => by
    rw [ref_spaced_w0, ref_spaced_vc0 _ _ _ _ _ _ _ _ rfl, List.take_of_length_le (by omega)]
    exact lt_f (by simp only [len]; omega) hK
  | d + 1, k, hk => by
    rw [ref_spaced_w0, ref_spaced_vc0 _ _ _ _ _ _ _ _ rfl, toNat_nat]
    have hm : nth l k (Ty.dflt Ty.int) ∈ l := by
      have : k < l.length := by omega
      simp [nth, List.getD_eq_getElem?_getD, this]
    have ht := take_step (l := l) (k := k) (by omega) (Ty.dflt Ty.int)
    have h0 := listT_len (l.take k)
    have hlk : (l.take k).length = k := by rw [List.length_take]; omega
    obtain ⟨x, hx⟩ : ∃ x, nth l k (Ty.dflt Ty.int) = x := ⟨_, rfl⟩
    rw [hx] at hm ht ⊢
    have h1 := List.all_eq_true.1 hn _ hm
    have h2 := numT_len x
    simp only [Bool.and_eq_true, decide_eq_true_eq] at h1
    have ek : w64 ((k : Int) + 1) = ((k + 1 : Nat) : Int) := w64_succ (by omega)
    rw [ek]
    refine lt_t (by simp only [len]; omega) ⟨⟨by omega, by simp only [len]; omega⟩, lt_s (fun h3 => ?_) (fun h3 => ?_)⟩
    · refine ⟨by simp only [len, List.length_cons, List.length_nil]; omega, h1, by simp only [len, cat, List.length_append, List.length_cons, List.length_nil]; omega, ?_⟩
      rw [show cat (cat (listT (l.take k)) [32]) (numT x) = listT (l.take (k + 1)) from by rw [ht, listT_snoc (by intro e; rw [e] at hlk; simp at hlk; omega)]; rfl]
      exact loop_ref_spaced l hl hn K hK y d (k + 1) (by omega)
    · have : k = 0 := by omega
      subst this
      refine ⟨h1, by simp only [len]; omega, ?_⟩
      rw [show cat (listT (l.take 0)) (numT x) = listT (l.take (0 + 1)) from by rw [ht]; rfl]
      exact loop_ref_spaced l hl hn K hK y d (0 + 1) (by omega)
set_option maxHeartbeats 4000000 in
theorem run_ref_spaced (l : List Int) (hp : len l ≤ 1000 ∧ nums l = true) (K : KK) (hK : K (.one (.dat .str (listT l))) []) : ∃ m, goD Γ_ref_spaced tab fn_ref_spaced 0 K m [.code (bodyOf fn_ref_spaced)] (initSt [.one (dL l)] []) := by
  refine ⟨l.length + 2, ?_⟩
  rw [ref_spaced_w, ref_spaced_vc _ _ _]
  exact loop_ref_spaced l hp.1 hp.2 K hK [] l.length 0 (by omega)
theorem sound_ref_spaced : SoundC Tryz.prog tab n_ref_spaced c_ref_spaced := soundC_of ok_ref_spaced hf_ref_spaced hB_ref_spaced (by
  intro vs bs p v bs' h hp
  unfold c_ref_spaced at h
  split at h
  · cases h
    exact ⟨by kernel_rfl, rfl, .inl (run_ref_spaced _ hp.1 _ ⟨rfl, rfl⟩)⟩
  · cases h)

def c_ref_ImageText : Contract := fun vs bs => match vs, bs with
  | [.one (.dat (.list .int) l)], [] => some (some (checkImage l = 0), .one (.dat .str (imageText l)), [])
  | _, _ => none
def Γ_ref_ImageText : Ctx := [(n_ref_spaced, c_ref_spaced)]
theorem ok_ref_ImageText : Ok Tryz.prog tab Γ_ref_ImageText := (ok_nil.consC hf_ref_spaced hB_ref_spaced sound_ref_spaced)
theorem ref_ImageText_vc (l : List Int) (rec : RK) (K : KK) v0 (hv0 : v0 = (nums l)) v1 (hv1 : v1 = (listT l)) : segD Γ_ref_ImageText tab fn_ref_ImageText 0 K rec [.code (bodyOf fn_ref_ImageText)] (initSt [.one (dL l)] []) = (
 (((len l) ≤ 1000) ∧ (v0 = true)) ∧
 ((((len ((105 : UInt8) :: ((109 : UInt8) :: ((97 : UInt8) :: ((103 : UInt8) :: ((101 : UInt8) :: ((32 : UInt8) :: []))))))) + (len v1)) ≤ 140737488355328) ∧
 (K (.one (.dat Ty.str (cat ((105 : UInt8) :: ((109 : UInt8) :: ((97 : UInt8) :: ((103 : UInt8) :: ((101 : UInt8) :: ((32 : UInt8) :: [])))))) v1))) []))) := by subst_vars; kernel_rfl
theorem ref_ImageText_w (m : Nat) (K : KK) (st : St) : goD Γ_ref_ImageText tab fn_ref_ImageText 0 K (m + 1) [.code (bodyOf fn_ref_ImageText)] st = segD Γ_ref_ImageText tab fn_ref_ImageText 0 K (goD Γ_ref_ImageText tab fn_ref_ImageText 0 K m) [.code (bodyOf fn_ref_ImageText)] st := rfl

set_option maxHeartbeats 4000000 in
theorem run_ref_ImageText (l : List Int) (hp : checkImage l = 0) (K : KK) (hK : K (.one (.dat .str (imageText l))) []) : ∃ m, goD Γ_ref_ImageText tab fn_ref_ImageText 0 K m [.code (bodyOf fn_ref_ImageText)] (initSt [.one (dL l)] []) := by
  refine ⟨1, ?_⟩
  rw [ref_ImageText_w, ref_ImageText_vc _ _ _ _ rfl _ rfl]
  obtain ⟨h1, h2, h3⟩ := checkImage_ok hp
  have n1 := listT_len l
  exact ⟨⟨by simp only [len]; omega, nums_of_words h3⟩, by simp only [len, List.length_cons, List.length_nil]; omega, hK⟩
theorem sound_ref_ImageText : SoundC Tryz.prog tab n_ref_ImageText c_ref_ImageText := soundC_of ok_ref_ImageText hf_ref_ImageText hB_ref_ImageText (by
  intro vs bs p v bs' h hp
  unfold c_ref_ImageText at h
  split at h
  · cases h
    exact ⟨by kernel_rfl, rfl, .inl (run_ref_ImageText _ hp.1 _ ⟨rfl, rfl⟩)⟩
  · cases h)

def c_ref_NameOf : Contract := fun vs bs => match vs, bs with
  | [.agg [.dat (.list .str) l], .one (.dat .str s)], [] => some (some (l.length ≤ 60), .one (.dat .int (indexS s l + 1)), [])
  | _, _ => none
def Γ_ref_NameOf : Ctx := []
theorem ok_ref_NameOf : Ok Tryz.prog tab Γ_ref_NameOf := ok_nil
noncomputable def ref_NameOf_L0 : List It := [.inLoop [10, 9, 8, 4, 1] (Code.sub (bodyOf fn_ref_NameOf) [1, 0, 1, 0, 0]), .inBlock 0, .code (Code.sub (bodyOf fn_ref_NameOf) [1, 1])]
def ref_NameOf_S0 (x0 : Int) (x1 : Int) (x2 : (List (List UInt8))) (x3 : Int) (x4 : (List UInt8)) : St := ⟨[(10, .one (dI x0)), (9, .one (dI x1)), (8, .one (.dat (Ty.list Ty.str) x2)), (4, .one (dI x3)), (1, .one (.dat Ty.str x4))], [], 0⟩
theorem ref_NameOf_vc (l : List (List UInt8)) (s : List UInt8) (rec : RK) (K : KK) : segD Γ_ref_NameOf tab fn_ref_NameOf 0 K rec [.code (bodyOf fn_ref_NameOf)] (initSt [.agg [.dat (Ty.list Ty.str) l], .one (.dat Ty.str s)] []) = (
 rec ref_NameOf_L0 (ref_NameOf_S0 (0 : Int) (((len l) : Nat) : Int) l (0 : Int) s)) := by kernel_rfl
theorem ref_NameOf_w (m : Nat) (K : KK) (st : St) : goD Γ_ref_NameOf tab fn_ref_NameOf 0 K (m + 1) [.code (bodyOf fn_ref_NameOf)] st = segD Γ_ref_NameOf tab fn_ref_NameOf 0 K (goD Γ_ref_NameOf tab fn_ref_NameOf 0 K m) [.code (bodyOf fn_ref_NameOf)] st := rfl
theorem ref_NameOf_vc0 (x0 : Int) (x1 : Int) (x2 : (List (List UInt8))) (x3 : Int) (x4 : (List UInt8)) (rec : RK) (K : KK) : segD Γ_ref_NameOf tab fn_ref_NameOf 0 K rec (.code (Code.sub (bodyOf fn_ref_NameOf) [1, 0, 1, 0, 0]) :: ref_NameOf_L0) (ref_NameOf_S0 x0 x1 x2 x3 x4) = (
 br (lti x0 x1)
 ((((0 : Int) ≤ x0) ∧ (x0 < (((len x2) : Nat) : Int))) ∧
 (br (eqs (nth x2 (Int.toNat x0) (Ty.dflt Ty.str)) x4)
 (K (.one (dI (w64 (x0 + (1 : Int))))) [])
 (rec ref_NameOf_L0 (ref_NameOf_S0 (w64 (x0 + (1 : Int))) x1 x2 x3 x4))))
 (K (.one (dI (0 : Int))) [])) := by kernel_rfl
theorem ref_NameOf_w0 (m : Nat) (K : KK) (st : St) : goD Γ_ref_NameOf tab fn_ref_NameOf 0 K (m + 1) ref_NameOf_L0 st = segD Γ_ref_NameOf tab fn_ref_NameOf 0 K (goD Γ_ref_NameOf tab fn_ref_NameOf 0 K m) (.code (Code.sub (bodyOf fn_ref_NameOf) [1, 0, 1, 0, 0]) :: ref_NameOf_L0) st := rfl

theorem loop_ref_NameOf (l : List (List UInt8)) (s : List UInt8) (hl : l.length ≤ 60) (K : KK) : ∀ (d k : Nat), k + d = l.length → K (.one (dI (indexFrom k s (l.drop k) + 1))) [] →
    goD Γ_ref_NameOf tab fn_ref_NameOf 0 K (d + 1) ref_NameOf_L0 (ref_NameOf_S0 (k : Int) (((len l) : Nat) : Int) l 0 s)
  | 0, k, hk, hK => by
    rw [ref_NameOf_w0, ref_NameOf_vc0 _ _ _ _ _ _ _]
    rw [List.drop_of_length_le (by omega)] at hK
    exact lt_f (by simp only [len]; omega) hK
  | d + 1, k, hk, hK => by
    rw [ref_NameOf_w0, ref_NameOf_vc0 _ _ _ _ _ _ _, toNat_nat, w64_succ (by omega)]
    rw [drop_step (by omega) (Ty.dflt Ty.str)] at hK
    simp only [indexFrom] at hK
    refine lt_t (by simp only [len]; omega) ⟨⟨by omega, by simp only [len]; omega⟩, br_split (fun h => ?_) (fun h => ?_)⟩
    · rw [eqs_true] at h
      rw [if_pos h] at hK; exact hK
    · rw [eqs_false] at h
      rw [if_neg h] at hK
      exact loop_ref_NameOf l s hl K d (k + 1) (by omega) hK
set_option maxHeartbeats 4000000 in
theorem run_ref_NameOf (l : List (List UInt8)) (s : List UInt8) (hp : l.length ≤ 60) (K : KK) (hK : K (.one (dI (indexS s l + 1))) []) : ∃ m, goD Γ_ref_NameOf tab fn_ref_NameOf 0 K m [.code (bodyOf fn_ref_NameOf)] (initSt [.agg [.dat (.list .str) l], .one (.dat .str s)] []) := by
  refine ⟨l.length + 2, ?_⟩
  rw [ref_NameOf_w, ref_NameOf_vc _ _ _ _]
  exact loop_ref_NameOf l s hp K l.length 0 (by omega) hK
theorem sound_ref_NameOf : SoundC Tryz.prog tab n_ref_NameOf c_ref_NameOf := soundC_of ok_ref_NameOf hf_ref_NameOf hB_ref_NameOf (by
  intro vs bs p v bs' h hp
  unfold c_ref_NameOf at h
  split at h
  · cases h
    exact ⟨by kernel_rfl, rfl, .inl (run_ref_NameOf _ _ hp.1 _ ⟨rfl, rfl⟩)⟩
  · cases h)

def c_ref_checkRecord : Contract := fun vs bs => match vs, bs with
  | [.one (.dat (.list .int) l)], [] => some (some (Sm l), .one (.dat .int (checkRec l)), [])
  | _, _ => none
def Γ_ref_checkRecord : Ctx := [(n_ref_allWords, c_ref_allWords)]
theorem ok_ref_checkRecord : Ok Tryz.prog tab Γ_ref_checkRecord := (ok_nil.consC hf_ref_allWords hB_ref_allWords sound_ref_allWords)
theorem ref_checkRecord_vc (l : List Int) (rec : RK) (K : KK) v0 (hv0 : v0 = (okWords l)) : segD Γ_ref_checkRecord tab fn_ref_checkRecord 0 K rec [.code (bodyOf fn_ref_checkRecord)] (initSt [.one (dL l)] []) = (
 br (lti (((len l) : Nat) : Int) (1 : Int))
 (K (.one (dI (2 : Int))) [])
 (br (lti (4 : Int) (((len l) : Nat) : Int))
 (K (.one (dI (2 : Int))) [])
 (((List.length l) ≤ 140737488355328) ∧
 (br (!v0)
 (K (.one (dI (3 : Int))) [])
 (K (.one (dI (0 : Int))) []))))) := by subst_vars; kernel_rfl
theorem ref_checkRecord_w (m : Nat) (K : KK) (st : St) : goD Γ_ref_checkRecord tab fn_ref_checkRecord 0 K (m + 1) [.code (bodyOf fn_ref_checkRecord)] st = segD Γ_ref_checkRecord tab fn_ref_checkRecord 0 K (goD Γ_ref_checkRecord tab fn_ref_checkRecord 0 K m) [.code (bodyOf fn_ref_checkRecord)] st := rfl

set_option maxHeartbeats 4000000 in
theorem run_ref_checkRecord (l : List Int) (hp : Sm l) (K : KK) (hK : K (.one (dI (checkRec l))) []) : ∃ m, goD Γ_ref_checkRecord tab fn_ref_checkRecord 0 K m [.code (bodyOf fn_ref_checkRecord)] (initSt [.one (dL l)] []) := by
  refine ⟨1, ?_⟩
  rw [ref_checkRecord_w, ref_checkRecord_vc _ _ _ _ rfl]
  unfold checkRec at hK
  refine lt_s (fun h => ?_) (fun h => lt_s (fun h2 => ?_) (fun h2 => ⟨hp, nt_s (fun h3 => ?_) (fun h3 => ?_)⟩))
  · rw [if_neg (by simp only [len] at h; omega)] at hK; exact hK
  · rw [if_neg (by simp only [len] at h2; omega)] at hK; exact hK
  · rw [if_pos (by simp only [len] at h h2; omega), if_neg (by rw [h3]; simp)] at hK; exact hK
  · rw [if_pos (by simp only [len] at h h2; omega), if_pos h3] at hK; exact hK
theorem sound_ref_checkRecord : SoundC Tryz.prog tab n_ref_checkRecord c_ref_checkRecord := soundC_of ok_ref_checkRecord hf_ref_checkRecord hB_ref_checkRecord (by
  intro vs bs p v bs' h hp
  unfold c_ref_checkRecord at h
  split at h
  · cases h
    exact ⟨by kernel_rfl, rfl, .inl (run_ref_checkRecord _ hp.1 _ ⟨rfl, rfl⟩)⟩
  · cases h)

def c_slices_Concat_Lref_change : Contract := fun vs bs => match vs, bs with
  | [.one (.dat (.list (.list .change)) xs)], [] => some (some (xs.length ≤ 10 ∧ (joinCh xs).length ≤ 1000), .one (.own 0), [.arr .change (joinCh xs)])
  | _, _ => none
def Γ_slices_Concat_Lref_change : Ctx := [(n_slices_Grow_Lref_change, c_slices_Grow_Lref_change)]
theorem ok_slices_Concat_Lref_change : Ok Tryz.prog tab Γ_slices_Concat_Lref_change := (ok_nil.consC hf_slices_Grow_Lref_change hB_slices_Grow_Lref_change sound_slices_Grow_Lref_change)
noncomputable def slices_Concat_Lref_change_L0 : List It := [.inLoop [11, 10, 9, 3, 2, 0] (Code.sub (bodyOf fn_slices_Concat_Lref_change) [1, 1, 0, 1, 0, 0]), .inBlock 0, .code (Code.sub (bodyOf fn_slices_Concat_Lref_change) [1, 1, 1])]
def slices_Concat_Lref_change_S0 (x0 : Int) (x1 : Int) (x2 : (List (List Change))) (x3 : Int) (x4 : (List (List Change))) (x5 : (List Change)) : St := ⟨[(11, .one (dI x0)), (10, .one (dI x1)), (9, .one (.dat (Ty.list (Ty.list Ty.change)) x2)), (3, .one (dI x3)), (2, .one (.own 0)), (0, .one (.dat (Ty.list (Ty.list Ty.change)) x4))], [(0, .arr Ty.change x5)], 1⟩
noncomputable def slices_Concat_Lref_change_L1 : List It := [.inLoop [27, 26, 25, 6, 2] (Code.sub (bodyOf fn_slices_Concat_Lref_change) [1, 1, 1, 1, 0, 1, 0, 0]), .inBlock 2, .code (Code.sub (bodyOf fn_slices_Concat_Lref_change) [1, 1, 1, 1, 1])]
def slices_Concat_Lref_change_S1 (x0 : Int) (x1 : Int) (x2 : (List (List Change))) (x3 : (List Change)) (x4 : (List Change)) : St := ⟨[(27, .one (dI x0)), (26, .one (dI x1)), (25, .one (.dat (Ty.list (Ty.list Ty.change)) x2)), (6, .one (.own 0)), (2, .one (.own 1))], [(0, .arr Ty.change x3), (1, .arr Ty.change x4)], 2⟩
theorem slices_Concat_Lref_change_vc (xs : List (List Change)) (rec : RK) (K : KK) : segO Γ_slices_Concat_Lref_change tab fn_slices_Concat_Lref_change 0 K rec [.code (bodyOf fn_slices_Concat_Lref_change)] (initSt [.one (.dat (Ty.list (Ty.list Ty.change)) xs)] []) = (
 rec slices_Concat_Lref_change_L0 (slices_Concat_Lref_change_S0 (0 : Int) (((len xs) : Nat) : Int) xs (0 : Int) xs [])) := by kernel_rfl
theorem slices_Concat_Lref_change_w (m : Nat) (K : KK) (st : St) : goO Γ_slices_Concat_Lref_change tab fn_slices_Concat_Lref_change 0 K (m + 1) [.code (bodyOf fn_slices_Concat_Lref_change)] st = segO Γ_slices_Concat_Lref_change tab fn_slices_Concat_Lref_change 0 K (goO Γ_slices_Concat_Lref_change tab fn_slices_Concat_Lref_change 0 K m) [.code (bodyOf fn_slices_Concat_Lref_change)] st := rfl
theorem slices_Concat_Lref_change_vc0 (x0 : Int) (x1 : Int) (x2 : (List (List Change))) (x3 : Int) (x4 : (List (List Change))) (x5 : (List Change)) (rec : RK) (K : KK) : segO Γ_slices_Concat_Lref_change tab fn_slices_Concat_Lref_change 0 K rec (.code (Code.sub (bodyOf fn_slices_Concat_Lref_change) [1, 1, 0, 1, 0, 0]) :: slices_Concat_Lref_change_L0) (slices_Concat_Lref_change_S0 x0 x1 x2 x3 x4 x5) = (
 br (lti x0 x1)
 ((((0 : Int) ≤ x0) ∧ (x0 < (((len x2) : Nat) : Int))) ∧
 (br (lti (w64 (x3 + (((len (nth x2 (Int.toNat x0) (Ty.dflt (Ty.list Ty.change)))) : Nat) : Int))) (0 : Int))
 (False)
 (rec slices_Concat_Lref_change_L0 (slices_Concat_Lref_change_S0 (w64 (x0 + (1 : Int))) x1 x2 (w64 (x3 + (((len (nth x2 (Int.toNat x0) (Ty.dflt (Ty.list Ty.change)))) : Nat) : Int))) x4 x5))))
 ((((0 : Int) ≤ x3) ∧ (x3 ≤ (100000 : Int))) ∧
 (rec slices_Concat_Lref_change_L1 (slices_Concat_Lref_change_S1 (0 : Int) (((len x4) : Nat) : Int) x4 [] x5)))) := by kernel_rfl
theorem slices_Concat_Lref_change_w0 (m : Nat) (K : KK) (st : St) : goO Γ_slices_Concat_Lref_change tab fn_slices_Concat_Lref_change 0 K (m + 1) slices_Concat_Lref_change_L0 st = segO Γ_slices_Concat_Lref_change tab fn_slices_Concat_Lref_change 0 K (goO Γ_slices_Concat_Lref_change tab fn_slices_Concat_Lref_change 0 K m) (.code (Code.sub (bodyOf fn_slices_Concat_Lref_change) [1, 1, 0, 1, 0, 0]) :: slices_Concat_Lref_change_L0) st := rfl
theorem slices_Concat_Lref_change_vc1 (x0 : Int) (x1 : Int) (x2 : (List (List Change))) (x3 : (List Change)) (x4 : (List Change)) (rec : RK) (K : KK) : segO Γ_slices_Concat_Lref_change tab fn_slices_Concat_Lref_change 0 K rec (.code (Code.sub (bodyOf fn_slices_Concat_Lref_change) [1, 1, 1, 1, 0, 1, 0, 0]) :: slices_Concat_Lref_change_L1) (slices_Concat_Lref_change_S1 x0 x1 x2 x3 x4) = (
 br (lti x0 x1)
 ((((0 : Int) ≤ x0) ∧ (x0 < (((len x2) : Nat) : Int))) ∧
 (((((len x3) + (len (nth x2 (Int.toNat x0) (Ty.dflt (Ty.list Ty.change))))) * 16) ≤ 140737488355328) ∧
 (rec slices_Concat_Lref_change_L1 (slices_Concat_Lref_change_S1 (w64 (x0 + (1 : Int))) x1 x2 (cat x3 (nth x2 (Int.toNat x0) (Ty.dflt (Ty.list Ty.change)))) x4))))
 (K (.one (.own 0)) [.arr Ty.change x3])) := by kernel_rfl
theorem slices_Concat_Lref_change_w1 (m : Nat) (K : KK) (st : St) : goO Γ_slices_Concat_Lref_change tab fn_slices_Concat_Lref_change 0 K (m + 1) slices_Concat_Lref_change_L1 st = segO Γ_slices_Concat_Lref_change tab fn_slices_Concat_Lref_change 0 K (goO Γ_slices_Concat_Lref_change tab fn_slices_Concat_Lref_change 0 K m) (.code (Code.sub (bodyOf fn_slices_Concat_Lref_change) [1, 1, 1, 1, 0, 1, 0, 0]) :: slices_Concat_Lref_change_L1) st := rfl

theorem joinCh_take {xs : List (List Change)} {k : Nat} (h : k < xs.length) : joinCh (xs.take (k + 1)) = joinCh (xs.take k) ++ nth xs k [] := by
  rw [take_step h []]
  have : ∀ (a : List (List Change)) (x : List Change), joinCh (a ++ [x]) = joinCh a ++ x := fun a x => by
    induction a with
    | nil => simp [joinCh]
    | cons y a ih => simp [joinCh, ih]
  exact this _ _
theorem joinCh_le (xs : List (List Change)) (k : Nat) : (joinCh (xs.take k)).length ≤ (joinCh xs).length := by
  induction xs generalizing k with
  | nil => simp
  | cons x xs ih =>
    cases k with
    | zero => simp [joinCh]
    | succ k => simp only [List.take_succ_cons, joinCh, List.length_append]; have := ih k; omega
theorem loop1_Concat (xs : List (List Change)) (h1 : xs.length ≤ 10) (h2 : (joinCh xs).length ≤ 1000) (K : KK) (hK : K (.one (.own 0)) [.arr .change (joinCh xs)]) (y : List Change) : ∀ (d k : Nat), k + d = xs.length →
    goO Γ_slices_Concat_Lref_change tab fn_slices_Concat_Lref_change 0 K (d + 1) slices_Concat_Lref_change_L1 (slices_Concat_Lref_change_S1 (k : Int) (((len xs) : Nat) : Int) xs (joinCh (xs.take k)) y)
  | 0, k, hk => by
    rw [slices_Concat_Lref_change_w1, slices_Concat_Lref_change_vc1 _ _ _ _ _ _ _, List.take_of_length_le (by omega)]
    exact lt_f (by simp only [len]; omega) hK
  | d + 1, k, hk => by
    rw [slices_Concat_Lref_change_w1, slices_Concat_Lref_change_vc1 _ _ _ _ _ _ _, toNat_nat]
    have hj := joinCh_take (xs := xs) (k := k) (by omega)
    have hl := joinCh_le xs (k + 1)
    have e : nth xs k (Ty.dflt (Ty.list Ty.change)) = nth xs k [] := rfl
    rw [e]
    rw [hj, List.length_append] at hl
    refine lt_t (by simp only [len]; omega) ⟨⟨by omega, by simp only [len]; omega⟩, by simp only [len]; omega, ?_⟩
    rw [w64_succ (by omega), show cat (joinCh (xs.take k)) (nth xs k []) = joinCh (xs.take (k + 1)) from hj.symm]
    exact loop1_Concat xs h1 h2 K hK y d (k + 1) (by omega)
theorem loop0_Concat (xs : List (List Change)) (h1 : xs.length ≤ 10) (h2 : (joinCh xs).length ≤ 1000) (K : KK) (hK : K (.one (.own 0)) [.arr .change (joinCh xs)]) : ∀ (d k : Nat), k + d = xs.length →
    goO Γ_slices_Concat_Lref_change tab fn_slices_Concat_Lref_change 0 K (d + 1 + (xs.length + 1)) slices_Concat_Lref_change_L0 (slices_Concat_Lref_change_S0 (k : Int) (((len xs) : Nat) : Int) xs (((joinCh (xs.take k)).length : Nat) : Int) xs [])
  | 0, k, hk => by
    rw [show 0 + 1 + (xs.length + 1) = (xs.length + 1) + 1 by omega, slices_Concat_Lref_change_w0, slices_Concat_Lref_change_vc0 _ _ _ _ _ _ _ _, List.take_of_length_le (by omega)]
    exact lt_f (by simp only [len]; omega) ⟨⟨by omega, by omega⟩, loop1_Concat xs h1 h2 K hK [] xs.length 0 (by omega)⟩
  | d + 1, k, hk => by
    rw [show d + 1 + 1 + (xs.length + 1) = (d + 1 + (xs.length + 1)) + 1 by omega, slices_Concat_Lref_change_w0, slices_Concat_Lref_change_vc0 _ _ _ _ _ _ _ _, toNat_nat]
    have hj := joinCh_take (xs := xs) (k := k) (by omega)
    have hl := joinCh_le xs (k + 1)
    have e : nth xs k (Ty.dflt (Ty.list Ty.change)) = nth xs k [] := rfl
    rw [e]
    have hj2 := congrArg List.length hj
    rw [List.length_append] at hj2
    rw [w64_succ (by omega), w64_id (n := (((joinCh (xs.take k)).length : Nat) : Int) + _) (by simp only [len]; omega) (by simp only [len]; omega)]
    refine lt_t (by simp only [len]; omega) ⟨⟨by omega, by simp only [len]; omega⟩, lt_f (by simp only [len]; omega) ?_⟩
    rw [show (((joinCh (xs.take k)).length : Nat) : Int) + (((len (nth xs k [])) : Nat) : Int) = (((joinCh (xs.take (k + 1))).length : Nat) : Int) by simp only [len]; omega]
    exact loop0_Concat xs h1 h2 K hK d (k + 1) (by omega)
set_option maxHeartbeats 4000000 in
theorem run_slices_Concat_Lref_change (xs : List (List Change)) (hp : xs.length ≤ 10 ∧ (joinCh xs).length ≤ 1000) (K : KK) (hK : K (.one (.own 0)) [.arr .change (joinCh xs)]) : ∃ m, goO Γ_slices_Concat_Lref_change tab fn_slices_Concat_Lref_change 0 K m [.code (bodyOf fn_slices_Concat_Lref_change)] (initSt [.one (.dat (.list (.list .change)) xs)] []) := by
  refine ⟨xs.length + 1 + (xs.length + 1) + 1, ?_⟩
  rw [slices_Concat_Lref_change_w, slices_Concat_Lref_change_vc _ _ _]
  exact loop0_Concat xs hp.1 hp.2 K hK xs.length 0 (by omega)
theorem sound_slices_Concat_Lref_change : SoundC Tryz.prog tab n_slices_Concat_Lref_change c_slices_Concat_Lref_change := soundC_of ok_slices_Concat_Lref_change hf_slices_Concat_Lref_change hB_slices_Concat_Lref_change (by
  intro vs bs p v bs' h hp
  unfold c_slices_Concat_Lref_change at h
  split at h
  · cases h
    exact ⟨by kernel_rfl, rfl, .inr (.inl (run_slices_Concat_Lref_change _ hp.1 _ ⟨rfl, rfl⟩))⟩
  · cases h)

def c_ref_Appended : Contract := fun vs bs => match vs, bs with
  | [.agg [.dat (.list .int) ws, .dat .int fu], .one (.dat (.list .int) r), .one (.dat (.list (.list .int)) keep)], [] => some (some (checkLog ⟨ws, fu⟩ = 0 ∧ Sm r ∧ len keep * 24 ≤ 140737488351232 ∧ smR keep = true), .tup [.agg [.dat (.list .int) (appendF ⟨ws, fu⟩ r keep).1.words, .dat .int (appendF ⟨ws, fu⟩ r keep).1.fuel], .one (.dat .int (appendF ⟨ws, fu⟩ r keep).2)], [])
  | _, _ => none
def Γ_ref_Appended : Ctx := [(n_ref_checkRecord, c_ref_checkRecord), (n_ref_counts, c_ref_counts), (n_ref_RecordsOf, (weakC c_ref_RecordsOf)), (n_ref_programs, c_ref_programs), (n_ref_erases, c_ref_erases), (n_slices_Concat_Lref_change, c_slices_Concat_Lref_change), (n_ref_Changed, c_ref_Changed)]
theorem ok_ref_Appended : Ok Tryz.prog tab Γ_ref_Appended := (((((((ok_nil.consC hf_ref_Changed hB_ref_Changed sound_ref_Changed).consC hf_slices_Concat_Lref_change hB_slices_Concat_Lref_change sound_slices_Concat_Lref_change).consC hf_ref_erases hB_ref_erases sound_ref_erases).consC hf_ref_programs hB_ref_programs sound_ref_programs).consC hf_ref_RecordsOf hB_ref_RecordsOf (soundC_weak sound_ref_RecordsOf)).consC hf_ref_counts hB_ref_counts sound_ref_counts).consC hf_ref_checkRecord hB_ref_checkRecord sound_ref_checkRecord)
noncomputable def ref_Appended_L0 : List It := [.inLoop [10, 9, 7, 6, 3, 1, 2] (Code.sub (bodyOf fn_ref_Appended) [1, 1, 1, 0, 1, 0, 0]), .inBlock 0, .code (Code.sub (bodyOf fn_ref_Appended) [1, 1, 1, 1])]
def ref_Appended_S0 (x0 : Int) (x1 : Int) (x2 : (List Int)) (x3 : (List (List Int))) (x4 : (List Int)) (x5 : Int) (x6 : (List Int)) (x7 : Int) (x8 : (List Int)) : St := ⟨[(10, .one (dI x0)), (9, .one (.own 0)), (7, .one (dI x1)), (6, .one (.ptr 1 0)), (3, .one (.ptr 2 0)), (1, .one (dL x2)), (2, .one (dR x3))], [(0, .arr Ty.int x4), (1, .box [.own 3, dI x5]), (2, .box [dL x6, dI x7]), (3, .arr Ty.int x8)], 4⟩
theorem ref_Appended_vc (ws : List Int) (fu : Int) (r : List Int) (keep : List (List Int)) (rec : RK) (K : KK) v0 (hv0 : v0 = (checkRec r)) : segD Γ_ref_Appended tab fn_ref_Appended 0 K rec [.code (bodyOf fn_ref_Appended)] (initSt [.agg [dL ws, dI fu], .one (dL r), .one (dR keep)] []) = (
 ((List.length r) ≤ 140737488355328) ∧
 (br (!(eqi v0 (0 : Int)))
 (K (.tup [.agg [dL [], dI (0 : Int)], .one (dI v0)]) [])
 (rec ref_Appended_L0 (ref_Appended_S0 (0 : Int) (0 : Int) r keep [] (0 : Int) ws fu [])))) := by subst_vars; kernel_rfl
theorem ref_Appended_w (m : Nat) (K : KK) (st : St) : goD Γ_ref_Appended tab fn_ref_Appended 0 K (m + 1) [.code (bodyOf fn_ref_Appended)] st = segD Γ_ref_Appended tab fn_ref_Appended 0 K (goD Γ_ref_Appended tab fn_ref_Appended 0 K m) [.code (bodyOf fn_ref_Appended)] st := rfl
theorem ref_Appended_vc0 (x0 : Int) (x1 : Int) (x2 : (List Int)) (x3 : (List (List Int))) (x4 : (List Int)) (x5 : Int) (x6 : (List Int)) (x7 : Int) (x8 : (List Int)) (rec : RK) (K : KK) v0 (hv0 : v0 = (checkRec (nth x3 (Int.toNat x0) (Ty.dflt (Ty.list Ty.int))))) v1 (hv1 : v1 = (checkRec x2)) v2 (hv2 : v2 = (okWords x6)) v3 (hv3 : v3 = (liveS x6)) v4 (hv4 : v4 = (scanS x6 v3)) v5 (hv5 : v5 = (nextI v3 v4.snd)) v6 (hv6 : v6 = (burnCh (w64 (v5 + (1 : Int))) x2)) v7 (hv7 : v7 = (burnCh v5 ((w64 ((42240 : Int) + (((len x2) : Nat) : Int))) :: []))) v8 (hv8 : v8 = (inPlaces (List.length x6) (cat v6 v7))) v9 (hv9 : v9 = (doCh (⟨x6, x7⟩ : Flash) (cat v6 v7))) v10 (hv10 : v10 = (powerE v9.snd)) v11 (hv11 : v11 = (liveG x6)) v12 (hv12 : v12 = (wipeCh (w64 ((1 : Int) - ((v3 : Nat) : Int))))) v13 (hv13 : v13 = (burnCh (w64 ((w64 ((32 : Int) * (w64 ((1 : Int) - ((v3 : Nat) : Int))))) + (1 : Int))) x4)) v14 (hv14 : v14 = (burnCh (w64 ((32 : Int) * (w64 ((1 : Int) - ((v3 : Nat) : Int))))) ((w64 (v11 + (1 : Int))) :: []))) v15 (hv15 : v15 = (joinCh (v12 :: (v13 :: (v14 :: []))))) v16 (hv16 : v16 = (inPlaces (List.length x6) v15)) v17 (hv17 : v17 = (doCh (⟨x6, x7⟩ : Flash) v15)) v18 (hv18 : v18 = (powerE v17.snd)) v19 (hv19 : v19 = (br (eqi v11 (60000 : Int))
 (K (.tup [.agg [dL [], dI (0 : Int)], .one (dI (8 : Int))]) [])
 ((((0 : Int) ≤ (w64 ((1 : Int) - ((v3 : Nat) : Int)))) ∧ ((w64 ((1 : Int) - ((v3 : Nat) : Int))) ≤ (10 : Int))) ∧
 ((((0 : Int) ≤ (w64 ((w64 ((32 : Int) * (w64 ((1 : Int) - ((v3 : Nat) : Int))))) + (1 : Int)))) ∧ (((w64 ((w64 ((32 : Int) * (w64 ((1 : Int) - ((v3 : Nat) : Int))))) + (1 : Int))) ≤ (1000 : Int)) ∧ ((len x4) ≤ 1000))) ∧
 ((((0 : Int) ≤ (w64 ((32 : Int) * (w64 ((1 : Int) - ((v3 : Nat) : Int)))))) ∧ (((w64 ((32 : Int) * (w64 ((1 : Int) - ((v3 : Nat) : Int))))) ≤ (1000 : Int)) ∧ ((len ((w64 (v11 + (1 : Int))) :: [])) ≤ 1000))) ∧
 ((((List.length (v12 :: (v13 :: (v14 :: [])))) ≤ 10) ∧ ((List.length v15) ≤ 1000)) ∧
 ((((len x6) ≤ 192) ∧ (((-(1 : Int)) ≤ x7) ∧ ((x7 ≤ (100000 : Int)) ∧ (((len v15) ≤ 1000) ∧ (v16 = true))))) ∧
 (K (.tup [.agg [dL v17.fst.words, dI v17.fst.fuel], .one (dI v18)]) [])))))))) v20 (hv20 : v20 = (K (.tup [.agg [dL [], dI (0 : Int)], .one (dI (8 : Int))]) [])) : segD Γ_ref_Appended tab fn_ref_Appended 0 K rec (.code (Code.sub (bodyOf fn_ref_Appended) [1, 1, 1, 0, 1, 0, 0]) :: ref_Appended_L0) (ref_Appended_S0 x0 x1 x2 x3 x4 x5 x6 x7 x8) = (
 br (lei x0 (((len x3) : Nat) : Int))
 (br (lti x0 (((len x3) : Nat) : Int))
 ((((0 : Int) ≤ x0) ∧ (x0 < (((len x3) : Nat) : Int))) ∧
 (((List.length (nth x3 (Int.toNat x0) (Ty.dflt (Ty.list Ty.int)))) ≤ 140737488355328) ∧
 (br (!(eqi v0 (0 : Int)))
 (K (.tup [.agg [dL [], dI (0 : Int)], .one (dI v0)]) [])
 (((((len x4) + (len ((w64 ((42240 : Int) + (((len (nth x3 (Int.toNat x0) (Ty.dflt (Ty.list Ty.int)))) : Nat) : Int))) :: []))) * 8) ≤ 140737488355328) ∧
 (((((len (cat x4 ((w64 ((42240 : Int) + (((len (nth x3 (Int.toNat x0) (Ty.dflt (Ty.list Ty.int)))) : Nat) : Int))) :: []))) + (len (nth x3 (Int.toNat x0) (Ty.dflt (Ty.list Ty.int))))) * 8) ≤ 140737488355328) ∧
 (br (lti (31 : Int) (((len (cat (cat x4 ((w64 ((42240 : Int) + (((len (nth x3 (Int.toNat x0) (Ty.dflt (Ty.list Ty.int)))) : Nat) : Int))) :: [])) (nth x3 (Int.toNat x0) (Ty.dflt (Ty.list Ty.int))))) : Nat) : Int))
 v20
 (rec ref_Appended_L0 (ref_Appended_S0 (w64 (x0 + (1 : Int))) x1 x2 x3 (cat (cat x4 ((w64 ((42240 : Int) + (((len (nth x3 (Int.toNat x0) (Ty.dflt (Ty.list Ty.int)))) : Nat) : Int))) :: [])) (nth x3 (Int.toNat x0) (Ty.dflt (Ty.list Ty.int)))) x5 x6 x7 x8))))))))
 (((List.length x2) ≤ 140737488355328) ∧
 (br (!(eqi v1 (0 : Int)))
 (K (.tup [.agg [dL [], dI (0 : Int)], .one (dI v1)]) [])
 (((((len x4) + (len ((w64 ((42240 : Int) + (((len x2) : Nat) : Int))) :: []))) * 8) ≤ 140737488355328) ∧
 (((((len (cat x4 ((w64 ((42240 : Int) + (((len x2) : Nat) : Int))) :: []))) + (len x2)) * 8) ≤ 140737488355328) ∧
 (br (lti (31 : Int) (((len (cat (cat x4 ((w64 ((42240 : Int) + (((len x2) : Nat) : Int))) :: [])) x2)) : Nat) : Int))
 v20
 (rec ref_Appended_L0 (ref_Appended_S0 (w64 (x0 + (1 : Int))) x1 x2 x3 (cat (cat x4 ((w64 ((42240 : Int) + (((len x2) : Nat) : Int))) :: [])) x2) x5 x6 x7 x8))))))))
 ((64 ≤ (len x6)) ∧
 (((64 ≤ (len x6)) ∧ (((len x6) ≤ 192) ∧ (v2 = true))) ∧
 (br (lei (0 : Int) v5)
 (br (lei (w64 ((w64 (v5 + (1 : Int))) + (((len x2) : Nat) : Int))) (w64 ((w64 ((32 : Int) * ((v3 : Nat) : Int))) + (32 : Int))))
 ((((0 : Int) ≤ (w64 (v5 + (1 : Int)))) ∧ (((w64 (v5 + (1 : Int))) ≤ (1000 : Int)) ∧ ((len x2) ≤ 1000))) ∧
 ((((0 : Int) ≤ v5) ∧ ((v5 ≤ (1000 : Int)) ∧ ((len ((w64 ((42240 : Int) + (((len x2) : Nat) : Int))) :: [])) ≤ 1000))) ∧
 (((((len v6) + (len v7)) * 16) ≤ 140737488355328) ∧
 ((((len x6) ≤ 192) ∧ (((-(1 : Int)) ≤ x7) ∧ ((x7 ≤ (100000 : Int)) ∧ (((len (cat v6 v7)) ≤ 1000) ∧ (v8 = true))))) ∧
 (K (.tup [.agg [dL v9.fst.words, dI v9.fst.fuel], .one (dI v10)]) [])))))
 v19)
 v19)))) := by subst_vars; kernel_rfl
theorem ref_Appended_w0 (m : Nat) (K : KK) (st : St) : goD Γ_ref_Appended tab fn_ref_Appended 0 K (m + 1) ref_Appended_L0 st = segD Γ_ref_Appended tab fn_ref_Appended 0 K (goD Γ_ref_Appended tab fn_ref_Appended 0 K m) (.code (Code.sub (bodyOf fn_ref_Appended) [1, 1, 1, 0, 1, 0, 0]) :: ref_Appended_L0) st := rfl

theorem nth_snoc (keep : List (List Int)) (r : List Int) (k : Nat) (d : List Int) (h : k ≤ keep.length) : nth (keep ++ [r]) k d = if k < keep.length then nth keep k d else r := by
  unfold nth
  simp only [List.getD_eq_getElem?_getD]
  by_cases c : k < keep.length
  · rw [if_pos c, List.getElem?_append_left c]
  · have : k = keep.length := by omega
    subst this
    rw [if_neg c]; simp
theorem loop_ref_Appended (ws r : List Int) (fu : Int) (keep : List (List Int)) (hl : keep.length ≤ 5864062014806) (hs : smR keep = true) (hr : r.length ≤ 140737488355328) (K : KK)
    (hbad : ∀ e, e ≠ 0 → gather 0 (keep ++ [r]) = e → K (.tup [.agg [dL [], dI 0], .one (dI e)]) [])
    (hend : ∀ M, gather 0 (keep ++ [r]) = 0 → (allW (keep ++ [r])).length ≤ 31 → goD Γ_ref_Appended tab fn_ref_Appended 0 K (M + 1) ref_Appended_L0 (ref_Appended_S0 (((keep.length + 1 : Nat) : Int)) 0 r keep (allW (keep ++ [r])) 0 ws fu [])) :
    ∀ (d k : Nat), keep.length + 1 ≤ k + d → k ≤ keep.length + 1 → (allW ((keep ++ [r]).take k)).length ≤ 31 → gather 0 (keep ++ [r]) = gather (allW ((keep ++ [r]).take k)).length ((keep ++ [r]).drop k) →
    goD Γ_ref_Appended tab fn_ref_Appended 0 K (d + 1) ref_Appended_L0 (ref_Appended_S0 (k : Int) 0 r keep (allW ((keep ++ [r]).take k)) 0 ws fu [])
  | 0, k, hk, hk2, ha, hg => by
    have : k = keep.length + 1 := by omega
    subst this
    rw [List.take_of_length_le (by simp)] at ha hg ⊢
    rw [List.drop_of_length_le (by simp)] at hg
    exact hend 0 hg ha
  | d + 1, k, hk, hk2, ha, hg => by
    by_cases c : k = keep.length + 1
    · subst c
      rw [List.take_of_length_le (by simp)] at ha hg ⊢
      rw [List.drop_of_length_le (by simp)] at hg
      exact hend (d + 1) hg ha
    have hlen : (keep ++ [r]).length = keep.length + 1 := by simp
    have ht := take_step (l := keep ++ [r]) (k := k) (by omega) (Ty.dflt (.list .int))
    rw [drop_step (by omega) (Ty.dflt (.list .int))] at hg
    have hn := nth_snoc keep r k (Ty.dflt (.list .int)) (by omega)
    obtain ⟨x, hx⟩ : ∃ x, nth (keep ++ [r]) k (Ty.dflt (.list .int)) = x := ⟨_, rfl⟩
    rw [hx] at ht hg hn
    simp only [gather] at hg
    have ek : w64 ((k : Int) + 1) = ((k + 1 : Nat) : Int) := w64_succ (by omega)
    -- one round, whichever record it is
    have body : ((checkRec x ≠ 0 → K (.tup [.agg [dL [], dI 0], .one (dI (checkRec x))]) [])) ∧ (checkRec x = 0 →
        ((((len (allW ((keep ++ [r]).take k))) + (len ((w64 ((42240 : Int) + (((len x) : Nat) : Int))) :: []))) * 8) ≤ 140737488355328) ∧
        ((((len (cat (allW ((keep ++ [r]).take k)) ((w64 ((42240 : Int) + (((len x) : Nat) : Int))) :: []))) + (len x)) * 8) ≤ 140737488355328) ∧
        (br (lti (31 : Int) (((len (cat (cat (allW ((keep ++ [r]).take k)) ((w64 ((42240 : Int) + (((len x) : Nat) : Int))) :: [])) x)) : Nat) : Int))
           (K (.tup [.agg [dL [], dI (0 : Int)], .one (dI (8 : Int))]) [])
           (goD Γ_ref_Appended tab fn_ref_Appended 0 K (d + 1) ref_Appended_L0 (ref_Appended_S0 (w64 ((k : Int) + (1 : Int))) 0 r keep (cat (cat (allW ((keep ++ [r]).take k)) ((w64 ((42240 : Int) + (((len x) : Nat) : Int))) :: [])) x) 0 ws fu [])))) := by
      refine ⟨fun h1 => ?_, fun h1 => ?_⟩
      · rw [if_neg h1] at hg
        exact hbad _ h1 hg
      · rw [if_pos h1] at hg
        obtain ⟨r1, r2, r3⟩ := checkRec_ok h1
        have ew : w64 (42240 + (((len x) : Nat) : Int)) = 42240 + (x.length : Int) := w64_id (by simp only [len]; omega) (by simp only [len]; omega)
        rw [ew, ek]
        have e : cat (cat (allW ((keep ++ [r]).take k)) [42240 + (x.length : Int)]) x = allW ((keep ++ [r]).take (k + 1)) := by rw [ht, allW_snoc]; simp [cat, recW]
        have el : (allW ((keep ++ [r]).take (k + 1))).length = (allW ((keep ++ [r]).take k)).length + 1 + x.length := by rw [ht, allW_snoc, List.length_append, recW_len]; omega
        rw [e]
        refine ⟨by simp only [len, List.length_cons, List.length_nil]; omega, by simp only [len, cat, List.length_append, List.length_cons, List.length_nil]; omega, lt_s (fun h2 => ?_) (fun h2 => ?_)⟩
        · simp only [len] at h2
          rw [if_neg (by omega)] at hg
          exact hbad 8 (by decide) hg
        · simp only [len] at h2
          rw [if_pos (by omega)] at hg
          exact loop_ref_Appended ws r fu keep hl hs hr K hbad hend d (k + 1) (by omega) (by omega) (by omega) (by rw [hg, el])
    rw [ref_Appended_w0, ref_Appended_vc0 _ _ _ _ _ _ _ _ _ _ _ _ rfl _ rfl _ rfl _ rfl _ rfl _ rfl _ rfl _ rfl _ rfl _ rfl _ rfl _ rfl _ rfl _ rfl _ rfl _ rfl _ rfl _ rfl _ rfl _ rfl _ rfl, toNat_nat]
    refine br_t (lei_true.2 (by simp only [len]; omega)) (lt_s (fun h0 => ?_) (fun h0 => ?_))
    · simp only [len] at h0
      rw [if_pos (by omega)] at hn
      have hm : nth keep k (Ty.dflt (.list .int)) ∈ keep := by
        have : k < keep.length := by omega
        simp [nth, List.getD_eq_getElem?_getD, this]
      have hsm := List.all_eq_true.1 hs _ hm
      simp only [decide_eq_true_eq] at hsm
      rw [← hn] at hsm ⊢
      exact ⟨⟨by omega, by simp only [len]; omega⟩, hsm, ne_s body.1 body.2⟩
    · simp only [len] at h0
      rw [if_neg (by omega)] at hn
      rw [← hn] at hr body hbad hend ⊢
      exact ⟨hr, ne_s body.1 body.2⟩
set_option maxHeartbeats 4000000 in
theorem run_ref_Appended (ws : List Int) (fu : Int) (r : List Int) (keep : List (List Int)) (hp : checkLog ⟨ws, fu⟩ = 0 ∧ Sm r ∧ len keep * 24 ≤ 140737488351232 ∧ smR keep = true) (K : KK) (hK : K (.tup [.agg [dL (appendF ⟨ws, fu⟩ r keep).1.words, dI (appendF ⟨ws, fu⟩ r keep).1.fuel], .one (dI (appendF ⟨ws, fu⟩ r keep).2)]) []) : ∃ m, goD Γ_ref_Appended tab fn_ref_Appended 0 K m [.code (bodyOf fn_ref_Appended)] (initSt [.agg [dL ws, dI fu], .one (dL r), .one (dR keep)] []) := by
  obtain ⟨hc, hr, hk1, hk2⟩ := hp
  have hk3 : keep.length * 24 ≤ 140737488351232 := hk1
  unfold Sm at hr
  refine ⟨keep.length + 1 + 1 + 1, ?_⟩
  rw [ref_Appended_w, ref_Appended_vc _ _ _ _ _ _ _ rfl]
  unfold appendF appendE at hK
  rw [if_pos hc] at hK
  refine ⟨hr, ne_s (fun h2 => ?_) (fun h2 => ?_)⟩
  · rw [if_neg h2, if_neg h2] at hK; exact hK
  rw [if_pos h2] at hK
  obtain ⟨k1, k2, k3, k4⟩ := checkLog_ok hc
  obtain ⟨c1, c2, c3, c4⟩ := checkFlash_ok k1
  obtain ⟨c5, c6⟩ := okLen_le c1
  simp only at k2 k3 k4 c2 c3 c4 c5 c6
  obtain ⟨r1, r2, r3⟩ := checkRec_ok h2
  have e0 : allW ((keep ++ [r]).take 0) = [] := by simp [allW]
  have l0 : (allW ((keep ++ [r]).take 0)).length = 0 := by rw [e0]; rfl
  refine loop_ref_Appended ws r fu keep (by omega) hk2 hr K (fun e he hg => ?_) (fun M hg hal => ?_) (keep.length + 1) 0 (by omega) (by omega) (by omega) (by rw [l0, List.drop_zero])
  · rw [hg, if_neg he] at hK; exact hK
  obtain ⟨rs, hrs⟩ : ∃ rs, keep ++ [r] = rs := ⟨_, rfl⟩
  simp only [hrs] at hg hal hK ⊢
  rw [hg, if_pos rfl] at hK
  rw [ref_Appended_w0, ref_Appended_vc0 _ _ _ _ _ _ _ _ _ _ _ _ rfl _ rfl _ rfl _ rfl _ rfl _ rfl _ rfl _ rfl _ rfl _ rfl _ rfl _ rfl _ rfl _ rfl _ rfl _ rfl _ rfl _ rfl _ rfl _ rfl _ rfl]
  unfold appendCh at hK
  simp only [hrs] at hK
  have hls := liveS_le ws
  have hgr := genOf_range c4 (liveS ws)
  have hg1 : liveG ws = genOf ws (liveS ws) := rfl
  obtain ⟨s, hs⟩ : ∃ s, liveS ws = s := ⟨_, rfl⟩
  rw [hs] at hK hls ⊢
  obtain ⟨g, hgg⟩ : ∃ g, liveG ws = g := ⟨_, rfl⟩
  rw [hgg] at hK hg1 k3 k4 ⊢
  have ew : w64 (42240 + (((len r) : Nat) : Int)) = 42240 + (r.length : Int) := w64_id (by simp only [len]; omega) (by simp only [len]; omega)
  rw [ew, w64_id (n := 32 * (s : Int)) (by omega) (by omega), w64_id (n := 32 * (s : Int) + 32) (by omega) (by omega), w64_id (n := 1 - (s : Int)) (by omega) (by omega), w64_id (n := 32 * (1 - (s : Int))) (by omega) (by omega), w64_id (n := 32 * (1 - (s : Int)) + 1) (by omega) (by omega), w64_id (n := g + 1) (by omega) (by omega)]
  have ho : 1 - (s : Int) = ((1 - s : Nat) : Int) := by omega
  rw [ho]
  have ej : joinCh [wipeCh ((1 - s : Nat) : Int), burnCh (32 * ((1 - s : Nat) : Int) + 1) (allW rs), burnCh (32 * ((1 - s : Nat) : Int)) [g + 1]] = thereCh (1 - s) rs (g + 1) := by simp [joinCh, thereCh]
  rw [ej]
  have lth : (thereCh (1 - s) rs (g + 1)).length ≤ 64 := by
    unfold thereCh wipeCh
    rw [List.length_append, List.length_append, wipeFrom_len, burnCh_len, burnCh_len, List.length_singleton]; omega
  have inth : inPlaces ws.length (thereCh (1 - s) rs (g + 1)) = true := by
    have a1 := wipe_in ws.length 32 (32 * ((1 - s : Nat) : Int)) (by omega) (by omega)
    have a2 := burn_in ws.length (allW rs) (32 * ((1 - s : Nat) : Int) + 1) (by omega) (by omega)
    have a3 := burn_in ws.length [g + 1] (32 * ((1 - s : Nat) : Int)) (by omega) (by simp only [List.length_cons, List.length_nil]; omega)
    unfold inPlaces thereCh wipeCh at *
    rw [List.all_append, List.all_append, a1, a2, a3]; rfl
  refine br_f (lei_false.2 (by simp only [len]; omega)) ⟨k2, ⟨k2, c6, c4⟩, ?_⟩
  have there := fun (hK : K (.tup [.agg [dL (power (doCh ⟨ws, fu⟩ (thereCh (1 - s) rs (g + 1)))).1.words, dI (power (doCh ⟨ws, fu⟩ (thereCh (1 - s) rs (g + 1)))).1.fuel], .one (dI (power (doCh ⟨ws, fu⟩ (thereCh (1 - s) rs (g + 1)))).2)]) []) =>
    show (((0 : Int) ≤ ((1 - s : Nat) : Int)) ∧ (((1 - s : Nat) : Int) ≤ (10 : Int))) ∧ ((((0 : Int) ≤ (32 * ((1 - s : Nat) : Int) + 1)) ∧ (((32 * ((1 - s : Nat) : Int) + 1) ≤ (1000 : Int)) ∧ ((len (allW rs)) ≤ 1000))) ∧
      ((((0 : Int) ≤ (32 * ((1 - s : Nat) : Int))) ∧ (((32 * ((1 - s : Nat) : Int)) ≤ (1000 : Int)) ∧ ((len [g + 1]) ≤ 1000))) ∧
      ((((List.length [wipeCh ((1 - s : Nat) : Int), burnCh (32 * ((1 - s : Nat) : Int) + 1) (allW rs), burnCh (32 * ((1 - s : Nat) : Int)) [g + 1]]) ≤ 10) ∧ ((List.length (thereCh (1 - s) rs (g + 1))) ≤ 1000)) ∧
      ((((len ws) ≤ 192) ∧ (((-(1 : Int)) ≤ fu) ∧ ((fu ≤ (100000 : Int)) ∧ (((len (thereCh (1 - s) rs (g + 1))) ≤ 1000) ∧ (inPlaces ws.length (thereCh (1 - s) rs (g + 1)) = true))))) ∧
      (K (.tup [.agg [dL (doCh ⟨ws, fu⟩ (thereCh (1 - s) rs (g + 1))).1.words, dI (doCh ⟨ws, fu⟩ (thereCh (1 - s) rs (g + 1))).1.fuel], .one (dI (powerE (doCh ⟨ws, fu⟩ (thereCh (1 - s) rs (g + 1))).2))]) []))))) from
    ⟨by omega, ⟨by omega, by omega, by simp only [len]; omega⟩, ⟨by omega, by omega, by simp [len]⟩, ⟨by simp only [List.length_cons, List.length_nil]; omega, by omega⟩, ⟨c6, c2, c3, by simp only [len]; omega, inth⟩, hK⟩
  cases hsc : (scanS ws s).2 with
  | none =>
    rw [hsc] at hK
    simp only [room, Bool.false_eq_true, if_false] at hK
    simp only [nextI]
    refine br_f (lei_false.2 (by omega)) (eq_s (fun h5 => ?_) (fun h5 => ?_))
    · rw [if_pos h5] at hK; exact hK
    · rw [if_neg h5] at hK
      exact there hK
  | some a =>
    have ha := scanS_le (by omega) hsc
    rw [hsc] at hK
    simp only [nextI]
    rw [w64_id (n := 32 * (s : Int) + 1 + a + 1) (by omega) (by omega), w64_id (n := 32 * (s : Int) + 1 + a + 1 + (((len r) : Nat) : Int)) (by simp only [len]; omega) (by simp only [len]; omega)]
    refine br_t (lei_true.2 (by omega)) (br_split (fun h5 => ?_) (fun h5 => ?_))
    · rw [lei_true] at h5
      simp only [len] at h5
      rw [if_pos (show room r.length (some a) = true from by simp only [room, decide_eq_true_eq]; omega)] at hK
      simp only [Option.getD_some, hereCh] at hK
      rw [show ((32 * s + 1 + a : Nat) : Int) = 32 * (s : Int) + 1 + a by omega] at hK
      have a1 := burn_in ws.length r (32 * (s : Int) + 1 + a + 1) (by omega) (by omega)
      have a2 := burn_in ws.length [42240 + (r.length : Int)] (32 * (s : Int) + 1 + a) (by omega) (by simp only [List.length_cons, List.length_nil]; omega)
      refine ⟨⟨by omega, by omega, by simp only [len]; omega⟩, ⟨by omega, by omega, by simp [len]⟩, by simp only [len, burnCh_len, List.length_cons, List.length_nil]; omega, ⟨c6, c2, c3, by simp only [len, cat, List.length_append, burnCh_len, List.length_cons, List.length_nil]; omega, ?_⟩, hK⟩
      unfold inPlaces at *
      rw [show cat (burnCh (32 * (s : Int) + 1 + a + 1) r) (burnCh (32 * (s : Int) + 1 + a) [42240 + (r.length : Int)]) = burnCh (32 * (s : Int) + 1 + a + 1) r ++ burnCh (32 * (s : Int) + 1 + a) [42240 + (r.length : Int)] from rfl, List.all_append, a1, a2]; rfl
    · rw [lei_false] at h5
      simp only [len] at h5
      rw [if_neg (show ¬ room r.length (some a) = true from by simp only [room, decide_eq_true_eq]; omega)] at hK
      refine eq_s (fun h6 => ?_) (fun h6 => ?_)
      · rw [if_pos h6] at hK; exact hK
      · rw [if_neg h6] at hK
        exact there hK
theorem sound_ref_Appended : SoundC Tryz.prog tab n_ref_Appended c_ref_Appended := soundC_of ok_ref_Appended hf_ref_Appended hB_ref_Appended (by
  intro vs bs p v bs' h hp
  unfold c_ref_Appended at h
  split at h
  · cases h
    exact ⟨by kernel_rfl, rfl, .inl (run_ref_Appended _ _ _ _ hp.1 _ ⟨rfl, rfl⟩)⟩
  · cases h)

def c_ref_hands_record : Contract := fun vs bs => match vs, bs with
  | [.one (.ptr 0 0), .one (.dat (.list .int) r)], [.box [.dat (.list .int) ws, .dat .int fu, .dat .bool up, .dat .int un, .dat .int ug, .dat .bool hs]] => some (some (checkLog ⟨ws, fu⟩ = 0 ∧ Sm r), .tup [], [.box [.dat (.list .int) (noteU ⟨⟨ws, fu⟩, up, un, ug⟩ r).1.f.words, .dat .int (noteU ⟨⟨ws, fu⟩, up, un, ug⟩ r).1.f.fuel, .dat .bool (noteU ⟨⟨ws, fu⟩, up, un, ug⟩ r).1.up, .dat .int (noteU ⟨⟨ws, fu⟩, up, un, ug⟩ r).1.n, .dat .int (noteU ⟨⟨ws, fu⟩, up, un, ug⟩ r).1.got, .dat .bool (stopS hs (noteUE ⟨⟨ws, fu⟩, up, un, ug⟩ r))]])
  | _, _ => none
def Γ_ref_hands_record : Ctx := [(n_ref_UnitStateOf, c_ref_UnitStateOf), (n_ref_Appended, c_ref_Appended), (n_ref_hands_flash, c_ref_hands_flash)]
theorem ok_ref_hands_record : Ok Tryz.prog tab Γ_ref_hands_record := (((ok_nil.consC hf_ref_hands_flash hB_ref_hands_flash sound_ref_hands_flash).consC hf_ref_Appended hB_ref_Appended sound_ref_Appended).consC hf_ref_UnitStateOf hB_ref_UnitStateOf sound_ref_UnitStateOf)
theorem ref_hands_record_vc (ws : List Int) (fu : Int) (up : Bool) (un : Int) (ug : Int) (hs : Bool) (r : List Int) (rec : RK) (K : KK) v0 (hv0 : v0 = (checkLog ⟨ws, fu⟩)) v1 (hv1 : v1 = (ofU ⟨ws, fu⟩)) v2 (hv2 : v2 = (smR (cat (((1 : Int) :: (v1.slot :: (v1.by_ :: []))) :: []) (((2 : Int) :: (v1.ready :: [])) :: [])))) v3 (hv3 : v3 = (appendF ⟨ws, fu⟩ r (cat (((1 : Int) :: (v1.slot :: (v1.by_ :: []))) :: []) (((2 : Int) :: (v1.ready :: [])) :: [])))) v4 (hv4 : v4 = (changeU ⟨⟨ws, fu⟩, up, un, ug⟩ ⟨v3.fst.words, v3.fst.fuel⟩ v3.snd)) v5 (hv5 : v5 = (stopS hs v3.snd)) v6 (hv6 : v6 = (smR (((1 : Int) :: (v1.slot :: (v1.by_ :: []))) :: []))) v7 (hv7 : v7 = (appendF ⟨ws, fu⟩ r (((1 : Int) :: (v1.slot :: (v1.by_ :: []))) :: []))) v8 (hv8 : v8 = (changeU ⟨⟨ws, fu⟩, up, un, ug⟩ ⟨v7.fst.words, v7.fst.fuel⟩ v7.snd)) v9 (hv9 : v9 = (stopS hs v7.snd)) : segD Γ_ref_hands_record tab fn_ref_hands_record 1 K rec [.code (bodyOf fn_ref_hands_record)] (initSt [.one (.ptr 0 0), .one (dL r)] [.box [dL ws, dI fu, dB up, dI un, dI ug, dB hs]]) = (
 (v0 = (0 : Int)) ∧
 (br (!(eqi v1.ready (0 : Int)))
 (((((len (((1 : Int) :: (v1.slot :: (v1.by_ :: []))) :: [])) + (len (((2 : Int) :: (v1.ready :: [])) :: []))) * 24) ≤ 140737488355328) ∧
 (((v0 = (0 : Int)) ∧ (((List.length r) ≤ 140737488355328) ∧ ((((len (cat (((1 : Int) :: (v1.slot :: (v1.by_ :: []))) :: []) (((2 : Int) :: (v1.ready :: [])) :: []))) * 24) ≤ 140737488351232) ∧ (v2 = true)))) ∧
 (K (.tup []) [.box [dL v4.fst.f.words, dI v4.fst.f.fuel, dB v4.fst.up, dI v4.fst.n, dI v4.fst.got, dB v5]])))
 (((v0 = (0 : Int)) ∧ (((List.length r) ≤ 140737488355328) ∧ ((((len (((1 : Int) :: (v1.slot :: (v1.by_ :: []))) :: [])) * 24) ≤ 140737488351232) ∧ (v6 = true)))) ∧
 (K (.tup []) [.box [dL v8.fst.f.words, dI v8.fst.f.fuel, dB v8.fst.up, dI v8.fst.n, dI v8.fst.got, dB v9]])))) := by subst_vars; kernel_rfl
theorem ref_hands_record_w (m : Nat) (K : KK) (st : St) : goD Γ_ref_hands_record tab fn_ref_hands_record 1 K (m + 1) [.code (bodyOf fn_ref_hands_record)] st = segD Γ_ref_hands_record tab fn_ref_hands_record 1 K (goD Γ_ref_hands_record tab fn_ref_hands_record 1 K m) [.code (bodyOf fn_ref_hands_record)] st := rfl

set_option maxHeartbeats 4000000 in
theorem run_ref_hands_record (ws : List Int) (fu : Int) (up : Bool) (un ug : Int) (hs : Bool) (r : List Int) (hp : checkLog ⟨ws, fu⟩ = 0 ∧ Sm r) (K : KK) (hK : K (.tup []) [.box [dL (noteU ⟨⟨ws, fu⟩, up, un, ug⟩ r).1.f.words, dI (noteU ⟨⟨ws, fu⟩, up, un, ug⟩ r).1.f.fuel, dB (noteU ⟨⟨ws, fu⟩, up, un, ug⟩ r).1.up, dI (noteU ⟨⟨ws, fu⟩, up, un, ug⟩ r).1.n, dI (noteU ⟨⟨ws, fu⟩, up, un, ug⟩ r).1.got, dB (stopS hs (noteUE ⟨⟨ws, fu⟩, up, un, ug⟩ r))]]) : ∃ m, goD Γ_ref_hands_record tab fn_ref_hands_record 1 K m [.code (bodyOf fn_ref_hands_record)] (initSt [.one (.ptr 0 0), .one (dL r)] [.box [dL ws, dI fu, dB up, dI un, dI ug, dB hs]]) := by
  refine ⟨1, ?_⟩
  rw [ref_hands_record_w, ref_hands_record_vc _ _ _ _ _ _ _ _ _ _ rfl _ rfl _ rfl _ rfl _ rfl _ rfl _ rfl _ rfl _ rfl _ rfl]
  obtain ⟨p1, p2⟩ := hp
  obtain ⟨⟨s1, s2⟩, ⟨b1, b2⟩, r1, r2⟩ := ofU_ok ⟨ws, fu⟩
  unfold noteU noteUE keepS at hK
  simp only at hK
  refine ⟨p1, ne_s (fun h => ⟨by simp [len], ⟨p1, p2, by simp [len, cat], rfl⟩, ?_⟩) (fun h => ⟨⟨p1, p2, by simp [len], rfl⟩, ?_⟩)⟩
  · rw [if_pos (by omega)] at hK; exact hK
  · rw [if_neg (by omega)] at hK; exact hK
theorem sound_ref_hands_record : SoundC Tryz.prog tab n_ref_hands_record c_ref_hands_record := soundC_of ok_ref_hands_record hf_ref_hands_record hB_ref_hands_record (by
  intro vs bs p v bs' h hp
  unfold c_ref_hands_record at h
  split at h
  · cases h
    exact ⟨by kernel_rfl, rfl, .inl (run_ref_hands_record _ _ _ _ _ _ _ hp.1 _ ⟨rfl, rfl⟩)⟩
  · cases h)
end Go.Proofs.YtlbppjmekiemiacGreatDoor
