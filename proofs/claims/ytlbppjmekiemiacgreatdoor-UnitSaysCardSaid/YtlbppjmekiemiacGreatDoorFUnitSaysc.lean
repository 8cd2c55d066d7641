/- What the functions of UnitSays compute (part 3 of 3). No condition. -/
import Derived.Test.YtlbppjmekiemiacGreatDoorFUnitSaysb
import Derived.KernelRfl
namespace Go.Proofs.YtlbppjmekiemiacGreatDoor
open Vm
def c_ref_UnitHears : Contract := fun vs bs => match vs, bs with
  | [.agg [.dat (.list .str) b], .agg [.dat (.list .int) ws, .dat .int fu, .dat .bool up, .dat .int un, .dat .int ug], .agg [.dat .int mk, .dat .int mu, .dat .int mn, .dat .int ma, .dat .int mi, .dat (.list .int) mw, .dat .bool my]], [] => some (some (checkBook b = 0 ∧ checkU ⟨⟨ws, fu⟩, up, un, ug⟩ = 0 ∧ checkM ⟨mk, mu, mn, ma, mi, mw, my⟩ = 0), .tup [.agg [.dat (.list .int) (hearsU b ⟨⟨ws, fu⟩, up, un, ug⟩ ⟨mk, mu, mn, ma, mi, mw, my⟩).1.f.words, .dat .int (hearsU b ⟨⟨ws, fu⟩, up, un, ug⟩ ⟨mk, mu, mn, ma, mi, mw, my⟩).1.f.fuel, .dat .bool (hearsU b ⟨⟨ws, fu⟩, up, un, ug⟩ ⟨mk, mu, mn, ma, mi, mw, my⟩).1.up, .dat .int (hearsU b ⟨⟨ws, fu⟩, up, un, ug⟩ ⟨mk, mu, mn, ma, mi, mw, my⟩).1.n, .dat .int (hearsU b ⟨⟨ws, fu⟩, up, un, ug⟩ ⟨mk, mu, mn, ma, mi, mw, my⟩).1.got], .one (.dat (.list .message) (hearsU b ⟨⟨ws, fu⟩, up, un, ug⟩ ⟨mk, mu, mn, ma, mi, mw, my⟩).2)], [])
  | _, _ => none
def Γ_ref_UnitHears : Ctx := [(n_ref_OwnFlash_d, c_ref_OwnFlash_d), (n_ref_UnitStateOf, c_ref_UnitStateOf), (n_ref_UnitHears_1, c_ref_UnitHears_1), (n_ref_hands_flash, c_ref_hands_flash), (n_ref_Cleared, c_ref_Cleared), (n_ref_Filled, c_ref_Filled), (n_ref_SealedIn, c_ref_SealedIn), (n_ref_ImageText, c_ref_ImageText), (n_ref_NameOf, c_ref_NameOf), (n_ref_ImageOf, c_ref_ImageOf), (n_slices_Equal_Lint, c_slices_Equal_Lint), (n_ref_hands_record, c_ref_hands_record)]
theorem ok_ref_UnitHears : Ok Tryz.prog tab Γ_ref_UnitHears := ((((((((((((ok_nil.consC hf_ref_hands_record hB_ref_hands_record sound_ref_hands_record).consC hf_slices_Equal_Lint hB_slices_Equal_Lint sound_slices_Equal_Lint).consC hf_ref_ImageOf hB_ref_ImageOf sound_ref_ImageOf).consC hf_ref_NameOf hB_ref_NameOf sound_ref_NameOf).consC hf_ref_ImageText hB_ref_ImageText sound_ref_ImageText).consC hf_ref_SealedIn hB_ref_SealedIn sound_ref_SealedIn).consC hf_ref_Filled hB_ref_Filled sound_ref_Filled).consC hf_ref_Cleared hB_ref_Cleared sound_ref_Cleared).consC hf_ref_hands_flash hB_ref_hands_flash sound_ref_hands_flash).consC hf_ref_UnitHears_1 hB_ref_UnitHears_1 sound_ref_UnitHears_1).consC hf_ref_UnitStateOf hB_ref_UnitStateOf sound_ref_UnitStateOf).consC hf_ref_OwnFlash_d hB_ref_OwnFlash_d sound_ref_OwnFlash_d)
theorem ref_UnitHears_vc (b : List (List UInt8)) (ws : List Int) (fu : Int) (up : Bool) (un : Int) (ug : Int) (mk : Int) (mu : Int) (mn : Int) (ma : Int) (mi : Int) (mw : List Int) (my : Bool) (rec : RK) (K : KK) v0 (hv0 : v0 = (checkLog ⟨ws, fu⟩)) v1 (hv1 : v1 = (ofU ⟨ws, fu⟩)) v2 (hv2 : v2 = (checkSlot ⟨ws, fu⟩ (w64 ((1 : Int) - v1.slot)))) v3 (hv3 : v3 = (clearS ⟨ws, fu⟩ (w64 ((1 : Int) - v1.slot)))) v4 (hv4 : v4 = (stopS false v3.snd)) v5 (hv5 : v5 = (changeU ⟨⟨ws, fu⟩, up, un, ug⟩ ⟨v3.fst.words, v3.fst.fuel⟩ v3.snd)) v6 (hv6 : v6 = (checkSlot ⟨v5.fst.f.words, v5.fst.f.fuel⟩ (w64 ((1 : Int) - v1.slot)))) v7 (hv7 : v7 = (fillS ⟨v5.fst.f.words, v5.fst.f.fuel⟩ (w64 ((1 : Int) - v1.slot)) ma mw)) v8 (hv8 : v8 = (stopS v4 v7.snd)) v9 (hv9 : v9 = (changeU ⟨⟨v5.fst.f.words, v5.fst.f.fuel⟩, v5.fst.up, mn, (0 : Int)⟩ ⟨v7.fst.words, v7.fst.fuel⟩ v7.snd)) v10 (hv10 : v10 = (changeU ⟨⟨v5.fst.f.words, v5.fst.f.fuel⟩, v5.fst.up, v5.fst.n, v5.fst.got⟩ ⟨v7.fst.words, v7.fst.fuel⟩ v7.snd)) v11 (hv11 : v11 = (fillS ⟨ws, fu⟩ (w64 ((1 : Int) - v1.slot)) ma mw)) v12 (hv12 : v12 = (stopS false v11.snd)) v13 (hv13 : v13 = (changeU ⟨⟨ws, fu⟩, up, un, ug⟩ ⟨v11.fst.words, v11.fst.fuel⟩ v11.snd)) v14 (hv14 : v14 = (answerS false mu mn (6 : Int) false)) v15 (hv15 : v15 = (answerS false mu mn (3 : Int) (eqi v1.ready mn))) v16 (hv16 : v16 = (answerS false mu mn (3 : Int) false)) v17 (hv17 : v17 = (checkImage (slc ws (Int.toNat (w64 ((w64 ((64 : Int) + (w64 ((64 : Int) * (w64 ((1 : Int) - v1.slot)))))) + (4 : Int)))) (Int.toNat (w64 ((w64 ((w64 ((64 : Int) + (w64 ((64 : Int) * (w64 ((1 : Int) - v1.slot)))))) + (4 : Int))) + ma)))))) v18 (hv18 : v18 = (imageText (slc ws (Int.toNat (w64 ((w64 ((64 : Int) + (w64 ((64 : Int) * (w64 ((1 : Int) - v1.slot)))))) + (4 : Int)))) (Int.toNat (w64 ((w64 ((w64 ((64 : Int) + (w64 ((64 : Int) * (w64 ((1 : Int) - v1.slot)))))) + (4 : Int))) + ma)))))) v19 (hv19 : v19 = (indexS v18 b)) v20 (hv20 : v20 = (sealS ⟨ws, fu⟩ (w64 ((1 : Int) - v1.slot)) ma mi)) v21 (hv21 : v21 = (stopS false v20.snd)) v22 (hv22 : v22 = (changeU ⟨⟨ws, fu⟩, up, un, ug⟩ ⟨v20.fst.words, v20.fst.fuel⟩ v20.snd)) v23 (hv23 : v23 = (checkSlot ⟨v22.fst.f.words, v22.fst.f.fuel⟩ (w64 ((1 : Int) - v1.slot)))) v24 (hv24 : v24 = (imageR v22.fst.f.words (w64 ((1 : Int) - v1.slot)))) v25 (hv25 : v25 = (answerS v21 mu mn (3 : Int) false)) v26 (hv26 : v26 = (eqIs v24.fst (slc ws (Int.toNat (w64 ((w64 ((64 : Int) + (w64 ((64 : Int) * (w64 ((1 : Int) - v1.slot)))))) + (4 : Int)))) (Int.toNat (w64 ((w64 ((w64 ((64 : Int) + (w64 ((64 : Int) * (w64 ((1 : Int) - v1.slot)))))) + (4 : Int))) + ma)))))) v27 (hv27 : v27 = (checkLog ⟨v22.fst.f.words, v22.fst.f.fuel⟩)) v28 (hv28 : v28 = (noteU ⟨⟨v22.fst.f.words, v22.fst.f.fuel⟩, v22.fst.up, (0 : Int), (0 : Int)⟩ ((2 : Int) :: (mn :: [])))) v29 (hv29 : v29 = (noteUE ⟨⟨v22.fst.f.words, v22.fst.f.fuel⟩, v22.fst.up, (0 : Int), (0 : Int)⟩ ((2 : Int) :: (mn :: [])))) v30 (hv30 : v30 = (stopS v21 v29)) v31 (hv31 : v31 = (answerS v30 mu mn (3 : Int) true)) v32 (hv32 : v32 = (answerS v21 mu mn (3 : Int) true)) v33 (hv33 : v33 = (noteU ⟨⟨ws, fu⟩, up, un, ug⟩ ((1 : Int) :: ((w64 ((1 : Int) - v1.slot)) :: (mn :: []))))) v34 (hv34 : v34 = (noteUE ⟨⟨ws, fu⟩, up, un, ug⟩ ((1 : Int) :: ((w64 ((1 : Int) - v1.slot)) :: (mn :: []))))) v35 (hv35 : v35 = (stopS false v34)) v36 (hv36 : v36 = (answerS v35 mu mn (6 : Int) false)) v37 (hv37 : v37 = (noteUE ⟨⟨ws, fu⟩, up, un, ug⟩ ((3 : Int) :: (mn :: [])))) v38 (hv38 : v38 = (stopS false v37)) v39 (hv39 : v39 = (noteU ⟨⟨ws, fu⟩, up, un, ug⟩ ((3 : Int) :: (mn :: [])))) v40 (hv40 : v40 = (answerS v38 mu mn (6 : Int) false)) v42 (hv42 : v42 = (br (eqi un mn)
 (br (eqi ug ma)
 (br (lei (w64 (ma + (((len mw) : Nat) : Int))) (40 : Int))
 (((v2 = (0 : Int)) ∧ ((List.length mw) ≤ 140737488355328)) ∧
 (br (!v12)
 (K (.tup [.agg [dL v13.fst.f.words, dI v13.fst.f.fuel, dB v13.fst.up, dI v13.fst.n, dI (w64 (ma + (((len mw) : Nat) : Int)))], .one (dM [])]) [])
 (K (.tup [.agg [dL v13.fst.f.words, dI v13.fst.f.fuel, dB v13.fst.up, dI v13.fst.n, dI v13.fst.got], .one (dM [])]) [])))
 (K (.tup [.agg [dL ws, dI fu, dB up, dI un, dI ug], .one (dM [])]) []))
 (K (.tup [.agg [dL ws, dI fu, dB up, dI un, dI ug], .one (dM [])]) []))
 (K (.tup [.agg [dL ws, dI fu, dB up, dI un, dI ug], .one (dM [])]) []))) v43 (hv43 : v43 = (K (.tup [.agg [dL v39.fst.f.words, dI v39.fst.f.fuel, dB v39.fst.up, dI v39.fst.n, dI v39.fst.got], .one (dM v40)]) [])) v44 (hv44 : v44 = (K (.tup [.agg [dL v22.fst.f.words, dI v22.fst.f.fuel, dB v22.fst.up, dI (0 : Int), dI (0 : Int)], .one (dM v25)]) [])) v45 (hv45 : v45 = (K (.tup [.agg [dL ws, dI fu, dB up, dI un, dI ug], .one (dM v16)]) [])) v46 (hv46 : v46 = (K (.tup [.agg [dL ws, dI fu, dB up, dI un, dI ug], .one (dM v14)]) [])) v47 (hv47 : v47 = (K (.tup [.agg [dL ws, dI fu, dB up, dI un, dI ug], .one (dM [])]) [])) v48 (hv48 : v48 = (K (.tup [.agg [dL v5.fst.f.words, dI v5.fst.f.fuel, dB v5.fst.up, dI v5.fst.n, dI v5.fst.got], .one (dM [])]) [])) v49 (hv49 : v49 = (K (.tup [.agg [dL v5.fst.f.words, dI v5.fst.f.fuel, dB v5.fst.up, dI mn, dI (0 : Int)], .one (dM [])]) [])) v41 (hv41 : v41 = (br (!v4)
 (br (!v4)
 (br (eqi mn mn)
 (br (eqi (0 : Int) ma)
 (br (lei (w64 (ma + (((len mw) : Nat) : Int))) (40 : Int))
 (((v6 = (0 : Int)) ∧ ((List.length mw) ≤ 140737488355328)) ∧
 (br (!v8)
 (K (.tup [.agg [dL v9.fst.f.words, dI v9.fst.f.fuel, dB v9.fst.up, dI v9.fst.n, dI (w64 (ma + (((len mw) : Nat) : Int)))], .one (dM [])]) [])
 (K (.tup [.agg [dL v9.fst.f.words, dI v9.fst.f.fuel, dB v9.fst.up, dI v9.fst.n, dI v9.fst.got], .one (dM [])]) [])))
 v49)
 v49)
 v49)
 v49)
 (br (!v4)
 (br (eqi v5.fst.n mn)
 (br (eqi v5.fst.got ma)
 (br (lei (w64 (ma + (((len mw) : Nat) : Int))) (40 : Int))
 (((v6 = (0 : Int)) ∧ ((List.length mw) ≤ 140737488355328)) ∧
 (br (!v8)
 (K (.tup [.agg [dL v10.fst.f.words, dI v10.fst.f.fuel, dB v10.fst.up, dI v10.fst.n, dI (w64 (ma + (((len mw) : Nat) : Int)))], .one (dM [])]) [])
 (K (.tup [.agg [dL v10.fst.f.words, dI v10.fst.f.fuel, dB v10.fst.up, dI v10.fst.n, dI v10.fst.got], .one (dM [])]) [])))
 v48)
 v48)
 v48)
 v48))) : segD Γ_ref_UnitHears tab fn_ref_UnitHears 0 K rec [.code (bodyOf fn_ref_UnitHears)] (initSt [.agg [.dat (Ty.list Ty.str) b], .agg [dL ws, dI fu, dB up, dI un, dI ug], .agg [dI mk, dI mu, dI mn, dI ma, dI mi, dL mw, dB my]] []) = (
 (((len ws) * 8) ≤ 140737488355328) ∧
 ((v0 = (0 : Int)) ∧
 (br (!up)
 v47
 (br (eqi mk (1 : Int))
 (br (!(eqi v1.ready (0 : Int)))
 v47
 (br (lei mn v1.by_)
 v47
 (br (eqi ma (0 : Int))
 (br (eqi un mn)
 (br (!(lti (0 : Int) ug))
 ((v2 = (0 : Int)) ∧
 v41)
 v42)
 ((v2 = (0 : Int)) ∧
 v41))
 v42)))
 (br (eqi mk (2 : Int))
 (br (lei mn v1.by_)
 v46
 (br (!(eqi v1.ready (0 : Int)))
 (K (.tup [.agg [dL ws, dI fu, dB up, dI un, dI ug], .one (dM v15)]) [])
 ((((0 : Int) ≤ (w64 ((w64 ((64 : Int) + (w64 ((64 : Int) * (w64 ((1 : Int) - v1.slot)))))) + (4 : Int)))) ∧ (((w64 ((w64 ((64 : Int) + (w64 ((64 : Int) * (w64 ((1 : Int) - v1.slot)))))) + (4 : Int))) ≤ (w64 ((w64 ((w64 ((64 : Int) + (w64 ((64 : Int) * (w64 ((1 : Int) - v1.slot)))))) + (4 : Int))) + ma))) ∧ ((w64 ((w64 ((w64 ((64 : Int) + (w64 ((64 : Int) * (w64 ((1 : Int) - v1.slot)))))) + (4 : Int))) + ma)) ≤ (((len ws) : Nat) : Int)))) ∧
 (br (!(eqi un mn))
 v45
 (br (!(eqi ug ma))
 v45
 (br (eqi (((len (slc ws (Int.toNat (w64 ((w64 ((64 : Int) + (w64 ((64 : Int) * (w64 ((1 : Int) - v1.slot)))))) + (4 : Int)))) (Int.toNat (w64 ((w64 ((w64 ((64 : Int) + (w64 ((64 : Int) * (w64 ((1 : Int) - v1.slot)))))) + (4 : Int))) + ma))))) : Nat) : Int) (0 : Int))
 v45
 (br (eqi mi (0 : Int))
 v45
 ((v17 = (0 : Int)) ∧
 (((List.length b) ≤ 60) ∧
 (br (!(eqi (v19 + (1 : Int)) mi))
 v45
 ((v2 = (0 : Int)) ∧
 (br (!v21)
 ((v23 = (0 : Int)) ∧
 (br (!(eqi v24.snd mi))
 v44
 (((List.length v24.fst) ≤ 140737488355328) ∧
 (br (!v26)
 v44
 (((v27 = (0 : Int)) ∧ ((List.length ((2 : Int) :: (mn :: []))) ≤ 140737488355328)) ∧
 (K (.tup [.agg [dL v28.fst.f.words, dI v28.fst.f.fuel, dB v28.fst.up, dI v28.fst.n, dI v28.fst.got], .one (dM v31)]) []))))))
 (K (.tup [.agg [dL v22.fst.f.words, dI v22.fst.f.fuel, dB v22.fst.up, dI v22.fst.n, dI v22.fst.got], .one (dM v32)]) [])))))))))))))
 (br (eqi mk (4 : Int))
 (br (!(eqi v1.by_ mn))
 (br (!(eqi v1.ready mn))
 v47
 (((v0 = (0 : Int)) ∧ ((List.length ((1 : Int) :: ((w64 ((1 : Int) - v1.slot)) :: (mn :: [])))) ≤ 140737488355328)) ∧
 (K (.tup [.agg [dL v33.fst.f.words, dI v33.fst.f.fuel, dB v33.fst.up, dI v33.fst.n, dI v33.fst.got], .one (dM v36)]) [])))
 v46)
 (br (eqi mk (5 : Int))
 (br (lei mn v1.by_)
 v47
 (br (eqi v1.ready mn)
 (((v0 = (0 : Int)) ∧ ((List.length ((3 : Int) :: (mn :: []))) ≤ 140737488355328)) ∧
 (br (!v38)
 (br (eqi v39.fst.n mn)
 (K (.tup [.agg [dL v39.fst.f.words, dI v39.fst.f.fuel, dB v39.fst.up, dI (0 : Int), dI (0 : Int)], .one (dM v40)]) [])
 v43)
 v43))
 (br (eqi un mn)
 (K (.tup [.agg [dL ws, dI fu, dB up, dI (0 : Int), dI (0 : Int)], .one (dM v14)]) [])
 v46)))
 v47))))))) := by subst_vars; kernel_rfl
theorem ref_UnitHears_w (m : Nat) (K : KK) (st : St) : goD Γ_ref_UnitHears tab fn_ref_UnitHears 0 K (m + 1) [.code (bodyOf fn_ref_UnitHears)] st = segD Γ_ref_UnitHears tab fn_ref_UnitHears 0 K (goD Γ_ref_UnitHears tab fn_ref_UnitHears 0 K m) [.code (bodyOf fn_ref_UnitHears)] st := rfl

set_option maxHeartbeats 4000000 in
theorem run_ref_UnitHears (b : List (List UInt8)) (ws : List Int) (fu : Int) (up : Bool) (un ug : Int)(mk mu mn ma mi : Int) (mw : List Int) (my : Bool) (hp : checkBook b = 0 ∧ checkU ⟨⟨ws, fu⟩, up, un, ug⟩ = 0 ∧ checkM ⟨mk, mu, mn, ma, mi, mw, my⟩ = 0) (K : KK) (hK : K (.tup [.agg [dL (hearsU b ⟨⟨ws, fu⟩, up, un, ug⟩ ⟨mk, mu, mn, ma, mi, mw, my⟩).1.f.words, dI (hearsU b ⟨⟨ws, fu⟩, up, un, ug⟩ ⟨mk, mu, mn, ma, mi, mw, my⟩).1.f.fuel, dB (hearsU b ⟨⟨ws, fu⟩, up, un, ug⟩ ⟨mk, mu, mn, ma, mi, mw, my⟩).1.up, dI (hearsU b ⟨⟨ws, fu⟩, up, un, ug⟩ ⟨mk, mu, mn, ma, mi, mw, my⟩).1.n, dI (hearsU b ⟨⟨ws, fu⟩, up, un, ug⟩ ⟨mk, mu, mn, ma, mi, mw, my⟩).1.got], .one (dM (hearsU b ⟨⟨ws, fu⟩, up, un, ug⟩ ⟨mk, mu, mn, ma, mi, mw, my⟩).2)]) []) : ∃ m, goD Γ_ref_UnitHears tab fn_ref_UnitHears 0 K m [.code (bodyOf fn_ref_UnitHears)] (initSt [.agg [.dat (.list .str) b], .agg [dL ws, dI fu, dB up, dI un, dI ug], .agg [dI mk, dI mu, dI mn, dI ma, dI mi, dL mw, dB my]] []) := by
  refine ⟨1, ?_⟩
  rw [ref_UnitHears_w, ref_UnitHears_vc _ _ _ _ _ _ _ _ _ _ _ _ _ _ _ _ rfl _ rfl _ rfl _ rfl _ rfl _ rfl _ rfl _ rfl _ rfl _ rfl _ rfl _ rfl _ rfl _ rfl _ rfl _ rfl _ rfl _ rfl _ rfl _ rfl _ rfl _ rfl _ rfl _ rfl _ rfl _ rfl _ rfl _ rfl _ rfl _ rfl _ rfl _ rfl _ rfl _ rfl _ rfl _ rfl _ rfl _ rfl _ rfl _ rfl _ rfl _ rfl _ rfl _ rfl _ rfl _ rfl _ rfl _ rfl _ rfl _ rfl]
  obtain ⟨p1, p2, p3⟩ := hp
  obtain ⟨q1, q2, q3, q4, q5, q6, q7, q8, q9, q10, q11, q12⟩ := checkM_ok p3
  simp only at q1 q2 q3 q4 q5 q6 q7 q8 q9 q10 q11 q12
  obtain ⟨K', hK'⟩ : ∃ K' : Vm.UnitD × List Vm.Message → Prop, K' = fun r => K (.tup [.agg [dL r.1.f.words, dI r.1.f.fuel, dB r.1.up, dI r.1.n, dI r.1.got], .one (dM r.2)]) [] := ⟨_, rfl⟩
  have fin : ∀ r, hearsU b ⟨⟨ws, fu⟩, up, un, ug⟩ ⟨mk, mu, mn, ma, mi, mw, my⟩ = r → K' r := fun r h => by rw [hK', ← h]; exact hK
  clear hK
  have hu : OkF ⟨ws, fu⟩ := okF_of p2
  have hc := okC_of p2
  have hl : ws.length = 192 := hu.2
  obtain ⟨_, _, hw, _⟩ := okF_parts hu
  simp only at hw
  have hst := ofU_ok ⟨ws, fu⟩
  obtain ⟨o, ho, hs, hs'⟩ := other_slot hst
  obtain ⟨⟨t1, t2⟩, ⟨t3, t4⟩, t5, t6⟩ := hst
  obtain ⟨s, hse⟩ : ∃ s, ofU ⟨ws, fu⟩ = s := ⟨_, rfl⟩
  rw [hse] at t1 t2 t3 t4 t5 t6 hs hs' ⊢
  rw [w64_id (n := 1 - s.slot) (by omega) (by omega)]
  have ck : checkSlot ⟨ws, fu⟩ (1 - s.slot) = 0 := by rw [hs]; exact checkSlot_of hu ho
  obtain ⟨u, hue⟩ : ∃ u : Vm.UnitD, u = ⟨⟨ws, fu⟩, up, un, ug⟩ := ⟨_, rfl⟩
  obtain ⟨m, hme⟩ : ∃ m : Vm.Message, m = ⟨mk, mu, mn, ma, mi, mw, my⟩ := ⟨_, rfl⟩
  rw [← hue, ← hme] at fin
  have huf : u.f = ⟨ws, fu⟩ := by rw [hue]
  refine ⟨by simp only [len]; omega, hu.1, nt_s (fun h => ?_) (fun hup => ?_)⟩
  · have e := fin (u, []) (hears_down (by rw [hue]; exact h))
    rw [hK', hue] at e; exact e
  have up' : u.up = true := by rw [hue]; exact hup
  refine eq_s (fun k1 => ?_) (fun k1 => eq_s (fun k2 => ?_) (fun k2 => eq_s (fun k4 => ?_) (fun k4 => eq_s (fun k5 => ?_) (fun k5 => ?_))))
  · have hp' : ∀ r, pieceU u s m = r → K' (r, []) := fun r h => fin _ (by unfold hearsU; rw [if_pos up', if_pos (by rw [hme]; exact k1), huf, hse, h])
    have same : pieceU u s m = u → K (.tup [.agg [dL ws, dI fu, dB up, dI un, dI ug], .one (dM [])]) [] := fun h => by
      have e := hp' _ h; rw [hK', hue] at e; exact e
    refine ne_s (fun h => same (if_pos (.inl (by omega)))) (fun h => br_split (fun h2 => same (if_pos (.inr (.inl (by rw [hme]; exact lei_true.1 h2))))) (fun h2 => ?_))
    rw [lei_false] at h2
    have c0 : ¬ (0 < s.ready ∨ m.n ≤ s.by_ ∨ 8 < m.n) := by rw [hme]; simp only; omega
    have fillP : ¬ (m.at_ = 0 ∧ (u.n ≠ m.n ∨ u.got = 0)) → K' (fillU u s m, []) := fun h => hp' _ (by unfold pieceU; rw [if_neg c0, if_neg h])
    have clearP : (m.at_ = 0 ∧ (u.n ≠ m.n ∨ u.got = 0)) → K' ((if (clearC u s).2 then fillU ⟨(clearC u s).1.f, (clearC u s).1.up, m.n, 0⟩ s m else (clearC u s).1), []) := fun h => hp' _ (by unfold pieceU; rw [if_neg c0, if_pos h])
    have fill1 := fun (h : ¬ (m.at_ = 0 ∧ (u.n ≠ m.n ∨ u.got = 0))) => fill_br (u := u) (s := s) (m := m) (K := K') (st := stopS false (fillS ⟨ws, fu⟩ (1 - s.slot) ma mw).2) (c := checkSlot ⟨ws, fu⟩ (1 - s.slot) = 0 ∧ List.length mw ≤ 140737488355328) (by rw [stop_is u false (fillS ⟨ws, fu⟩ (1 - s.slot) ma mw).1, hme]; unfold fillC; rw [huf]; rfl) (fun _ _ => ⟨ck, by omega⟩) (by rw [hme]; exact ⟨q7, q8, q11⟩) (fillP h)
    rw [hK', hue, hme] at fill1
    refine eq_s (fun a0 => br_two (fun hq => ⟨ck, ?_⟩) (fun hq1 hq2 => ?_)) (fun a0 => ?_)
    · have hcl := clearP (by
        rw [hue, hme]
        refine ⟨a0, ?_⟩
        simp only
        by_cases e : un = mn
        · have := hq (eqi_true.2 e)
          rw [Vm.not_true, lti_false] at this
          obtain ⟨_, g1, _⟩ := hc
          simp only at g1
          exact .inr (by omega)
        · exact .inl e)
      have es := stop_is u false (clearS ⟨ws, fu⟩ (1 - s.slot)).1 (clearS ⟨ws, fu⟩ (1 - s.slot)).2
      have ec : changeU u (clearS ⟨ws, fu⟩ (1 - s.slot)).1 (clearS ⟨ws, fu⟩ (1 - s.slot)).2 = clearC u s := by unfold clearC; rw [huf]
      rw [ec, Bool.false_or] at es
      refine br_dup (fun h => ?_) (fun h => ?_)
      · have h' : (clearC u s).2 = true := by rw [es] at h; simpa using h
        rw [if_pos h'] at hcl
        have hv4 : stopS false (clearS ⟨ws, fu⟩ (1 - s.slot)).2 = false := by simpa using h
        have hb : OkF (clearC u s).1.f := by
          obtain ⟨ch1, ch2⟩ := changeU_true (u := u) (ec ▸ h')
          have := (clear_beside (o := o) hu ho (.inl (by rw [← hs]; exact ch1))).1.1
          rw [← ec, ch2, hs]; exact this
        have := fill_br (u := ⟨(clearC u s).1.f, (clearC u s).1.up, m.n, 0⟩) (s := s) (m := m) (K := K') (st := stopS false (fillS (clearC u s).1.f (1 - s.slot) ma mw).2) (c := checkSlot (clearC u s).1.f (1 - s.slot) = 0 ∧ List.length mw ≤ 140737488355328) (by rw [stop_is ⟨(clearC u s).1.f, (clearC u s).1.up, m.n, 0⟩ false (fillS (clearC u s).1.f (1 - s.slot) ma mw).1, hme]; rfl) (fun _ _ => ⟨by rw [hs]; exact checkSlot_of hb ho, by omega⟩) (by rw [hme]; exact ⟨q7, q8, q11⟩) hcl
        rw [hK', ← ec, hue, hme] at this
        rw [hv4]
        exact this
      · have h' : (clearC u s).2 = false := by rw [es] at h; simpa using h
        rw [if_neg (by rw [h']; simp), hK', ← ec, hue] at hcl
        exact hcl
    · refine fill1 ?_
      intro g
      rw [eqi_true] at hq1
      rw [Vm.not_false, lti_true] at hq2
      rcases g.2 with g | g
      · exact g hq1
      · simp only at g; omega
    · refine fill1 ?_
      exact fun g => a0 g.1
  · have hp' : ∀ r, prepareU b u s m = r → K' r := fun r h => fin _ (by unfold hearsU; rw [if_pos up', if_neg (by rw [hme]; exact k1), if_pos (by rw [hme]; exact k2), huf, hse, h])
    have vote : ∀ y, prepareU b u s m = (u, voteM m y) → K (.tup [.agg [dL ws, dI fu, dB up, dI un, dI ug], .one (dM (answerS false mu mn 3 y))]) [] := fun y h => by
      have e := hp' _ h; rw [hK', hue, hme] at e; exact e
    refine br_split (fun h => ?_) (fun h => ne_s (fun h2 => ?_) (fun h2 => ?_))
    · rw [lei_true] at h
      have e := hp' (u, doneM m) (if_pos (by rw [hme]; exact h))
      rw [hK', hue, hme] at e; exact e
    · rw [lei_false] at h
      refine vote _ ?_
      unfold prepareU
      rw [if_neg (by rw [hme]; simp only; omega)]
      by_cases c : s.ready = m.n
      · rw [if_pos c, show eqi s.ready mn = true from eqi_true.2 (by rw [c, hme])]
      · rw [if_neg c, if_pos (by omega), show eqi s.ready mn = false from eqi_false.2 (by rw [hme] at c; exact c)]
    rw [lei_false] at h
    have E1 : prepareU b u s m = _ := if_neg (by rw [hme]; simp only; omega)
    have E2 := E1.trans (if_neg (by rw [hme]; simp only; omega))
    have E3 := E2.trans (if_neg (by omega))
    clear E1 E2
    have e1 : w64 (w64 (64 + w64 (64 * (1 - s.slot))) + 4) = 68 + 64 * (1 - s.slot) := by
      rw [w64_id (n := 64 * (1 - s.slot)) (by omega) (by omega), w64_id (n := 64 + 64 * (1 - s.slot)) (by omega) (by omega), w64_id (by omega) (by omega)]; omega
    rw [e1, w64_id (n := 68 + 64 * (1 - s.slot) + ma) (by omega) (by omega)]
    have hbd : bodyS u.f (1 - s.slot) m.at_ = (slc ws (68 + 64 * (1 - s.slot)).toNat (68 + 64 * (1 - s.slot) + ma).toNat, 0) := by
      unfold bodyS
      rw [huf, if_pos ck, hme]
      exact if_pos ⟨q7, q8⟩
    have hbl := bodyS_len (f := u.f) (s := 1 - s.slot) (n := m.at_) (by rw [huf]; exact hl) (by omega) (by rw [hbd])
    rw [hbd] at hbl E3
    have hwo : okWords (slc ws (68 + 64 * (1 - s.slot)).toNat (68 + 64 * (1 - s.slot) + ma).toNat) = true := slc_ok hw _ _
    obtain ⟨w, hwe⟩ : ∃ w, slc ws (68 + 64 * (1 - s.slot)).toNat (68 + 64 * (1 - s.slot) + ma).toNat = w := ⟨_, rfl⟩
    rw [hwe] at hbl E3 hwo ⊢
    have hbl' : (w.length : Int) = ma := by rw [hme] at hbl; exact hbl
    simp only at E3
    have hnm : u.n = un := by rw [hue]
    have hgm : u.got = ug := by rw [hue]
    have hmn : m.n = mn := by rw [hme]
    have hma : m.at_ = ma := by rw [hme]
    have hmi : m.image = mi := by rw [hme]
    refine ⟨⟨by omega, by omega, by simp only [len]; omega⟩, ne_s (fun h4 => vote _ (E3.trans (if_neg (fun g => h4 (by rw [← hnm, ← hmn]; exact g.2.1))))) (fun h4 => ne_s (fun h5 => vote _ (E3.trans (if_neg (fun g => h5 (by rw [← hgm, ← hma]; exact g.2.2))))) (fun h5 => ?_))⟩
    have E4 := E3.trans (if_pos ⟨trivial, by rw [hnm, hmn]; exact h4, by rw [hgm, hma]; exact h5⟩)
    refine eq_s (fun h6 => vote _ (E4.trans (if_neg (fun g => ?_)))) (fun h6 => eq_s (fun h7 => vote _ (E4.trans (if_neg (fun g => g.2.1 (by rw [g.2.2, hmi]; exact h7))))) (fun h7 => ?_))
    · have : imageName b w = (0, 2) := by
        have c1 : w.length = 0 := by simp only [len] at h6; omega
        have c2 : checkImage w = 2 := if_pos (.inl c1)
        unfold imageName
        rw [if_neg (by rw [c2]; decide), c2]
      rw [this] at g
      exact absurd g.1 (by decide)
    have ci : checkImage w = 0 := by
      unfold checkImage
      rw [if_neg (by simp only [len] at h6; omega), if_pos hwo]
    have en : imageName b w = (indexS (imageText w) b + 1, 0) := by unfold imageName; rw [if_pos ci]; exact if_pos p1
    rw [en] at E4
    refine ⟨ci, checkBook_ok p1, ne_s (fun h8 => vote _ (E4.trans (if_neg (fun g => h8 (by rw [← hmi]; exact g.2.2))))) (fun h8 => ⟨ck, ?_⟩)⟩
    have E5 := E4.trans (if_pos ⟨rfl, by simp only; omega, by rw [hmi]; exact h8⟩)
    have ec : changeU u (sealS ⟨ws, fu⟩ (1 - s.slot) ma mi).1 (sealS ⟨ws, fu⟩ (1 - s.slot) ma mi).2 = sealC u s m := by unfold sealC; rw [huf, hma, hmi]
    have es := stop_is u false (sealS ⟨ws, fu⟩ (1 - s.slot) ma mi).1 (sealS ⟨ws, fu⟩ (1 - s.slot) ma mi).2
    rw [ec, Bool.false_or] at es
    refine nt_s (fun h9 => ?_) (fun h9 => ?_)
    · have h' : (sealC u s m).2 = true := by rw [es] at h9; simpa using h9
      have E6 := E5.trans (if_pos h')
      have hb : OkF (sealC u s m).1.f := by
        obtain ⟨ch1, ch2⟩ := changeU_true (u := u) (ec ▸ h')
        have := (seal_beside (o := o) (n := ma) (m := mi) hu ho (.inl (by rw [← hs]; exact ch1))).1.1
        rw [← ec, ch2, hs]; exact this
      rw [h9]
      obtain ⟨x, hx⟩ : ∃ x, sealC u s m = x := ⟨_, rfl⟩
      have hxe : changeU ⟨⟨ws, fu⟩, up, un, ug⟩ (sealS ⟨ws, fu⟩ (1 - s.slot) ma mi).1 (sealS ⟨ws, fu⟩ (1 - s.slot) ma mi).2 = x := by rw [← hx, ← ec, hue]
      rw [hx] at hb E6
      have hxe' : changeU (⟨(⟨ws, fu⟩ : Vm.Flash), up, un, ug⟩ : Vm.UnitD) (⟨((sealS (⟨ws, fu⟩ : Vm.Flash) (1 - s.slot) ma mi).1).words, ((sealS (⟨ws, fu⟩ : Vm.Flash) (1 - s.slot) ma mi).1).fuel⟩ : Vm.Flash) (sealS (⟨ws, fu⟩ : Vm.Flash) (1 - s.slot) ma mi).2 = x := hxe
      rw [hxe']
      have ckx : checkSlot x.1.f (1 - s.slot) = 0 := by rw [hs]; exact checkSlot_of hb ho
      have ei : imageS x.1.f (1 - s.slot) = ((imageR x.1.f.words (1 - s.slot)).1, (imageR x.1.f.words (1 - s.slot)).2, if sealedAt x.1.f.words (beginS (1 - s.slot)) then 0 else 4) := if_pos ckx
      have hno : ∀ r, sealedU ⟨x.1.f, x.1.up, 0, 0⟩ s m w = r → K' r := fun r h => hp' _ (E6.trans h)
      have hvf : ¬ ((imageS x.1.f (1 - s.slot)).2.2 = 0 ∧ (imageS x.1.f (1 - s.slot)).2.1 = m.image ∧ (imageS x.1.f (1 - s.slot)).1 = w) → K (.tup [.agg [dL x.1.f.words, dI x.1.f.fuel, dB x.1.up, dI 0, dI 0], .one (dM (answerS false mu mn 3 false))]) [] := fun g => by
        have e := hno (⟨x.1.f, x.1.up, 0, 0⟩, voteM m false) (if_neg g)
        rw [hK', hme] at e; exact e
      rw [ei] at hvf
      refine ⟨ckx, ne_s (fun g1 => hvf (fun g => g1 (by rw [← hmi]; exact g.2.1))) (fun g1 => ⟨imageR_len _ _ (n := 140737488355328) (by rw [hb.2]; omega), nt_s (fun g2 => hvf (fun g => ?_)) (fun g2 => ⟨⟨hb.1, by simp⟩, ?_⟩)⟩)⟩
      · rw [show eqIs _ w = true from decide_eq_true g.2.2] at g2; cases g2
      · have hse' : sealedAt x.1.f.words (beginS (1 - s.slot)) = true := by
          cases c : sealedAt x.1.f.words (beginS (1 - s.slot)) with
          | true => rfl
          | false =>
            have : (imageR x.1.f.words (1 - s.slot)).2 = 0 := by unfold imageR; rw [if_neg (by rw [c]; simp)]
            exact absurd (g1.symm.trans this) h7
        have E7 := E6.trans (if_pos (by rw [ei, if_pos hse', hmi]; exact ⟨rfl, g1, of_decide_eq_true g2⟩))
        have ens := stopN_is ⟨x.1.f, x.1.up, 0, 0⟩ false [2, mn]
        rw [Bool.false_or] at ens
        have ens' : stopS false (noteUE (⟨(⟨x.1.f.words, x.1.f.fuel⟩ : Vm.Flash), x.1.up, 0, 0⟩ : Vm.UnitD) [2, mn]) = !(noteU ⟨x.1.f, x.1.up, 0, 0⟩ [2, mn]).2 := ens
        rw [ens']
        rw [hmn] at E7
        by_cases c : (noteU ⟨x.1.f, x.1.up, 0, 0⟩ [2, mn]).2 = true
        · have e := hp' _ (E7.trans (if_pos c))
          rw [hK', hme] at e
          rw [c]; exact e
        · have e := hp' _ (E7.trans (if_neg c))
          rw [hK'] at e
          rw [(Bool.not_eq_true _).mp c]; exact e
    · have h' : (sealC u s m).2 = false := by rw [es] at h9; simpa using h9
      have e := hp' _ (E5.trans (if_neg (by rw [h']; simp)))
      rw [hK', ← ec, hue] at e
      rw [h9]; exact e
  · have hp' : ∀ r, decidedU u s m = r → K' r := fun r h => fin _ (by rw [hearsU_at up' (by rw [hme]; exact .inl k4), huf, hse, h])
    have E1 : decidedU u s m = _ := if_pos (by rw [hme]; exact k4)
    have hmn : m.n = mn := by rw [hme]
    refine ne_s (fun h => ?_) (fun h => ?_)
    · have E2 := E1.trans (if_neg (by rw [hmn]; exact h))
      refine ne_s (fun h2 => ?_) (fun h2 => ⟨⟨hu.1, by simp⟩, ?_⟩)
      · have e := hp' _ (E2.trans (if_neg (by rw [hmn]; exact h2)))
        rw [hK', hue] at e; exact e
      · have E3 := E2.trans (if_pos (by rw [hmn]; exact h2))
        have ens := stopN_is u false [1, 1 - s.slot, mn]
        rw [Bool.false_or, hue] at ens
        rw [ens]
        rw [hmn] at E3
        have E3' : decidedU u s m = if (noteU ⟨⟨ws, fu⟩, up, un, ug⟩ [1, 1 - s.slot, mn]).2 = true then ((noteU ⟨⟨ws, fu⟩, up, un, ug⟩ [1, 1 - s.slot, mn]).1, doneM m) else ((noteU ⟨⟨ws, fu⟩, up, un, ug⟩ [1, 1 - s.slot, mn]).1, []) := by rw [← hue]; exact E3
        by_cases c : (noteU ⟨⟨ws, fu⟩, up, un, ug⟩ [1, 1 - s.slot, mn]).2 = true
        · have e := hp' _ (E3'.trans (if_pos c))
          rw [hK', hme] at e
          rw [c]; exact e
        · have e := hp' _ (E3'.trans (if_neg c))
          rw [hK'] at e
          rw [(Bool.not_eq_true _).mp c]; exact e
    · have e := hp' _ (E1.trans (if_pos (by rw [hmn]; exact h)))
      rw [hK', hue, hme] at e; exact e
  · have hp' : ∀ r, decidedU u s m = r → K' r := fun r h => fin _ (by rw [hearsU_at up' (by rw [hme]; exact .inr k5), huf, hse, h])
    have E1 : decidedU u s m = _ := if_neg (by rw [hme]; exact k4)
    have hmn : m.n = mn := by rw [hme]
    refine br_split (fun h => ?_) (fun h => ?_)
    · rw [lei_true] at h
      have e := hp' _ (E1.trans (if_pos (by rw [hmn]; exact h)))
      rw [hK', hue] at e; exact e
    rw [lei_false] at h
    have E2 := E1.trans (if_neg (by rw [hmn]; omega))
    refine eq_s (fun h2 => ⟨⟨hu.1, by simp⟩, ?_⟩) (fun h2 => ?_)
    · have E3 := E2.trans (if_pos (by rw [hmn]; exact h2))
      have ens := stopN_is u false [3, mn]
      rw [Bool.false_or, hue] at ens
      rw [ens]
      rw [hmn] at E3
      have E3' : decidedU u s m = if (noteU ⟨⟨ws, fu⟩, up, un, ug⟩ [3, mn]).2 = true then goneU (noteU ⟨⟨ws, fu⟩, up, un, ug⟩ [3, mn]).1 m else ((noteU ⟨⟨ws, fu⟩, up, un, ug⟩ [3, mn]).1, []) := by rw [← hue]; exact E3
      by_cases c : (noteU ⟨⟨ws, fu⟩, up, un, ug⟩ [3, mn]).2 = true
      · have E4 := E3'.trans (if_pos c)
        rw [c]
        refine eq_s (fun h3 => ?_) (fun h3 => ?_)
        · have e := hp' _ (E4.trans (if_pos (by rw [hmn]; exact h3)))
          rw [hK', hme] at e; exact e
        · have e := hp' _ (E4.trans (if_neg (by rw [hmn]; exact h3)))
          rw [hK', hme] at e; exact e
      · have e := hp' _ (E3'.trans (if_neg c))
        rw [hK'] at e
        rw [(Bool.not_eq_true _).mp c]; exact e
    · have E3 := E2.trans (if_neg (by rw [hmn]; exact h2))
      refine eq_s (fun h3 => ?_) (fun h3 => ?_)
      · have e := hp' _ (E3.trans (if_pos (by rw [hmn, hue]; exact h3)))
        rw [hK', hue, hme] at e; exact e
      · have e := hp' _ (E3.trans (if_neg (by rw [hmn, hue]; exact h3)))
        rw [hK', hue, hme] at e; exact e
  · have e := fin _ (hears_other (b := b) (u := u) (m := m) (by rw [hme]; exact k1) (by rw [hme]; exact k2) (by rw [hme]; exact k4) (by rw [hme]; exact k5))
    rw [hK', hue] at e; exact e
theorem sound_ref_UnitHears : SoundC Tryz.prog tab n_ref_UnitHears c_ref_UnitHears := soundC_of ok_ref_UnitHears hf_ref_UnitHears hB_ref_UnitHears (by
  intro vs bs p v bs' h hp
  unfold c_ref_UnitHears at h
  split at h
  · cases h
    exact ⟨by kernel_rfl, rfl, .inl (run_ref_UnitHears _ _ _ _ _ _ _ _ _ _ _ _ _ hp.1 _ ⟨rfl, rfl⟩)⟩
  · cases h)

def c_ref_SameMessages_1 : Contract := fun vs bs => match vs, bs with
  | [.agg [.dat .int mk, .dat .int mu, .dat .int mn, .dat .int ma, .dat .int mi, .dat (.list .int) mw, .dat .bool my], .agg [.dat .int qk, .dat .int qu, .dat .int qn, .dat .int qa, .dat .int qi, .dat (.list .int) qw, .dat .bool qy]], [] => some (some (Sm mw), .one (.dat .bool (sameMsg ⟨mk, mu, mn, ma, mi, mw, my⟩ ⟨qk, qu, qn, qa, qi, qw, qy⟩)), [])
  | _, _ => none
def Γ_ref_SameMessages_1 : Ctx := [(n_slices_Equal_Lint, c_slices_Equal_Lint)]
theorem ok_ref_SameMessages_1 : Ok Tryz.prog tab Γ_ref_SameMessages_1 := (ok_nil.consC hf_slices_Equal_Lint hB_slices_Equal_Lint sound_slices_Equal_Lint)
theorem ref_SameMessages_1_vc (mk : Int) (mu : Int) (mn : Int) (ma : Int) (mi : Int) (mw : List Int) (my : Bool) (qk : Int) (qu : Int) (qn : Int) (qa : Int) (qi : Int) (qw : List Int) (qy : Bool) (rec : RK) (K : KK) v0 (hv0 : v0 = (eqIs mw qw)) : segD Γ_ref_SameMessages_1 tab fn_ref_SameMessages_1 0 K rec [.code (bodyOf fn_ref_SameMessages_1)] (initSt [.agg [dI mk, dI mu, dI mn, dI ma, dI mi, dL mw, dB my], .agg [dI qk, dI qu, dI qn, dI qa, dI qi, dL qw, dB qy]] []) = (
 br (eqi mk qk)
 (br (eqi mu qu)
 (br (eqi mn qn)
 (br (eqi ma qa)
 (br (eqi mi qi)
 (br (eqb my qy)
 (((List.length mw) ≤ 140737488355328) ∧
 (K (.one (dB v0)) []))
 (K vF []))
 (K vF []))
 (K vF []))
 (K vF []))
 (K vF []))
 (K vF [])) := by subst_vars; kernel_rfl
theorem ref_SameMessages_1_w (m : Nat) (K : KK) (st : St) : goD Γ_ref_SameMessages_1 tab fn_ref_SameMessages_1 0 K (m + 1) [.code (bodyOf fn_ref_SameMessages_1)] st = segD Γ_ref_SameMessages_1 tab fn_ref_SameMessages_1 0 K (goD Γ_ref_SameMessages_1 tab fn_ref_SameMessages_1 0 K m) [.code (bodyOf fn_ref_SameMessages_1)] st := rfl

set_option maxHeartbeats 4000000 in
theorem run_ref_SameMessages_1 (mk mu mn ma mi : Int) (mw : List Int) (my : Bool)(qk qu qn qa qi : Int) (qw : List Int) (qy : Bool) (hp : Sm mw) (K : KK) (hK : K (.one (dB (sameMsg ⟨mk, mu, mn, ma, mi, mw, my⟩ ⟨qk, qu, qn, qa, qi, qw, qy⟩))) []) : ∃ m, goD Γ_ref_SameMessages_1 tab fn_ref_SameMessages_1 0 K m [.code (bodyOf fn_ref_SameMessages_1)] (initSt [.agg [dI mk, dI mu, dI mn, dI ma, dI mi, dL mw, dB my], .agg [dI qk, dI qu, dI qn, dI qa, dI qi, dL qw, dB qy]] []) := by
  refine ⟨1, ?_⟩
  rw [ref_SameMessages_1_w, ref_SameMessages_1_vc _ _ _ _ _ _ _ _ _ _ _ _ _ _ _ _ _ rfl]
  unfold sameMsg at hK
  simp only at hK
  refine br_split (fun h1 => br_split (fun h2 => br_split (fun h3 => br_split (fun h4 => br_split (fun h5 => br_split (fun h6 => ⟨hp, ?_⟩) (fun h6 => ?_)) (fun h5 => ?_)) (fun h4 => ?_)) (fun h3 => ?_)) (fun h2 => ?_)) (fun h1 => ?_)
  · rw [h1, h2, h3, h4, h5, h6] at hK; exact hK
  · rw [h1, h2, h3, h4, h5, h6] at hK; exact hK
  · rw [h1, h2, h3, h4, h5] at hK; exact hK
  · rw [h1, h2, h3, h4] at hK; exact hK
  · rw [h1, h2, h3] at hK; exact hK
  · rw [h1, h2] at hK; exact hK
  · rw [h1] at hK; exact hK
theorem sound_ref_SameMessages_1 : SoundC Tryz.prog tab n_ref_SameMessages_1 c_ref_SameMessages_1 := soundC_of ok_ref_SameMessages_1 hf_ref_SameMessages_1 hB_ref_SameMessages_1 (by
  intro vs bs p v bs' h hp
  unfold c_ref_SameMessages_1 at h
  split at h
  · cases h
    exact ⟨by kernel_rfl, rfl, .inl (run_ref_SameMessages_1 _ _ _ _ _ _ _ _ _ _ _ _ _ _ hp.1 _ ⟨rfl, rfl⟩)⟩
  · cases h)

def c_slices_EqualFunc_LMessage : Contract := fun vs bs => match vs, bs with
  | [.one (.dat (.list .message) a), .one (.dat (.list .message) b), .one (.fn f [])], [] => (match Nat.beq f n_ref_SameMessages_1 with | true => some (some (a.length ≤ 140737488355328 ∧ smM a = true), .one (.dat .bool (sameMsgs a b)), []) | false => none)
  | _, _ => none
def Γ_slices_EqualFunc_LMessage : Ctx := [(n_ref_SameMessages_1, c_ref_SameMessages_1)]
theorem ok_slices_EqualFunc_LMessage : Ok Tryz.prog tab Γ_slices_EqualFunc_LMessage := (ok_nil.consC hf_ref_SameMessages_1 hB_ref_SameMessages_1 sound_ref_SameMessages_1)
noncomputable def slices_EqualFunc_LMessage_0_L0 : List It := [.inLoop [17, 16, 15, 6, 1, 2] (Code.sub (bodyOf fn_slices_EqualFunc_LMessage) [1, 1, 0, 1, 0, 0]), .inBlock 0, .code (Code.sub (bodyOf fn_slices_EqualFunc_LMessage) [1, 1, 1])]
def slices_EqualFunc_LMessage_0_S0 (x0 : Int) (x1 : Int) (x2 : (List Vm.Message)) (x3 : Bool) (x4 : (List Vm.Message)) : St := ⟨[(17, .one (dI x0)), (16, .one (dI x1)), (15, .one (dM x2)), (6, .one (dB x3)), (1, .one (dM x4)), (2, .one (.fn n_ref_SameMessages_1 []))], [], 0⟩
theorem slices_EqualFunc_LMessage_0_vc (a : List Message) (b : List Message) (rec : RK) (K : KK) : segD Γ_slices_EqualFunc_LMessage tab fn_slices_EqualFunc_LMessage 0 K rec [.code (bodyOf fn_slices_EqualFunc_LMessage)] (initSt [.one (dM a), .one (dM b), .one (.fn n_ref_SameMessages_1 [])] []) = (
 br (!(eqi (((len a) : Nat) : Int) (((len b) : Nat) : Int)))
 (K vF [])
 (rec slices_EqualFunc_LMessage_0_L0 (slices_EqualFunc_LMessage_0_S0 (0 : Int) (((len a) : Nat) : Int) a false b))) := by kernel_rfl
theorem slices_EqualFunc_LMessage_0_w (m : Nat) (K : KK) (st : St) : goD Γ_slices_EqualFunc_LMessage tab fn_slices_EqualFunc_LMessage 0 K (m + 1) [.code (bodyOf fn_slices_EqualFunc_LMessage)] st = segD Γ_slices_EqualFunc_LMessage tab fn_slices_EqualFunc_LMessage 0 K (goD Γ_slices_EqualFunc_LMessage tab fn_slices_EqualFunc_LMessage 0 K m) [.code (bodyOf fn_slices_EqualFunc_LMessage)] st := rfl
theorem slices_EqualFunc_LMessage_0_vc0 (x0 : Int) (x1 : Int) (x2 : (List Vm.Message)) (x3 : Bool) (x4 : (List Vm.Message)) (rec : RK) (K : KK) v0 (hv0 : v0 = (sameMsg ⟨((nth x2 (Int.toNat x0) (Ty.dflt Ty.message))).kind, ((nth x2 (Int.toNat x0) (Ty.dflt Ty.message))).unit, ((nth x2 (Int.toNat x0) (Ty.dflt Ty.message))).n, ((nth x2 (Int.toNat x0) (Ty.dflt Ty.message))).at_, ((nth x2 (Int.toNat x0) (Ty.dflt Ty.message))).image, ((nth x2 (Int.toNat x0) (Ty.dflt Ty.message))).words, ((nth x2 (Int.toNat x0) (Ty.dflt Ty.message))).yes⟩ ⟨((nth x4 (Int.toNat x0) (Ty.dflt Ty.message))).kind, ((nth x4 (Int.toNat x0) (Ty.dflt Ty.message))).unit, ((nth x4 (Int.toNat x0) (Ty.dflt Ty.message))).n, ((nth x4 (Int.toNat x0) (Ty.dflt Ty.message))).at_, ((nth x4 (Int.toNat x0) (Ty.dflt Ty.message))).image, ((nth x4 (Int.toNat x0) (Ty.dflt Ty.message))).words, ((nth x4 (Int.toNat x0) (Ty.dflt Ty.message))).yes⟩)) : segD Γ_slices_EqualFunc_LMessage tab fn_slices_EqualFunc_LMessage 0 K rec (.code (Code.sub (bodyOf fn_slices_EqualFunc_LMessage) [1, 1, 0, 1, 0, 0]) :: slices_EqualFunc_LMessage_0_L0) (slices_EqualFunc_LMessage_0_S0 x0 x1 x2 x3 x4) = (
 br (lti x0 x1)
 ((((0 : Int) ≤ x0) ∧ (x0 < (((len x2) : Nat) : Int))) ∧
 ((((0 : Int) ≤ x0) ∧ (x0 < (((len x4) : Nat) : Int))) ∧
 (((List.length ((nth x2 (Int.toNat x0) (Ty.dflt Ty.message))).words) ≤ 140737488355328) ∧
 (br (!v0)
 (K vF [])
 (rec slices_EqualFunc_LMessage_0_L0 (slices_EqualFunc_LMessage_0_S0 (w64 (x0 + (1 : Int))) x1 x2 x3 x4))))))
 (K vT [])) := by subst_vars; kernel_rfl
theorem slices_EqualFunc_LMessage_0_w0 (m : Nat) (K : KK) (st : St) : goD Γ_slices_EqualFunc_LMessage tab fn_slices_EqualFunc_LMessage 0 K (m + 1) slices_EqualFunc_LMessage_0_L0 st = segD Γ_slices_EqualFunc_LMessage tab fn_slices_EqualFunc_LMessage 0 K (goD Γ_slices_EqualFunc_LMessage tab fn_slices_EqualFunc_LMessage 0 K m) (.code (Code.sub (bodyOf fn_slices_EqualFunc_LMessage) [1, 1, 0, 1, 0, 0]) :: slices_EqualFunc_LMessage_0_L0) st := rfl

theorem loop_slices_EqualFunc_LMessage_0 (a b : List Vm.Message) (hl : a.length = b.length) (hs : a.length ≤ 140737488355328) (hr : smM a = true) (K : KK) : ∀ (d k : Nat), k + d = a.length → K (.one (dB (sameMsgs (a.drop k) (b.drop k)))) [] →
    goD Γ_slices_EqualFunc_LMessage tab fn_slices_EqualFunc_LMessage 0 K (d + 1) slices_EqualFunc_LMessage_0_L0 (slices_EqualFunc_LMessage_0_S0 (k : Int) (((len a) : Nat) : Int) a false b)
  | 0, k, hk, hK => by
    rw [slices_EqualFunc_LMessage_0_w0, slices_EqualFunc_LMessage_0_vc0 _ _ _ _ _ _ _ _ rfl]
    refine lt_f (by simp only [len]; omega) ?_
    rw [List.drop_of_length_le (by omega), List.drop_of_length_le (by omega)] at hK
    exact hK
  | d + 1, k, hk, hK => by
    rw [slices_EqualFunc_LMessage_0_w0, slices_EqualFunc_LMessage_0_vc0 _ _ _ _ _ _ _ _ rfl, toNat_nat]
    have hm : nth a k (Ty.dflt .message) ∈ a := by
      have : k < a.length := by omega
      simp [nth, List.getD_eq_getElem?_getD, this]
    rw [drop_step (l := a) (by omega) (Ty.dflt .message), drop_step (l := b) (by omega) (Ty.dflt .message)] at hK
    simp only [sameMsgs] at hK
    refine lt_t (by simp only [len]; omega) ⟨⟨by omega, by simp only [len]; omega⟩, ⟨by omega, by simp only [len]; omega⟩, by simpa using List.all_eq_true.1 hr _ hm, nt_s (fun hne => ?_) (fun heq => ?_)⟩
    · rw [show sameMsg (nth a k (Ty.dflt .message)) (nth b k (Ty.dflt .message)) = false from hne] at hK
      exact hK
    · rw [w64_succ (by omega)]
      rw [show sameMsg (nth a k (Ty.dflt .message)) (nth b k (Ty.dflt .message)) = true from heq, Bool.true_and] at hK
      exact loop_slices_EqualFunc_LMessage_0 a b hl hs hr K d (k + 1) (by omega) hK
set_option maxHeartbeats 4000000 in
theorem run_slices_EqualFunc_LMessage_0 (a b : List Vm.Message) (hp : a.length ≤ 140737488355328 ∧ smM a = true) (K : KK) (hK : K (.one (dB (sameMsgs a b))) []) : ∃ m, goD Γ_slices_EqualFunc_LMessage tab fn_slices_EqualFunc_LMessage 0 K m [.code (bodyOf fn_slices_EqualFunc_LMessage)] (initSt [.one (dM a), .one (dM b), .one (.fn n_ref_SameMessages_1 [])] []) := by
  refine ⟨a.length + 2, ?_⟩
  rw [slices_EqualFunc_LMessage_0_w, slices_EqualFunc_LMessage_0_vc _ _ _ _]
  refine ne_s (fun h => ?_) (fun h => ?_)
  · rw [sameMsgs_len a b (by simp only [len] at h; omega)] at hK
    exact hK
  · exact loop_slices_EqualFunc_LMessage_0 a b (by simp only [len] at h; omega) hp.1 hp.2 K a.length 0 (by omega) hK
theorem sound_slices_EqualFunc_LMessage : SoundC Tryz.prog tab n_slices_EqualFunc_LMessage c_slices_EqualFunc_LMessage := soundC_of ok_slices_EqualFunc_LMessage hf_slices_EqualFunc_LMessage hB_slices_EqualFunc_LMessage (by
  intro vs bs p v bs' h hp
  unfold c_slices_EqualFunc_LMessage at h
  split at h
  · split at h
    · rename_i hfn
      have hfn := Nat.eq_of_beq_eq_true hfn
      subst hfn
      cases h
      exact ⟨by kernel_rfl, rfl, .inl (run_slices_EqualFunc_LMessage_0 _ _ hp.1 _ ⟨rfl, rfl⟩)⟩
    · cases h
  · cases h)

def c_ref_SameMessages : Contract := fun vs bs => match vs, bs with
  | [.one (.dat (.list .message) a), .one (.dat (.list .message) b)], [] => some (some (a.length ≤ 140737488355328 ∧ smM a = true), .one (.dat .bool (sameMsgs a b)), [])
  | _, _ => none
def Γ_ref_SameMessages : Ctx := [(n_slices_EqualFunc_LMessage, c_slices_EqualFunc_LMessage), (n_ref_SameMessages_1, c_ref_SameMessages_1)]
theorem ok_ref_SameMessages : Ok Tryz.prog tab Γ_ref_SameMessages := ((ok_nil.consC hf_ref_SameMessages_1 hB_ref_SameMessages_1 sound_ref_SameMessages_1).consC hf_slices_EqualFunc_LMessage hB_slices_EqualFunc_LMessage sound_slices_EqualFunc_LMessage)
theorem ref_SameMessages_vc (a : List Message) (b : List Message) (rec : RK) (K : KK) v0 (hv0 : v0 = (smM a)) v1 (hv1 : v1 = (sameMsgs a b)) : segD Γ_ref_SameMessages tab fn_ref_SameMessages 0 K rec [.code (bodyOf fn_ref_SameMessages)] (initSt [.one (dM a), .one (dM b)] []) = (
 (((List.length a) ≤ 140737488355328) ∧ (v0 = true)) ∧
 (K (.one (dB v1)) [])) := by subst_vars; kernel_rfl
theorem ref_SameMessages_w (m : Nat) (K : KK) (st : St) : goD Γ_ref_SameMessages tab fn_ref_SameMessages 0 K (m + 1) [.code (bodyOf fn_ref_SameMessages)] st = segD Γ_ref_SameMessages tab fn_ref_SameMessages 0 K (goD Γ_ref_SameMessages tab fn_ref_SameMessages 0 K m) [.code (bodyOf fn_ref_SameMessages)] st := rfl

set_option maxHeartbeats 4000000 in
theorem run_ref_SameMessages (a b : List Vm.Message) (hp : a.length ≤ 140737488355328 ∧ smM a = true) (K : KK) (hK : K (.one (dB (sameMsgs a b))) []) : ∃ m, goD Γ_ref_SameMessages tab fn_ref_SameMessages 0 K m [.code (bodyOf fn_ref_SameMessages)] (initSt [.one (dM a), .one (dM b)] []) := by
  refine ⟨1, ?_⟩
  rw [ref_SameMessages_w, ref_SameMessages_vc _ _ _ _ _ rfl _ rfl]
  exact ⟨hp, hK⟩
theorem sound_ref_SameMessages : SoundC Tryz.prog tab n_ref_SameMessages c_ref_SameMessages := soundC_of ok_ref_SameMessages hf_ref_SameMessages hB_ref_SameMessages (by
  intro vs bs p v bs' h hp
  unfold c_ref_SameMessages at h
  split at h
  · cases h
    exact ⟨by kernel_rfl, rfl, .inl (run_ref_SameMessages _ _ hp.1 _ ⟨rfl, rfl⟩)⟩
  · cases h)

def c_law_UnitSays : Contract := fun vs bs => match vs, bs with
  | [.agg [.dat (.list .str) b], .agg [.dat (.list .int) ws, .dat .int _, .dat .bool _, .dat .int _, .dat .int _], .agg [.dat .int _, .dat .int _, .dat .int _, .dat .int _, .dat .int _, .dat (.list .int) mw, .dat .bool _], .one (.dat (.list .int) _), .one (.dat .int name)], [] => some (some (b.length ≤ 140737488355328 ∧ len ws * 8 ≤ 140737488355328 ∧ Sm mw ∧ I64 name), .one (.dat .bool true), [])
  | _, _ => none
def Γ_law_UnitSays : Ctx := [(n_ref_OwnFlash, c_ref_OwnFlash), (n_unit_Hear, c_unit_Hear), (n_unit_New, c_unit_New), (n_unit_Read, c_unit_Read), (n_unit_Runs, c_unit_Runs), (n_unit_Boot, c_unit_Boot), (n_ref_CheckUnit, c_ref_CheckUnit), (n_law_united, c_law_united), (n_unit_Check, c_unit_Check), (n_unit_CheckMessage, c_unit_CheckMessage), (n_ref_CheckMessage, c_ref_CheckMessage), (n_ref_SameUnit, c_ref_SameUnit), (n_ref_CheckImage, c_ref_CheckImage), (n_ref_NewUnit, c_ref_NewUnit), (n_ref_UnitStateOf, c_ref_UnitStateOf), (n_ref_ImageOf, c_ref_ImageOf), (n_slices_Equal_Lint, c_slices_Equal_Lint), (n_ref_CheckBook, c_ref_CheckBook), (n_ref_UnitHears, c_ref_UnitHears), (n_ref_SameMessages, c_ref_SameMessages)]
theorem ok_law_UnitSays : Ok Tryz.prog tab Γ_law_UnitSays := ((((((((((((((((((((ok_nil.consC hf_ref_SameMessages hB_ref_SameMessages sound_ref_SameMessages).consC hf_ref_UnitHears hB_ref_UnitHears sound_ref_UnitHears).consC hf_ref_CheckBook hB_ref_CheckBook sound_ref_CheckBook).consC hf_slices_Equal_Lint hB_slices_Equal_Lint sound_slices_Equal_Lint).consC hf_ref_ImageOf hB_ref_ImageOf sound_ref_ImageOf).consC hf_ref_UnitStateOf hB_ref_UnitStateOf sound_ref_UnitStateOf).consC hf_ref_NewUnit hB_ref_NewUnit sound_ref_NewUnit).consC hf_ref_CheckImage hB_ref_CheckImage sound_ref_CheckImage).consC hf_ref_SameUnit hB_ref_SameUnit sound_ref_SameUnit).consC hf_ref_CheckMessage hB_ref_CheckMessage sound_ref_CheckMessage).consC hf_unit_CheckMessage hB_unit_CheckMessage sound_unit_CheckMessage).consC hf_unit_Check hB_unit_Check sound_unit_Check).consC hf_law_united hB_law_united sound_law_united).consC hf_ref_CheckUnit hB_ref_CheckUnit sound_ref_CheckUnit).consC hf_unit_Boot hB_unit_Boot sound_unit_Boot).consC hf_unit_Runs hB_unit_Runs sound_unit_Runs).consC hf_unit_Read hB_unit_Read sound_unit_Read).consC hf_unit_New hB_unit_New sound_unit_New).consC hf_unit_Hear hB_unit_Hear sound_unit_Hear).consC hf_ref_OwnFlash hB_ref_OwnFlash sound_ref_OwnFlash)
theorem law_UnitSays_vc (b : List (List UInt8)) (ws : List Int) (fu : Int) (up : Bool) (un : Int) (ug : Int) (mk : Int) (mu : Int) (mn : Int) (ma : Int) (mi : Int) (mw : List Int) (my : Bool) (l : List Int) (name : Int) (rec : RK) (K : KK) v0 (hv0 : v0 = (checkU ⟨⟨ws, fu⟩, up, un, ug⟩)) v1 (hv1 : v1 = (checkM ⟨mk, mu, mn, ma, mi, mw, my⟩)) v2 (hv2 : v2 = (sameUnit ⟨⟨ws, fu⟩, up, un, ug⟩ ⟨⟨ws, fu⟩, up, un, ug⟩)) v3 (hv3 : v3 = (checkImage l)) v4 (hv4 : v4 = (newU l name)) v5 (hv5 : v5 = (sameUnit ⟨⟨v4.fst.f.words, v4.fst.f.fuel⟩, v4.fst.up, v4.fst.n, v4.fst.got⟩ ⟨⟨[], (0 : Int)⟩, false, (0 : Int), (0 : Int)⟩)) v6 (hv6 : v6 = (readU ⟨⟨ws, fu⟩, up, un, ug⟩)) v7 (hv7 : v7 = (runsU ⟨⟨ws, fu⟩, up, un, ug⟩)) v8 (hv8 : v8 = (bootU ⟨⟨ws, fu⟩, up, un, ug⟩)) v9 (hv9 : v9 = (sameUnit ⟨⟨v8.fst.f.words, v8.fst.f.fuel⟩, v8.fst.up, v8.fst.n, v8.fst.got⟩ ⟨⟨[], (0 : Int)⟩, false, (0 : Int), (0 : Int)⟩)) v10 (hv10 : v10 = (checkBook b)) v11 (hv11 : v11 = (hearU b ⟨⟨ws, fu⟩, up, un, ug⟩ ⟨mk, mu, mn, ma, mi, mw, my⟩)) v12 (hv12 : v12 = (sameUnit ⟨⟨v11.fst.fst.f.words, v11.fst.fst.f.fuel⟩, v11.fst.fst.up, v11.fst.fst.n, v11.fst.fst.got⟩ ⟨⟨[], (0 : Int)⟩, false, (0 : Int), (0 : Int)⟩)) v13 (hv13 : v13 = (hearsU b ⟨⟨ws, fu⟩, up, un, ug⟩ ⟨mk, mu, mn, ma, mi, mw, my⟩)) v14 (hv14 : v14 = (sameUnit ⟨⟨v11.fst.fst.f.words, v11.fst.fst.f.fuel⟩, v11.fst.fst.up, v11.fst.fst.n, v11.fst.fst.got⟩ ⟨⟨v13.fst.f.words, v13.fst.f.fuel⟩, v13.fst.up, v13.fst.n, v13.fst.got⟩)) v15 (hv15 : v15 = (smM v11.fst.snd)) v16 (hv16 : v16 = (sameMsgs v11.fst.snd v13.snd)) v17 (hv17 : v17 = (checkLog ⟨ws, fu⟩)) v18 (hv18 : v18 = (ofU ⟨ws, fu⟩)) v19 (hv19 : v19 = (checkSlot ⟨ws, fu⟩ v18.slot)) v20 (hv20 : v20 = (imageR ws v18.slot)) v21 (hv21 : v21 = (eqIs v7.fst v20.fst)) v22 (hv22 : v22 = (sameUnit ⟨⟨v8.fst.f.words, v8.fst.f.fuel⟩, v8.fst.up, v8.fst.n, v8.fst.got⟩ ⟨⟨ws, (-(1 : Int))⟩, true, (0 : Int), (0 : Int)⟩)) v23 (hv23 : v23 = (sameUnit ⟨⟨v4.fst.f.words, v4.fst.f.fuel⟩, v4.fst.up, v4.fst.n, v4.fst.got⟩ ⟨⟨v4.fst.f.words, v4.fst.f.fuel⟩, v4.fst.up, v4.fst.n, v4.fst.got⟩)) v31 (hv31 : v31 = (br (eqi v11.snd (0 : Int))
 (((List.length v11.fst.fst.f.words) ≤ 140737488355328) ∧
 (br v14
 ((((List.length v11.fst.snd) ≤ 140737488355328) ∧ (v15 = true)) ∧
 (K (.one (dB v16)) []))
 (K vF [])))
 (K vF []))) v32 (hv32 : v32 = (br (eqi (((len v11.fst.snd) : Nat) : Int) (0 : Int))
 (((List.length v11.fst.fst.f.words) ≤ 140737488355328) ∧
 (K (.one (dB v12)) []))
 (K vF []))) v30 (hv30 : v30 = (br (!(eqi v1 (0 : Int)))
 (br (eqi v11.snd v1)
 v32
 (K vF []))
 (((v10 = (0 : Int)) ∧ ((v0 = (0 : Int)) ∧ (v1 = (0 : Int)))) ∧
 v31))) v29 (hv29 : v29 = (br (!(eqi v10 (0 : Int)))
 (br (eqi v10 (0 : Int))
 v30
 (br (!(eqi v10 (0 : Int)))
 (br (eqi v11.snd v10)
 v32
 (K vF []))
 (((v10 = (0 : Int)) ∧ ((v0 = (0 : Int)) ∧ (v1 = (0 : Int)))) ∧
 v31)))
 (br (eqi v0 (0 : Int))
 v30
 (br (!(eqi v0 (0 : Int)))
 (br (eqi v11.snd v0)
 v32
 (K vF []))
 (((v10 = (0 : Int)) ∧ ((v0 = (0 : Int)) ∧ (v1 = (0 : Int)))) ∧
 v31))))) v28 (hv28 : v28 = (br (!(eqi v7.snd.fst v20.snd))
 (K vF [])
 (((List.length v7.fst) ≤ 140737488355328) ∧
 (br (!v21)
 (K vF [])
 (br (!(eqi v8.snd (0 : Int)))
 (K vF [])
 (((List.length v8.fst.f.words) ≤ 140737488355328) ∧
 (br (!v22)
 (K vF [])
 v29))))))) v27 (hv27 : v27 = (br (!(eqi v0 (0 : Int)))
 (br (!(eqi v6.snd v0))
 (K vF [])
 (br (!(eqi v7.snd.snd v0))
 (K vF [])
 (br (!(eqi v8.snd v0))
 (K vF [])
 (br (!((eqi v6.fst.slot (0 : Int)) && ((eqi v6.fst.by_ (0 : Int)) && ((eqi v6.fst.ready (0 : Int)) && true))))
 (K vF [])
 (br (!(eqi (w64 ((((len v7.fst) : Nat) : Int) + v7.snd.fst)) (0 : Int)))
 (K vF [])
 (((List.length v8.fst.f.words) ≤ 140737488355328) ∧
 (br (!v9)
 (K vF [])
 v29)))))))
 ((v17 = (0 : Int)) ∧
 ((v19 = (0 : Int)) ∧
 (br (!(eqi v6.snd (0 : Int)))
 (K vF [])
 (br (!((eqi v6.fst.slot v18.slot) && ((eqi v6.fst.by_ v18.by_) && ((eqi v6.fst.ready v18.ready) && true))))
 (K vF [])
 (br (!(eqb (eqi v7.snd.snd (0 : Int)) (!(eqi v20.snd (0 : Int)))))
 (K vF [])
 (br (!(eqi v7.snd.snd (0 : Int)))
 (br (!(eqi v7.snd.snd (4 : Int)))
 (K vF [])
 v28)
 v28)))))))) v26 (hv26 : v26 = (br (!v5)
 (K vF [])
 v27)) v24 (hv24 : v24 = (br (!(eqi v3 (0 : Int)))
 (br (!(eqi v4.snd v3))
 (K vF [])
 (((List.length v4.fst.f.words) ≤ 140737488355328) ∧
 v26))
 (br (!(eqi v4.snd (0 : Int)))
 (K vF [])
 (((v3 = (0 : Int)) ∧ (((1 : Int) ≤ name) ∧ (name ≤ (60 : Int)))) ∧
 (((List.length v4.fst.f.words) ≤ 140737488355328) ∧
 (br (!v23)
 (K vF [])
 v27)))))) v25 (hv25 : v25 = (br (!(eqi v4.snd (3 : Int)))
 (K vF [])
 (((List.length v4.fst.f.words) ≤ 140737488355328) ∧
 v26))) : segD Γ_law_UnitSays tab fn_law_UnitSays 0 K rec [.code (bodyOf fn_law_UnitSays)] (initSt [.agg [.dat (Ty.list Ty.str) b], .agg [dL ws, dI fu, dB up, dI un, dI ug], .agg [dI mk, dI mu, dI mn, dI ma, dI mi, dL mw, dB my], .one (dL l), .one (dI name)] []) = (
 (((len ws) * 8) ≤ 140737488355328) ∧
 (((List.length b) ≤ 140737488355328) ∧
 (((List.length ws) ≤ 140737488355328) ∧
 (br (!(eqi v0 v0))
 (K vF [])
 (br (!(eqi v1 v1))
 (K vF [])
 (((List.length ws) ≤ 140737488355328) ∧
 (br (!v2)
 (K vF [])
 (br (eqi v3 (0 : Int))
 (br (lti name (1 : Int))
 v25
 (br (lti (60 : Int) name)
 v25
 v24))
 v24)))))))) := by subst_vars; kernel_rfl
theorem law_UnitSays_w (m : Nat) (K : KK) (st : St) : goD Γ_law_UnitSays tab fn_law_UnitSays 0 K (m + 1) [.code (bodyOf fn_law_UnitSays)] st = segD Γ_law_UnitSays tab fn_law_UnitSays 0 K (goD Γ_law_UnitSays tab fn_law_UnitSays 0 K m) [.code (bodyOf fn_law_UnitSays)] st := rfl

theorem newU_bad {l : List Int} {name : Int} (hi : checkImage l = 0) (hn : name < 1 ∨ 60 < name) : newU l name = (noUnit, 3) := by
  obtain ⟨i1, i2, i3⟩ := checkImage_ok hi
  have : (factoryU l name).2 = 3 := by
    unfold factoryU
    rw [format_fresh]
    have ck : checkSlot ⟨freshW, -1⟩ ((0 : Nat) : Int) = 0 := checkSlot_mk freshW_len (by omega) (by omega) freshW_ok (by omega)
    have fo := freshW_ok
    have fl := freshW_len
    obtain ⟨F, hF⟩ : ∃ F, freshW = F := ⟨_, rfl⟩
    rw [hF] at fo fl ck ⊢
    have fe : fillS ⟨F, -1⟩ 0 0 l = (⟨applyCh F (burnCh 68 l), -1⟩, 0) := by
      unfold fillS
      rw [show checkSlot ⟨F, -1⟩ 0 = 0 from ck, if_pos rfl, if_pos (by omega), show (68 : Int) + 64 * 0 + 0 = 68 by omega, programF_ok (okLen192 fl) (by simp) (by simp) fo (by omega) (by simp only [fl]; omega) i3, doCh_free]; rfl
    rw [fe]
    have g_ok : okWords (applyCh F (burnCh 68 l)) = true := burn_ok (by omega) (by rw [fl]; omega) fo i3
    have g_len : (applyCh F (burnCh 68 l)).length = 192 := (applyCh_len _ _).trans fl
    have ck2 : checkSlot ⟨applyCh F (burnCh 68 l), -1⟩ 0 = 0 := checkSlot_mk (t := 0) g_len (by omega) (by omega) g_ok (by omega)
    unfold sealS
    simp only
    rw [ck2, if_pos rfl, if_neg (by simp only [okHead, Bool.and_eq_true, decide_eq_true_eq]; omega)]
  unfold newU
  rw [if_pos hi, if_neg (by rw [this]; decide), this]
set_option maxHeartbeats 4000000 in
theorem run_law_UnitSays (b : List (List UInt8)) (ws : List Int) (fu : Int) (up : Bool) (un ug : Int)(mk mu mn ma mi : Int) (mw : List Int) (my : Bool) (l : List Int) (name : Int) (hp : b.length ≤ 140737488355328 ∧ len ws * 8 ≤ 140737488355328 ∧ Sm mw ∧ I64 name) (K : KK) (hK : K (.one (dB true)) []) : ∃ m, goD Γ_law_UnitSays tab fn_law_UnitSays 0 K m [.code (bodyOf fn_law_UnitSays)] (initSt [.agg [.dat (.list .str) b], .agg [dL ws, dI fu, dB up, dI un, dI ug], .agg [dI mk, dI mu, dI mn, dI ma, dI mi, dL mw, dB my], .one (dL l), .one (dI name)] []) := by
  refine ⟨1, ?_⟩
  rw [law_UnitSays_w, law_UnitSays_vc _ _ _ _ _ _ _ _ _ _ _ _ _ _ _ _ _ _ rfl _ rfl _ rfl _ rfl _ rfl _ rfl _ rfl _ rfl _ rfl _ rfl _ rfl _ rfl _ rfl _ rfl _ rfl _ rfl _ rfl _ rfl _ rfl _ rfl _ rfl _ rfl _ rfl _ rfl _ rfl _ rfl _ rfl _ rfl _ rfl _ rfl _ rfl _ rfl _ rfl]
  have e0 : ∀ a : Int, eqi a a = true := fun a => eqi_true.2 rfl
  have e1 : ∀ a : Bool, eqb a a = true := fun a => eqb_true.2 rfl
  have T : K (.one (dB true)) [] = True := eq_true hK
  obtain ⟨p1, p2, p3, p4⟩ := hp
  have f1 : ((len ws * 8) ≤ 140737488355328) = True := eq_true p2
  have f2 : (List.length b ≤ 140737488355328) = True := eq_true p1
  have f3 : (List.length ws ≤ 140737488355328) = True := eq_true (by simp only [len] at p2; omega)
  have f4 : (List.length ([] : List Int) ≤ 140737488355328) = True := eq_true (by simp)
  have m0 : sameMsgs [] [] = true := rfl
  simp only [e0, f1, f2, f3, sameUnit_refl, br, Bool.not_true, Bool.not_false, true_and]
  have IM : (checkImage l = 0 ∧ name < 1) ∨ (checkImage l = 0 ∧ 60 < name) ∨ (checkImage l = 0 ∧ 1 ≤ name ∧ name ≤ 60) ∨ checkImage l ≠ 0 := by
    by_cases hi : checkImage l = 0
    · by_cases n1 : name < 1
      · exact .inl ⟨hi, n1⟩
      · by_cases n2 : 60 < name
        · exact .inr (.inl ⟨hi, n2⟩)
        · exact .inr (.inr (.inl ⟨hi, by omega, by omega⟩))
    · exact .inr (.inr (.inr hi))
  rcases IM with ⟨hi, n1⟩ | ⟨hi, n2⟩ | ⟨hi, n1, n2⟩ | hi
  case' inl =>
    simp only [hi, e0, lti_true.2 n1, newU_bad hi (.inl n1), noUnit, noFlash, sameUnit_refl, f4, br, Bool.not_true, Bool.not_false, true_and]
  case' inr.inl =>
    simp only [hi, e0, lti_false.2 (show (1 : Int) ≤ name by omega), lti_true.2 n2, newU_bad hi (.inr n2), noUnit, noFlash, sameUnit_refl, f4, br, Bool.not_true, Bool.not_false, true_and]
  case' inr.inr.inl =>
    have hm : (List.length (madeW l name) ≤ 140737488355328) = True := eq_true (by rw [madeW_len _ _ (checkImage_ok hi).2.1]; omega)
    simp only [hi, e0, lti_false.2 n1, lti_false.2 n2, n1, n2, newU_is hi n1 n2, hm, sameUnit_refl, br, Bool.not_true, Bool.not_false, true_and]
  case' inr.inr.inr =>
    have hi' : eqi (checkImage l) 0 = false := eqi_false.2 hi
    have hn : newU l name = (noUnit, checkImage l) := if_neg hi
    simp only [hi', hn, e0, noUnit, noFlash, sameUnit_refl, f4, br, Bool.not_true, Bool.not_false, true_and]
  all_goals
    by_cases hu : checkU ⟨⟨ws, fu⟩, up, un, ug⟩ = 0
    case neg =>
      have hu' : eqi (checkU ⟨⟨ws, fu⟩, up, un, ug⟩) 0 = false := eqi_false.2 hu
      have hr : readU ⟨⟨ws, fu⟩, up, un, ug⟩ = (⟨0, 0, 0⟩, checkU ⟨⟨ws, fu⟩, up, un, ug⟩) := if_neg hu
      have hs : runsU ⟨⟨ws, fu⟩, up, un, ug⟩ = ([], 0, checkU ⟨⟨ws, fu⟩, up, un, ug⟩) := if_neg hu
      have hb : bootU ⟨⟨ws, fu⟩, up, un, ug⟩ = (noUnit, checkU ⟨⟨ws, fu⟩, up, un, ug⟩) := if_neg hu
      have z1 : w64 (((len ([] : List Int) : Nat) : Int) + 0) = 0 := by decide
      have z2 : eqi (((len ([] : List Vm.Message) : Nat) : Int)) 0 = true := rfl
      simp only [hu', hr, hs, hb, e0, z1, noUnit, noFlash, sameUnit_refl, f4, br, Bool.not_true, Bool.not_false, Bool.and_true, Bool.and_self, true_and]
      by_cases hk : checkBook b = 0
      · have hh : hearU b ⟨⟨ws, fu⟩, up, un, ug⟩ ⟨mk, mu, mn, ma, mi, mw, my⟩ = ((noUnit, []), checkU ⟨⟨ws, fu⟩, up, un, ug⟩) := by
          have : hearE b ⟨⟨ws, fu⟩, up, un, ug⟩ ⟨mk, mu, mn, ma, mi, mw, my⟩ = checkU ⟨⟨ws, fu⟩, up, un, ug⟩ := by unfold hearE; rw [if_pos hk, if_neg hu]
          unfold hearU
          rw [this, if_neg hu]
        simp only [hk, hh, hu', e0, z2, noUnit, noFlash, sameUnit_refl, f4, br, Bool.not_true, Bool.not_false, true_and, T]
      · have hk' : eqi (checkBook b) 0 = false := eqi_false.2 hk
        have hh : hearU b ⟨⟨ws, fu⟩, up, un, ug⟩ ⟨mk, mu, mn, ma, mi, mw, my⟩ = ((noUnit, []), checkBook b) := by
          have : hearE b ⟨⟨ws, fu⟩, up, un, ug⟩ ⟨mk, mu, mn, ma, mi, mw, my⟩ = checkBook b := by unfold hearE; rw [if_neg hk]
          unfold hearU
          rw [this, if_neg hk]
        simp only [hk', hh, e0, z2, noUnit, noFlash, sameUnit_refl, f4, br, Bool.not_true, Bool.not_false, true_and, T]
    case pos =>
      have z2 : eqi (((len ([] : List Vm.Message) : Nat) : Int)) 0 = true := rfl
      have hF : OkF ⟨ws, fu⟩ := okF_of hu
      have hr : readU ⟨⟨ws, fu⟩, up, un, ug⟩ = (ofU ⟨ws, fu⟩, 0) := readU_ok hu
      have ho := ofU_ok ⟨ws, fu⟩
      obtain ⟨o, ho1, _, ho2⟩ := other_slot ho
      have ck : checkSlot ⟨ws, fu⟩ (ofU ⟨ws, fu⟩).slot = 0 := by rw [ho2]; exact checkSlot_of hF (by omega)
      have hs : runsU ⟨⟨ws, fu⟩, up, un, ug⟩ = ((imageR ws (ofU ⟨ws, fu⟩).slot).1, (imageR ws (ofU ⟨ws, fu⟩).slot).2, if sealedAt ws (beginS (ofU ⟨ws, fu⟩).slot) then 0 else 4) := (runsU_ok hu).trans (if_pos ck)
      have hb : bootU ⟨⟨ws, fu⟩, up, un, ug⟩ = (⟨⟨ws, -1⟩, true, 0, 0⟩, 0) := bootU_ok hu
      have hlog : checkLog ⟨ws, fu⟩ = 0 := hF.1
      have hl : (List.length (imageR ws (ofU ⟨ws, fu⟩).slot).1 ≤ 140737488355328) = True := eq_true (imageR_len _ _ (n := 140737488355328) (by have : ws.length = 192 := hF.2; omega))
      have hq : ∀ x : List Int, eqIs x x = true := fun x => decide_eq_true rfl
      have s0 : sealedAt ws (beginS (ofU ⟨ws, fu⟩).slot) = true → eqi (imageR ws (ofU ⟨ws, fu⟩).slot).2 0 = false := fun h => by
        have := sealedAt_ok h
        unfold imageR
        rw [if_pos h]
        exact eqi_false.2 (by simp only; omega)
      have s1 : sealedAt ws (beginS (ofU ⟨ws, fu⟩).slot) = false → eqi (imageR ws (ofU ⟨ws, fu⟩).slot).2 0 = true := fun h => by
        unfold imageR
        rw [if_neg (by rw [h]; simp)]
        exact eqi_true.2 rfl
      have e4 : eqi 4 0 = false := by decide
      have eb : eqb false false = true := rfl
      cases hsl : sealedAt ws (beginS (ofU ⟨ws, fu⟩).slot)
      case' false =>
        rw [hsl] at hs
        simp only [hu, e0, hr, hs, hb, hlog, ck, hl, hq, s1 hsl, if_neg Bool.false_ne_true, e4, e1, sameUnit_refl, f3, br, Bool.not_true, Bool.not_false, Bool.and_true, Bool.and_self, true_and]
      case' true =>
        rw [hsl] at hs
        simp only [hu, e0, hr, hs, hb, hlog, ck, hl, hq, s0 hsl, if_true, e1, sameUnit_refl, f3, br, Bool.not_true, Bool.not_false, Bool.and_true, Bool.and_self, true_and]
      all_goals
        by_cases hk : checkBook b = 0
        case neg =>
          have hk' : eqi (checkBook b) 0 = false := eqi_false.2 hk
          have hh : hearU b ⟨⟨ws, fu⟩, up, un, ug⟩ ⟨mk, mu, mn, ma, mi, mw, my⟩ = ((noUnit, []), checkBook b) := by
            have : hearE b ⟨⟨ws, fu⟩, up, un, ug⟩ ⟨mk, mu, mn, ma, mi, mw, my⟩ = checkBook b := by unfold hearE; rw [if_neg hk]
            unfold hearU
            rw [this, if_neg hk]
          simp only [hk', hh, e0, z2, noUnit, noFlash, sameUnit_refl, f4, br, Bool.not_true, Bool.not_false, true_and, T]
        case pos =>
          by_cases hmm : checkM ⟨mk, mu, mn, ma, mi, mw, my⟩ = 0
          · have hh := hearU_mk hk hu hmm
            have hw := okF_of (hears_right (b := b) hu hmm)
            have q1 : (List.length (hearsU b ⟨⟨ws, fu⟩, up, un, ug⟩ ⟨mk, mu, mn, ma, mi, mw, my⟩).1.f.words ≤ 140737488355328) = True := eq_true (by rw [hw.2]; omega)
            have q2 := hears_says (b := b) (u := ⟨⟨ws, fu⟩, up, un, ug⟩) (m := ⟨mk, mu, mn, ma, mi, mw, my⟩)
            have q3 : (List.length (hearsU b ⟨⟨ws, fu⟩, up, un, ug⟩ ⟨mk, mu, mn, ma, mi, mw, my⟩).2 ≤ 140737488355328) = True := eq_true (by have := q2.1; omega)
            simp only [hk, hmm, hh, e0, sameUnit_refl, sameMsgs_refl, q1, q2.2, q3, br, Bool.not_true, Bool.not_false, true_and, and_true, T]
          · have hm' : eqi (checkM ⟨mk, mu, mn, ma, mi, mw, my⟩) 0 = false := eqi_false.2 hmm
            have hh : hearU b ⟨⟨ws, fu⟩, up, un, ug⟩ ⟨mk, mu, mn, ma, mi, mw, my⟩ = ((noUnit, []), checkM ⟨mk, mu, mn, ma, mi, mw, my⟩) := by
              have : hearE b ⟨⟨ws, fu⟩, up, un, ug⟩ ⟨mk, mu, mn, ma, mi, mw, my⟩ = checkM ⟨mk, mu, mn, ma, mi, mw, my⟩ := by unfold hearE; rw [if_pos hk, if_pos hu]
              unfold hearU
              rw [this, if_neg hmm]
            simp only [hk, hm', hh, e0, z2, noUnit, noFlash, sameUnit_refl, f4, br, Bool.not_true, Bool.not_false, true_and, T]
theorem sound_law_UnitSays : SoundC Tryz.prog tab n_law_UnitSays c_law_UnitSays := soundC_of ok_law_UnitSays hf_law_UnitSays hB_law_UnitSays (by
  intro vs bs p v bs' h hp
  unfold c_law_UnitSays at h
  split at h
  · cases h
    exact ⟨by kernel_rfl, rfl, .inl (run_law_UnitSays _ _ _ _ _ _ _ _ _ _ _ _ _ _ _ hp.1 _ ⟨rfl, rfl⟩)⟩
  · cases h)
end Go.Proofs.YtlbppjmekiemiacGreatDoor
