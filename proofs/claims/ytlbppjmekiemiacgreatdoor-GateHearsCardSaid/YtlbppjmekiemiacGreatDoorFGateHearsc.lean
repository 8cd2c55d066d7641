/- What the functions of GateHears compute (part 3 of 3). No condition. -/
import Derived.Test.YtlbppjmekiemiacGreatDoorFGateHearsb
import Derived.KernelRfl
namespace Go.Proofs.YtlbppjmekiemiacGreatDoor
open Vm
set_option maxHeartbeats 4000000
variable (my up:Bool) (cn cu cv fu ma mi mk mn mu tn tt tv which:Int) (ci keep:List (List Int)) (di vo:List Bool) (mw r tk ws:List Int) (ct:List Vm.Target)
def c_q82:Contract:=fun vs bs=>match vs,bs with
 | [.agg [.dat (.list .int) ws,.dat .int fu],.one (.dat (.list .int) r),.one (.dat (.list (.list .int)) keep)],[]=>some (some (checkLog ⟨ws,fu⟩=0∧Sm r∧len keep*24≤140737488351232∧smR keep=true),.tup [.agg [dL (appendF ⟨ws,fu⟩ r keep).1.words,dI (appendF ⟨ws,fu⟩ r keep).1.fuel],.one (dI (appendF ⟨ws,fu⟩ r keep).2)],[])
 | _,_=>none
def Γ_q82:Ctx:=[(n_q80,c_q80),(n_q77,c_q77),(n_q81,(weakC c_q81)),(n_q36,c_q36),(n_q35,c_q35),(n_q75,c_q75),(n_q37,c_q37)]
theorem ok_q82:Ok Tryz.prog tab Γ_q82:=(((((((ok_nil.c hg_q37 sound_q37).c hg_q75 sound_q75).c hg_q35 sound_q35).c hg_q36 sound_q36).c hg_q81 (soundC_weak sound_q81)).c hg_q77 sound_q77).c hg_q80 sound_q80)
noncomputable def q82_L0:List It:=[.inLoop [10,9,7,6,3,1,2] (cSub fn_q82 [1,1,1,0,1,0,0]),.inBlock 0,.code (cSub fn_q82 [1,1,1,1])]
def q82_S0 (x0 x1:Int) (x2:List Int) (x3:List (List Int)) (x4:List Int) (x5:Int) (x6:List Int) (x7:Int) (x8:List Int):St:=⟨[(10,.one (dI x0)),(9,.one (.own 0)),(7,.one (dI x1)),(6,.one (.ptr 1 0)),(3,.one (.ptr 2 0)),(1,.one (dL x2)),(2,.one (dR x3))],[(0,.arr Ty.int x4),(1,.box [.own 3,dI x5]),(2,.box [dL x6,dI x7]),(3,.arr Ty.int x8)],4⟩
theorem q82_vc (ws:List Int) (fu:Int) (r:List Int) (keep:List (List Int)) (rec:RK) (K:KK) v0 (hv0:v0=checkRec r):segD Γ_q82 tab fn_q82 0 K rec [.code (bodyOf fn_q82)] (initSt [.agg [dL ws,dI fu],.one (dL r),.one (dR keep)] [])=(
 List.length r≤140737488355328 ∧
 br (!(eqi v0 0))
 (K (.tup [.agg [dL [],dI (0:Int)],.one (dI v0)]) [])
 (rec q82_L0 (q82_S0 0 0 r keep [] 0 ws fu []))):=by subst_vars; kernel_rfl
theorem q82_vc0 (x0 x1:Int) (x2:List Int) (x3:List (List Int)) (x4:List Int) (x5:Int) (x6:List Int) (x7:Int) (x8:List Int) (rec:RK) (K:KK) v0 (hv0:v0=checkRec (nth x3 (Int.toNat x0) (Ty.dflt (Ty.list Ty.int)))) v1 (hv1:v1=checkRec x2) v2 (hv2:v2=okWords x6) v3 (hv3:v3=liveS x6) v4 (hv4:v4=scanS x6 v3) v5 (hv5:v5=nextI v3 v4.snd) v6 (hv6:v6=burnCh (w64 (v5+1)) x2) v7 (hv7:v7=burnCh v5 (w64 ((42240:Int)+(len x2:Int))::[])) v8 (hv8:v8=inPlaces (List.length x6) (cat v6 v7)) v9 (hv9:v9=doCh (⟨x6,x7⟩:Flash) (cat v6 v7)) v10 (hv10:v10=powerE v9.snd) v11 (hv11:v11=liveG x6) v12 (hv12:v12=wipeCh (w64 ((1:Int)-((v3:Nat):Int)))) v13 (hv13:v13=burnCh (w64 (w64 ((32:Int)*w64 ((1:Int)-((v3:Nat):Int)))+1)) x4) v14 (hv14:v14=burnCh (w64 ((32:Int)*w64 ((1:Int)-((v3:Nat):Int)))) (w64 (v11+1)::[])) v15 (hv15:v15=joinCh (v12::v13::v14::[])) v16 (hv16:v16=inPlaces (List.length x6) v15) v17 (hv17:v17=doCh (⟨x6,x7⟩:Flash) v15) v18 (hv18:v18=powerE v17.snd) v19 (hv19:v19=br (eqi v11 60000)
 (K (.tup [.agg [dL [],dI (0:Int)],.one (dI 8)]) [])
 (((0:Int)≤w64 ((1:Int)-((v3:Nat):Int))∧w64 ((1:Int)-((v3:Nat):Int))≤10) ∧
 ((0:Int)≤w64 (w64 ((32:Int)*w64 ((1:Int)-((v3:Nat):Int)))+1)∧w64 (w64 ((32:Int)*w64 ((1:Int)-((v3:Nat):Int)))+1)≤1000∧len x4≤1000) ∧
 ((0:Int)≤w64 ((32:Int)*w64 ((1:Int)-((v3:Nat):Int)))∧w64 ((32:Int)*w64 ((1:Int)-((v3:Nat):Int)))≤1000∧len (w64 (v11+1)::[])≤1000) ∧
 (List.length (v12::v13::v14::[])≤10∧List.length v15≤1000) ∧
 (len x6≤192∧(-1)≤x7∧x7≤100000∧len v15≤1000∧v16=true) ∧
 K (.tup [.agg [dL v17.fst.words,dI v17.fst.fuel],.one (dI v18)]) [])) v20 (hv20:v20=K (.tup [.agg [dL [],dI (0:Int)],.one (dI 8)]) []):segD Γ_q82 tab fn_q82 0 K rec (ent q82_L0) (q82_S0 x0 x1 x2 x3 x4 x5 x6 x7 x8)=(
 br (lei x0 (len x3:Int))
 (br (lti x0 (len x3:Int))
 (((0:Int)≤x0∧x0<(len x3:Int)) ∧
 List.length (nth x3 (Int.toNat x0) (Ty.dflt (Ty.list Ty.int)))≤140737488355328 ∧
 br (!(eqi v0 0))
 (K (.tup [.agg [dL [],dI (0:Int)],.one (dI v0)]) [])
 ((len x4+len (w64 ((42240:Int)+(((len (nth x3 (Int.toNat x0) (Ty.dflt (Ty.list Ty.int)))):Nat):Int))::[]))*8≤140737488355328 ∧
 (len (cat x4 (w64 ((42240:Int)+(((len (nth x3 (Int.toNat x0) (Ty.dflt (Ty.list Ty.int)))):Nat):Int))::[]))+len (nth x3 (Int.toNat x0) (Ty.dflt (Ty.list Ty.int))))*8≤140737488355328 ∧
 br (lti 31 (((len (cat (cat x4 (w64 ((42240:Int)+(((len (nth x3 (Int.toNat x0) (Ty.dflt (Ty.list Ty.int)))):Nat):Int))::[])) (nth x3 (Int.toNat x0) (Ty.dflt (Ty.list Ty.int))))):Nat):Int))
 v20
 (rec q82_L0 (q82_S0 (w64 (x0+1)) x1 x2 x3 (cat (cat x4 (w64 ((42240:Int)+(((len (nth x3 (Int.toNat x0) (Ty.dflt (Ty.list Ty.int)))):Nat):Int))::[])) (nth x3 (Int.toNat x0) (Ty.dflt (Ty.list Ty.int)))) x5 x6 x7 x8))))
 (List.length x2≤140737488355328 ∧
 br (!(eqi v1 0))
 (K (.tup [.agg [dL [],dI (0:Int)],.one (dI v1)]) [])
 ((len x4+len (w64 ((42240:Int)+(len x2:Int))::[]))*8≤140737488355328 ∧
 (len (cat x4 (w64 ((42240:Int)+(len x2:Int))::[]))+len x2)*8≤140737488355328 ∧
 br (lti 31 (((len (cat (cat x4 (w64 ((42240:Int)+(len x2:Int))::[])) x2)):Nat):Int))
 v20
 (rec q82_L0 (q82_S0 (w64 (x0+1)) x1 x2 x3 (cat (cat x4 (w64 ((42240:Int)+(len x2:Int))::[])) x2) x5 x6 x7 x8)))))
 (64≤len x6 ∧
 (64≤len x6∧len x6≤192∧v2=true) ∧
 br (lei 0 v5)
 (br (lei (w64 (w64 (v5+1)+(len x2:Int))) (w64 (w64 ((32:Int)*((v3:Nat):Int))+32)))
 (((0:Int)≤w64 (v5+1)∧w64 (v5+1)≤1000∧len x2≤1000) ∧
 ((0:Int)≤v5∧v5≤1000∧len (w64 ((42240:Int)+(len x2:Int))::[])≤1000) ∧
 (len v6+len v7)*16≤140737488355328 ∧
 (len x6≤192∧(-1)≤x7∧x7≤100000∧len (cat v6 v7)≤1000∧v8=true) ∧
 K (.tup [.agg [dL v9.fst.words,dI v9.fst.fuel],.one (dI v10)]) [])
 v19)
 v19)):=by subst_vars; kernel_rfl

theorem nth_snoc (keep:List (List Int)) (r:List Int) (k:Nat) (d:List Int) (h:k≤keep.length):nth (keep++[r]) k d=if k<keep.length then nth keep k d else r:=by
 unfold nth
 simp only [List.getD_eq_getElem?_getD]
 by_cases c:k<keep.length
 ·rw [if_pos c,List.getElem?_append_left c]
 ·have:k=keep.length:=by omega
  subst this
  rw [if_neg c]; simp
theorem loop_q82 (ws r:List Int) (fu:Int) (keep:List (List Int)) (hl:keep.length≤5864062014806) (hs:smR keep=true) (hr:r.length≤140737488355328) (K:KK)
  (hbad:∀ e,e≠0→gather 0 (keep++[r])=e→K (.tup [.agg [dL [],dI 0],.one (dI e)]) [])
  (hend:∀ M,gather 0 (keep++[r])=0→(allW (keep++[r])).length≤31→goD Γ_q82 tab fn_q82 0 K (M+1) q82_L0 (q82_S0 (((keep.length+1:Nat):Int)) 0 r keep (allW (keep++[r])) 0 ws fu [])) :
  ∀ (d k:Nat),keep.length+1≤k+d→k≤keep.length+1→(allW ((keep++[r]).take k)).length≤31→gather 0 (keep++[r])=gather (allW ((keep++[r]).take k)).length ((keep++[r]).drop k) →
  goD Γ_q82 tab fn_q82 0 K (d+1) q82_L0 (q82_S0 (k:Int) 0 r keep (allW ((keep++[r]).take k)) 0 ws fu [])
 | 0,k,hk,hk2,ha,hg=>by
  have:k=keep.length+1:=by omega
  subst this
  rw [List.take_of_length_le (by simp)] at ha hg ⊢
  rw [List.drop_of_length_le (by simp)] at hg
  exact hend 0 hg ha
 | d+1,k,hk,hk2,ha,hg=>by
  by_cases c:k=keep.length+1
  ·subst c
   rw [List.take_of_length_le (by simp)] at ha hg ⊢
   rw [List.drop_of_length_le (by simp)] at hg
   exact hend (d+1) hg ha
  have hlen:(keep++[r]).length=keep.length+1:=by simp
  have ht:=take_step (l:=keep++[r]) (k:=k) (by omega) (Ty.dflt (.list .int))
  rw [drop_step (by omega) (Ty.dflt (.list .int))] at hg
  have hn:=nth_snoc keep r k (Ty.dflt (.list .int)) (by omega)
  obtain ⟨x,hx⟩:∃ x,nth (keep++[r]) k (Ty.dflt (.list .int))=x:=⟨_,rfl⟩
  rw [hx] at ht hg hn
  simp only [gather] at hg
  have ek:w64 ((k:Int)+1)=((k+1:Nat):Int):=w64_succ (by omega)
  -- one round, whichever record it is
  have body:((checkRec x≠0→K (.tup [.agg [dL [],dI 0],.one (dI (checkRec x))]) []))∧(checkRec x=0 →
    ((((len (allW ((keep++[r]).take k)))+(len ((w64 ((42240:Int)+(((len x):Nat):Int)))::[])))*8)≤140737488355328) ∧
    ((((len (cat (allW ((keep++[r]).take k)) ((w64 ((42240:Int)+(((len x):Nat):Int)))::[])))+(len x))*8)≤140737488355328) ∧
    (br (lti (31:Int) (((len (cat (cat (allW ((keep++[r]).take k)) ((w64 ((42240:Int)+(((len x):Nat):Int)))::[])) x)):Nat):Int))
      (K (.tup [.agg [dL [],dI (0:Int)],.one (dI (8:Int))]) [])
      (goD Γ_q82 tab fn_q82 0 K (d+1) q82_L0 (q82_S0 (w64 ((k:Int)+(1:Int))) 0 r keep (cat (cat (allW ((keep++[r]).take k)) ((w64 ((42240:Int)+(((len x):Nat):Int)))::[])) x) 0 ws fu [])))):=by
   refine ⟨fun h1=>?_,fun h1=>?_⟩
   ·rw [if_neg h1] at hg
    exact hbad _ h1 hg
   ·rw [if_pos h1] at hg
    obtain ⟨r1,r2,r3⟩:=checkRec_ok h1
    have ew:w64 (42240+(((len x):Nat):Int))=42240+(x.length:Int):=w64_id (by simp only [len]; omega) (by simp only [len]; omega)
    rw [ew,ek]
    have e:cat (cat (allW ((keep++[r]).take k)) [42240+(x.length:Int)]) x=allW ((keep++[r]).take (k+1)):=by rw [ht,allW_snoc]; simp [cat,recW]
    have el:(allW ((keep++[r]).take (k+1))).length=(allW ((keep++[r]).take k)).length+1+x.length:=by rw [ht,allW_snoc,List.length_append,recW_len]; omega
    rw [e]
    refine ⟨by simp only [len,List.length_cons,List.length_nil]; omega,by simp only [len,cat,List.length_append,List.length_cons,List.length_nil]; omega,lt_s (fun h2=>?_) (fun h2=>?_)⟩
    ·simp only [len] at h2
     rw [if_neg (by omega)] at hg
     exact hbad 8 (by decide) hg
    ·simp only [len] at h2
     rw [if_pos (by omega)] at hg
     exact loop_q82 ws r fu keep hl hs hr K hbad hend d (k+1) (by omega) (by omega) (by omega) (by rw [hg,el])
  rw [goD_in (L:=q82_L0),q82_vc0 _ _ _ _ _ _ _ _ _ _ _ _ rfl _ rfl _ rfl _ rfl _ rfl _ rfl _ rfl _ rfl _ rfl _ rfl _ rfl _ rfl _ rfl _ rfl _ rfl _ rfl _ rfl _ rfl _ rfl _ rfl _ rfl,toNat_nat]
  refine br_t (lei_true.2 (by simp only [len]; omega)) (lt_s (fun h0=>?_) (fun h0=>?_))
  ·simp only [len] at h0
   rw [if_pos (by omega)] at hn
   have hm:nth keep k (Ty.dflt (.list .int))∈keep:=by
    have:k<keep.length:=by omega
    simp [nth,List.getD_eq_getElem?_getD,this]
   have hsm:=List.all_eq_true.1 hs _ hm
   simp only [decide_eq_true_eq] at hsm
   rw [← hn] at hsm ⊢
   exact ⟨⟨by omega,by simp only [len]; omega⟩,hsm,ne_s body.1 body.2⟩
  ·simp only [len] at h0
   rw [if_neg (by omega)] at hn
   rw [← hn] at hr body hbad hend ⊢
   exact ⟨hr,ne_s body.1 body.2⟩
theorem run_q82 (hp:checkLog ⟨ws,fu⟩=0∧Sm r∧len keep*24≤140737488351232∧smR keep=true) (K:KK) (hK:K (.tup [.agg [dL (appendF ⟨ws,fu⟩ r keep).1.words,dI (appendF ⟨ws,fu⟩ r keep).1.fuel],.one (dI (appendF ⟨ws,fu⟩ r keep).2)]) []):GD Γ_q82 fn_q82 0 K [.agg [dL ws,dI fu],.one (dL r),.one (dR keep)] []:=by
 obtain ⟨hc,hr,hk1,hk2⟩:=hp
 have hk3:keep.length*24≤140737488351232:=hk1
 unfold Sm at hr
 refine ⟨keep.length+1+1+1,?_⟩
 rw [goD_code,q82_vc _ _ _ _ _ _ _ rfl]
 unfold appendF appendE at hK
 rw [if_pos hc] at hK
 refine ⟨hr,ne_s (fun h2=>?_) (fun h2=>?_)⟩
 ·rw [if_neg h2,if_neg h2] at hK; exact hK
 rw [if_pos h2] at hK
 obtain ⟨k1,k2,k3,k4⟩:=checkLog_ok hc
 obtain ⟨c1,c2,c3,c4⟩:=checkFlash_ok k1
 obtain ⟨c5,c6⟩:=okLen_le c1
 simp only at k2 k3 k4 c2 c3 c4 c5 c6
 obtain ⟨r1,r2,r3⟩:=checkRec_ok h2
 have e0:allW ((keep++[r]).take 0)=[]:=by simp [allW]
 have l0:(allW ((keep++[r]).take 0)).length=0:=by rw [e0]; rfl
 refine loop_q82 ws r fu keep (by omega) hk2 hr K (fun e he hg=>?_) (fun M hg hal=>?_) (keep.length+1) 0 (by omega) (by omega) (by omega) (by rw [l0,List.drop_zero])
 ·rw [hg,if_neg he] at hK; exact hK
 obtain ⟨rs,hrs⟩:∃ rs,keep++[r]=rs:=⟨_,rfl⟩
 simp only [hrs] at hg hal hK ⊢
 rw [hg,if_pos rfl] at hK
 rw [goD_in (L:=q82_L0),q82_vc0 _ _ _ _ _ _ _ _ _ _ _ _ rfl _ rfl _ rfl _ rfl _ rfl _ rfl _ rfl _ rfl _ rfl _ rfl _ rfl _ rfl _ rfl _ rfl _ rfl _ rfl _ rfl _ rfl _ rfl _ rfl _ rfl]
 unfold appendCh at hK
 simp only [hrs] at hK
 have hls:=liveS_le ws
 have hgr:=genOf_range c4 (liveS ws)
 have hg1:liveG ws=genOf ws (liveS ws):=rfl
 obtain ⟨s,hs⟩:∃ s,liveS ws=s:=⟨_,rfl⟩
 rw [hs] at hK hls ⊢
 obtain ⟨g,hgg⟩:∃ g,liveG ws=g:=⟨_,rfl⟩
 rw [hgg] at hK hg1 k3 k4 ⊢
 have ew:w64 (42240+(((len r):Nat):Int))=42240+(r.length:Int):=w64_id (by simp only [len]; omega) (by simp only [len]; omega)
 rw [ew,w64_id (n:=32*(s:Int)) (by omega) (by omega),w64_id (n:=32*(s:Int)+32) (by omega) (by omega),w64_id (n:=1-(s:Int)) (by omega) (by omega),w64_id (n:=32*(1-(s:Int))) (by omega) (by omega),w64_id (n:=32*(1-(s:Int))+1) (by omega) (by omega),w64_id (n:=g+1) (by omega) (by omega)]
 have ho:1-(s:Int)=((1-s:Nat):Int):=by omega
 rw [ho]
 have ej:joinCh [wipeCh ((1-s:Nat):Int),burnCh (32*((1-s:Nat):Int)+1) (allW rs),burnCh (32*((1-s:Nat):Int)) [g+1]]=thereCh (1-s) rs (g+1):=by simp [joinCh,thereCh]
 rw [ej]
 have lth:(thereCh (1-s) rs (g+1)).length≤64:=by
  unfold thereCh wipeCh
  rw [List.length_append,List.length_append,wipeFrom_len,burnCh_len,burnCh_len,List.length_singleton]; omega
 have inth:inPlaces ws.length (thereCh (1-s) rs (g+1))=true:=by
  have a1:=wipe_in ws.length 32 (32*((1-s:Nat):Int)) (by omega) (by omega)
  have a2:=burn_in ws.length (allW rs) (32*((1-s:Nat):Int)+1) (by omega) (by omega)
  have a3:=burn_in ws.length [g+1] (32*((1-s:Nat):Int)) (by omega) (by simp only [List.length_cons,List.length_nil]; omega)
  unfold inPlaces thereCh wipeCh at *
  rw [List.all_append,List.all_append,a1,a2,a3]; rfl
 refine br_f (lei_false.2 (by simp only [len]; omega)) ⟨k2,⟨k2,c6,c4⟩,?_⟩
 have there:=fun (hK:K (.tup [.agg [dL (power (doCh ⟨ws,fu⟩ (thereCh (1-s) rs (g+1)))).1.words,dI (power (doCh ⟨ws,fu⟩ (thereCh (1-s) rs (g+1)))).1.fuel],.one (dI (power (doCh ⟨ws,fu⟩ (thereCh (1-s) rs (g+1)))).2)]) []) =>
  show (((0:Int)≤((1-s:Nat):Int))∧(((1-s:Nat):Int)≤(10:Int)))∧((((0:Int)≤(32*((1-s:Nat):Int)+1))∧(((32*((1-s:Nat):Int)+1)≤(1000:Int))∧((len (allW rs))≤1000))) ∧
   ((((0:Int)≤(32*((1-s:Nat):Int)))∧(((32*((1-s:Nat):Int))≤(1000:Int))∧((len [g+1])≤1000))) ∧
   ((((List.length [wipeCh ((1-s:Nat):Int),burnCh (32*((1-s:Nat):Int)+1) (allW rs),burnCh (32*((1-s:Nat):Int)) [g+1]])≤10)∧((List.length (thereCh (1-s) rs (g+1)))≤1000)) ∧
   ((((len ws)≤192)∧(((-(1:Int))≤fu)∧((fu≤(100000:Int))∧(((len (thereCh (1-s) rs (g+1)))≤1000)∧(inPlaces ws.length (thereCh (1-s) rs (g+1))=true))))) ∧
   (K (.tup [.agg [dL (doCh ⟨ws,fu⟩ (thereCh (1-s) rs (g+1))).1.words,dI (doCh ⟨ws,fu⟩ (thereCh (1-s) rs (g+1))).1.fuel],.one (dI (powerE (doCh ⟨ws,fu⟩ (thereCh (1-s) rs (g+1))).2))]) []))))) from
  ⟨by omega,⟨by omega,by omega,by simp only [len]; omega⟩,⟨by omega,by omega,by simp [len]⟩,⟨by simp only [List.length_cons,List.length_nil]; omega,by omega⟩,⟨c6,c2,c3,by simp only [len]; omega,inth⟩,hK⟩
 cases hsc:(scanS ws s).2 with
 | none =>
  rw [hsc] at hK
  simp only [room,Bool.false_eq_true,if_false] at hK
  simp only [nextI]
  refine br_f (lei_false.2 (by omega)) (eq_s (fun h5=>?_) (fun h5=>?_))
  ·rw [if_pos h5] at hK; exact hK
  ·rw [if_neg h5] at hK
   exact there hK
 | some a =>
  have ha:=scanS_le (by omega) hsc
  rw [hsc] at hK
  simp only [nextI]
  rw [w64_id (n:=32*(s:Int)+1+a+1) (by omega) (by omega),w64_id (n:=32*(s:Int)+1+a+1+(((len r):Nat):Int)) (by simp only [len]; omega) (by simp only [len]; omega)]
  refine br_t (lei_true.2 (by omega)) (br_split (fun h5=>?_) (fun h5=>?_))
  ·rw [lei_true] at h5
   simp only [len] at h5
   rw [if_pos (show room r.length (some a)=true from by simp only [room,decide_eq_true_eq]; omega)] at hK
   simp only [Option.getD_some,hereCh] at hK
   rw [show ((32*s+1+a:Nat):Int)=32*(s:Int)+1+a by omega] at hK
   have a1:=burn_in ws.length r (32*(s:Int)+1+a+1) (by omega) (by omega)
   have a2:=burn_in ws.length [42240+(r.length:Int)] (32*(s:Int)+1+a) (by omega) (by simp only [List.length_cons,List.length_nil]; omega)
   refine ⟨⟨by omega,by omega,by simp only [len]; omega⟩,⟨by omega,by omega,by simp [len]⟩,by simp only [len,burnCh_len,List.length_cons,List.length_nil]; omega,⟨c6,c2,c3,by simp only [len,cat,List.length_append,burnCh_len,List.length_cons,List.length_nil]; omega,?_⟩,hK⟩
   unfold inPlaces at *
   rw [show cat (burnCh (32*(s:Int)+1+a+1) r) (burnCh (32*(s:Int)+1+a) [42240+(r.length:Int)])=burnCh (32*(s:Int)+1+a+1) r++burnCh (32*(s:Int)+1+a) [42240+(r.length:Int)] from rfl,List.all_append,a1,a2]; rfl
  ·rw [lei_false] at h5
   simp only [len] at h5
   rw [if_neg (show ¬ room r.length (some a)=true from by simp only [room,decide_eq_true_eq]; omega)] at hK
   refine eq_s (fun h6=>?_) (fun h6=>?_)
   ·rw [if_pos h6] at hK; exact hK
   ·rw [if_neg h6] at hK
    exact there hK
theorem sound_q82:SoundC Tryz.prog tab n_q82 c_q82:=soundC_f ok_q82 hg_q82 (by
 intro vs bs p v bs' h hp
 unfold c_q82 at h
 split at h
 ·cases h
  exact ⟨by kernel_rfl,rfl,.inl (run_q82 _ _ _ _ hp.1 _ ⟨rfl,rfl⟩)⟩
 ·cases h)

def c_q210:Contract:=fun vs bs=>match vs,bs with
 | [.one (.ptr 0 0),.one (.dat (.list .int) r)],[.box [.dat (.list .int) ws,.dat .int fu,.dat .bool up,.dat .int tv,.own 1,.dat .int tt,.dat .int tn,.own 2,.own 3],.arr .int tk,.arr .bool vo,.arr .bool di]=>some (some (checkLog ⟨ws,fu⟩=0∧Sm r∧len vo≤1000∧len di≤1000),.one (dB (noteG ⟨⟨ws,fu⟩,up,⟨⟨tv,tk,tt⟩,tn⟩,vo,di⟩ r).2),[.box [dL (noteG ⟨⟨ws,fu⟩,up,⟨⟨tv,tk,tt⟩,tn⟩,vo,di⟩ r).1.f.words,dI (noteG ⟨⟨ws,fu⟩,up,⟨⟨tv,tk,tt⟩,tn⟩,vo,di⟩ r).1.f.fuel,dB (noteG ⟨⟨ws,fu⟩,up,⟨⟨tv,tk,tt⟩,tn⟩,vo,di⟩ r).1.up,dI (noteG ⟨⟨ws,fu⟩,up,⟨⟨tv,tk,tt⟩,tn⟩,vo,di⟩ r).1.t.r.version,.own 4,dI (noteG ⟨⟨ws,fu⟩,up,⟨⟨tv,tk,tt⟩,tn⟩,vo,di⟩ r).1.t.r.thr,dI (noteG ⟨⟨ws,fu⟩,up,⟨⟨tv,tk,tt⟩,tn⟩,vo,di⟩ r).1.t.version,.own 5,.own 6],.dead,.dead,.dead,.arr .int (noteG ⟨⟨ws,fu⟩,up,⟨⟨tv,tk,tt⟩,tn⟩,vo,di⟩ r).1.t.r.keys,.arr .bool (noteG ⟨⟨ws,fu⟩,up,⟨⟨tv,tk,tt⟩,tn⟩,vo,di⟩ r).1.voted,.arr .bool (noteG ⟨⟨ws,fu⟩,up,⟨⟨tv,tk,tt⟩,tn⟩,vo,di⟩ r).1.did])
 | _,_=>none
def Γ_q210:Ctx:=[(n_q209,c_q209),(n_q82,c_q82)]
theorem ok_q210:Ok Tryz.prog tab Γ_q210:=((ok_nil.c hg_q82 sound_q82).c hg_q209 sound_q209)
noncomputable def q210_L0:List It:=[.inLoop [32,31,30,6,5,4,0,1] (cSub fn_q210 [1,1,1,1,0,1,0,0]),.inBlock 0,.code (cSub fn_q210 [1,1,1,1,1])]
def q210_S0 (x0 x1:Int) (x2:Bool) (x3 x4:List Int) (x5:Int) (x6:Bool) (x7 x8 x9:Int) (x10:List Bool) (x11:List (List Int)) (x12 x13:Int) (x14 x15 x16:Bool) (x17:List Int) (x18 x19:List Bool):St:=⟨[(32,.one (dI x0)),(31,.one (dI x1)),(30,.one (.own 4)),(6,.one (.own 5)),(5,.one (.ptr 6 0)),(4,.one (dB x2)),(0,.one (.ptr 0 0)),(1,.one (dL x3))],[(0,.box [dL x4,dI x5,dB x6,dI x7,.own 7,dI x8,dI x9,.own 8,.own 9]),(1,.dead),(2,.dead),(3,.dead),(4,.arr Ty.bool x10),(5,.arr (Ty.list Ty.int) x11),(6,.box [dI x12,dI x13,dB x14,dB x15,dB x16]),(7,.arr Ty.int x17),(8,.arr Ty.bool x18),(9,.arr Ty.bool x19)],10⟩
theorem q210_vc (ws:List Int) (fu:Int) (up:Bool) (tv:Int) (tk:List Int) (tt tn:Int) (vo di:List Bool) (r:List Int) (rec:RK) (K:KK) v0 (hv0:v0=checkLog ⟨ws,fu⟩) v1 (hv1:v1=ofG ⟨ws,fu⟩):segO Γ_q210 tab fn_q210 4 K rec [.code (bodyOf fn_q210)] (initN [.one (.ptr 0 0),.one (dL r)] [.box [dL ws,dI fu,dB up,dI tv,.own 1,dI tt,dI tn,.own 2,.own 3],.arr Ty.int tk,.arr Ty.bool vo,.arr Ty.bool di])=(
 v0=(0:Int) ∧
 br (!(eqi v1.n 0))
 (rec q210_L0 (q210_S0 0 (((len (v1.commit::v1.abort::v1.ended::[])):Nat):Int) false r ws fu up tv tt tn (v1.commit::v1.abort::v1.ended::[]) (((1:Int)::v1.n::v1.version::[])::[]) v1.n v1.version v1.commit v1.abort v1.ended tk vo di))
 (rec q210_L0 (q210_S0 0 (((len (v1.commit::v1.abort::v1.ended::[])):Nat):Int) false r ws fu up tv tt tn (v1.commit::v1.abort::v1.ended::[]) [] v1.n v1.version v1.commit v1.abort v1.ended tk vo di))):=by subst_vars; kernel_rfl
theorem q210_vc0 (x0 x1:Int) (x2:Bool) (x3 x4:List Int) (x5:Int) (x6:Bool) (x7 x8 x9:Int) (x10:List Bool) (x11:List (List Int)) (x12 x13:Int) (x14 x15 x16:Bool) (x17:List Int) (x18 x19:List Bool) (rec:RK) (K:KK) v0 (hv0:v0=checkLog ⟨x4,x5⟩) v1 (hv1:v1=smR x11) v2 (hv2:v2=appendF ⟨x4,x5⟩ x3 x11) v3 (hv3:v3=br (eqi v2.snd 7)
 (((0:Int)≤(len x18:Int)∧(len x18:Int)*((1:Nat):Int)≤140737488355328∧(len x18:Int)≤(140737488355328:Int)) ∧
 ((0:Int)≤(len x19:Int)∧(len x19:Int)*((1:Nat):Int)≤140737488355328∧(len x19:Int)≤(140737488355328:Int)) ∧
 K (.one (dB (eqi v2.snd 0))) [.box [dL v2.fst.words,dI v2.fst.fuel,dB false,dI x7,.own 4,dI x8,dI x9,.own 5,.own 6],.dead,.dead,.dead,.arr Ty.int x17,.arr Ty.bool (zeros (Int.toNat (len x18:Int)) (Ty.dflt Ty.bool)),.arr Ty.bool (zeros (Int.toNat (len x19:Int)) (Ty.dflt Ty.bool))])
 (K (.one (dB (eqi v2.snd 0))) [.box [dL v2.fst.words,dI v2.fst.fuel,dB x6,dI x7,.own 4,dI x8,dI x9,.own 5,.own 6],.dead,.dead,.dead,.arr Ty.int x17,.arr Ty.bool x18,.arr Ty.bool x19])):segO Γ_q210 tab fn_q210 4 K rec (ent q210_L0) (q210_S0 x0 x1 x2 x3 x4 x5 x6 x7 x8 x9 x10 x11 x12 x13 x14 x15 x16 x17 x18 x19)=(
 br (lti x0 x1)
 (((0:Int)≤x0∧x0<(len x10:Int)) ∧
 Int.toNat x0<len x10 ∧
 br (nth x10 (Int.toNat x0) (Ty.dflt Ty.bool))
 ((len x11+len ((w64 (x0+2)::x12::[])::[]))*24≤140737488355328 ∧
 rec q210_L0 (q210_S0 (w64 (x0+1)) x1 x2 x3 x4 x5 x6 x7 x8 x9 x10 (cat x11 ((w64 (x0+2)::x12::[])::[])) x12 x13 x14 x15 x16 x17 x18 x19))
 (rec q210_L0 (q210_S0 (w64 (x0+1)) x1 x2 x3 x4 x5 x6 x7 x8 x9 x10 x11 x12 x13 x14 x15 x16 x17 x18 x19)))
 ((v0=(0:Int)∧List.length x3≤140737488355328∧len x11*24≤140737488351232∧v1=true) ∧
 br (eqi v2.snd 0)
 v3
 (br (eqi v2.snd 7)
 v3
 (br (eqi v2.snd 7)
 (((0:Int)≤(len x18:Int)∧(len x18:Int)*((1:Nat):Int)≤140737488355328∧(len x18:Int)≤(140737488355328:Int)) ∧
 ((0:Int)≤(len x19:Int)∧(len x19:Int)*((1:Nat):Int)≤140737488355328∧(len x19:Int)≤(140737488355328:Int)) ∧
 K (.one (dB (eqi v2.snd 0))) [.box [dL x4,dI x5,dB false,dI x7,.own 4,dI x8,dI x9,.own 5,.own 6],.dead,.dead,.dead,.arr Ty.int x17,.arr Ty.bool (zeros (Int.toNat (len x18:Int)) (Ty.dflt Ty.bool)),.arr Ty.bool (zeros (Int.toNat (len x19:Int)) (Ty.dflt Ty.bool))])
 (K (.one (dB (eqi v2.snd 0))) [.box [dL x4,dI x5,dB x6,dI x7,.own 4,dI x8,dI x9,.own 5,.own 6],.dead,.dead,.dead,.arr Ty.int x17,.arr Ty.bool x18,.arr Ty.bool x19]))))):=by subst_vars; kernel_rfl

theorem step_ref_noted (m:Nat) (K:KK) (r ws:List Int) (fu:Int) (up:Bool) (tv tt tn:Int) (fl:List Bool) (hf:fl.length=3) (n v:Int) (c a e:Bool) (tk:List Int) (vo di:List Bool) (k:Nat) (hk:k<3) (keep:List (List Int)) (hl:keep.length≤10)
  (h:goO Γ_q210 tab fn_q210 4 K m q210_L0 (q210_S0 ((k+1:Nat):Int) 3 false r ws fu up tv tt tn fl (keep++if nth fl k false=true then [[(k:Int)+2,n]] else []) n v c a e tk vo di)) :
  goO Γ_q210 tab fn_q210 4 K (m+1) q210_L0 (q210_S0 (k:Int) 3 false r ws fu up tv tt tn fl keep n v c a e tk vo di):=by
 rw [goO_in (L:=q210_L0),q210_vc0 _ _ _ _ _ _ _ _ _ _ _ _ _ _ _ _ _ _ _ _ _ _ _ rfl _ rfl _ rfl _ rfl,toNat_nat]
 rw [w64_succ (by omega),w64_id (n:=(k:Int)+2) (by omega) (by omega)]
 have e0:nth fl k (Ty.dflt Ty.bool)=nth fl k false:=rfl
 rw [e0]
 refine lt_t (by omega) ⟨⟨by omega,by simp only [len]; omega⟩,by simp only [len]; omega,br_split (fun hb=>⟨by simp only [len,List.length_cons,List.length_nil]; omega,?_⟩) (fun hb=>?_)⟩
 ·rw [if_pos hb] at h; exact h
 ·rw [if_neg (by rw [hb]; simp),List.append_nil] at h; exact h
theorem run_q210 (hp:checkLog ⟨ws,fu⟩=0∧Sm r∧len vo≤1000∧len di≤1000) (K:KK) (hK:K (.one (dB (noteG ⟨⟨ws,fu⟩,up,⟨⟨tv,tk,tt⟩,tn⟩,vo,di⟩ r).2)) [.box [dL (noteG ⟨⟨ws,fu⟩,up,⟨⟨tv,tk,tt⟩,tn⟩,vo,di⟩ r).1.f.words,dI (noteG ⟨⟨ws,fu⟩,up,⟨⟨tv,tk,tt⟩,tn⟩,vo,di⟩ r).1.f.fuel,dB (noteG ⟨⟨ws,fu⟩,up,⟨⟨tv,tk,tt⟩,tn⟩,vo,di⟩ r).1.up,dI (noteG ⟨⟨ws,fu⟩,up,⟨⟨tv,tk,tt⟩,tn⟩,vo,di⟩ r).1.t.r.version,.own 4,dI (noteG ⟨⟨ws,fu⟩,up,⟨⟨tv,tk,tt⟩,tn⟩,vo,di⟩ r).1.t.r.thr,dI (noteG ⟨⟨ws,fu⟩,up,⟨⟨tv,tk,tt⟩,tn⟩,vo,di⟩ r).1.t.version,.own 5,.own 6],.dead,.dead,.dead,.arr .int (noteG ⟨⟨ws,fu⟩,up,⟨⟨tv,tk,tt⟩,tn⟩,vo,di⟩ r).1.t.r.keys,.arr .bool (noteG ⟨⟨ws,fu⟩,up,⟨⟨tv,tk,tt⟩,tn⟩,vo,di⟩ r).1.voted,.arr .bool (noteG ⟨⟨ws,fu⟩,up,⟨⟨tv,tk,tt⟩,tn⟩,vo,di⟩ r).1.did]):GN Γ_q210 fn_q210 4 K [.one (.ptr 0 0),.one (dL r)] [.box [dL ws,dI fu,dB up,dI tv,.own 1,dI tt,dI tn,.own 2,.own 3],.arr .int tk,.arr .bool vo,.arr .bool di]:=by
 obtain ⟨p1,p2,p3,p4⟩:=hp
 refine ⟨5,?_⟩
 rw [goO_code,q210_vc _ _ _ _ _ _ _ _ _ _ _ _ _ rfl _ rfl]
 have ho:=ofG_ok ⟨ws,fu⟩
 obtain ⟨k1,k2⟩:=keepG_sm (ofG ⟨ws,fu⟩)
 obtain ⟨o1,o2,o3,o4,o5,o6,o7⟩:=ho
 obtain ⟨s,hs⟩:∃ s,ofG ⟨ws,fu⟩=s:=⟨_,rfl⟩
 unfold noteG changeG at hK
 simp only at hK
 rw [hs] at hK k1 k2 o1 o2 o3 o4 o5 o6 o7 ⊢
 have hend:goO Γ_q210 tab fn_q210 4 K 1 q210_L0 (q210_S0 ((3:Nat):Int) 3 false r ws fu up tv tt tn [s.commit,s.abort,s.ended] (keepG s) s.n s.version s.commit s.abort s.ended tk vo di):=by
  rw [goO_in (L:=q210_L0),q210_vc0 _ _ _ _ _ _ _ _ _ _ _ _ _ _ _ _ _ _ _ _ _ _ _ rfl _ rfl _ rfl _ rfl]
  refine lt_f (by omega) ⟨⟨p1,p2,by simp only [len]; omega,k1⟩,?_⟩
  obtain ⟨A,hA⟩:∃ A,appendF ⟨ws,fu⟩ r (keepG s)=A:=⟨_,rfl⟩
  rw [hA] at hK ⊢
  have lv:((0:Int)≤(((len vo):Nat):Int))∧((((((len vo):Nat):Int)*((1:Nat):Int))≤(140737488355328:Int))∧((((len vo):Nat):Int)≤(140737488355328:Int))):=⟨by omega,by omega,by omega⟩
  have ld:((0:Int)≤(((len di):Nat):Int))∧((((((len di):Nat):Int)*((1:Nat):Int))≤(140737488355328:Int))∧((((len di):Nat):Int)≤(140737488355328:Int))):=⟨by omega,by omega,by omega⟩
  by_cases h0:A.2=0
  ·rw [if_pos h0] at hK
   rw [h0]
   exact hK
  ·rw [if_neg h0] at hK
   refine eq_f h0 ?_
   rw [show eqi A.2 0=false from eqi_false.2 h0]
   by_cases h7:A.2=7
   ·rw [if_pos h7] at hK
    rw [h7]
    exact ⟨lv,ld,hK⟩
   ·rw [if_neg h7] at hK
    exact eq_f h7 (eq_f h7 hK)
 have hall:∀ keep0,keep0.length≤5→((keep0++if s.commit=true then [[(2:Int),s.n]] else [])++if s.abort=true then [[(3:Int),s.n]] else [])++(if s.ended=true then [[(4:Int),s.n]] else [])=keepG s →
   goO Γ_q210 tab fn_q210 4 K 4 q210_L0 (q210_S0 (0:Int) 3 false r ws fu up tv tt tn [s.commit,s.abort,s.ended] keep0 s.n s.version s.commit s.abort s.ended tk vo di):=fun keep0 hl hk=>by
  rw [← hk] at hend
  refine step_ref_noted 3 K r ws fu up tv tt tn _ rfl _ _ _ _ _ _ _ _ 0 (by omega) _ (by omega) ?_
  refine step_ref_noted 2 K r ws fu up tv tt tn _ rfl _ _ _ _ _ _ _ _ 1 (by omega) _ (by rw [List.length_append]; split<;>simp<;>omega) ?_
  refine step_ref_noted 1 K r ws fu up tv tt tn _ rfl _ _ _ _ _ _ _ _ 2 (by omega) _ (by rw [List.length_append,List.length_append]; split<;>split<;>simp<;>omega) ?_
  exact hend
 have e3:(((len (s.commit::(s.abort::(s.ended::[])))):Nat):Int)=3:=rfl
 rw [e3]
 refine ⟨p1,ne_s (fun h=>hall _ (by simp) ?_) (fun h=>hall _ (by simp) ?_)⟩
 ·unfold keepG
  rw [if_neg h]
 ·have z:=o7 h
  rw [z]; rfl
theorem sound_q210:SoundC Tryz.prog tab n_q210 c_q210:=soundC_f ok_q210 hg_q210 (by
 intro vs bs p v bs' h hp
 unfold c_q210 at h
 split at h
 ·cases h
  exact ⟨by kernel_rfl,rfl,.inr (.inr (.inl (run_q210 _ _ _ _ _ _ _ _ _ _ hp.1 _ ⟨rfl,rfl⟩)))⟩
 ·cases h)

def c_q213:Contract:=fun vs bs=>match vs,bs with
 | [.agg [.dat (.list .int) ws,.dat .int fu,.dat .bool up,.dat .int tv,.dat (.list .int) tk,.dat .int tt,.dat .int tn,.dat (.list .bool) vo,.dat (.list .bool) di],.agg [.dat .int mk,.dat .int mu,.dat .int mn,.dat .int ma,.dat .int mi,.dat (.list .int) mw,.dat .bool my]],[]=>some (some (checkG ⟨⟨ws,fu⟩,up,⟨⟨tv,tk,tt⟩,tn⟩,vo,di⟩=0∧0≤mu∧mu<(vo.length:Int)∧1≤mn∧mn≤8),.tup [.agg (cG (hearsG ⟨⟨ws,fu⟩,up,⟨⟨tv,tk,tt⟩,tn⟩,vo,di⟩ ⟨mk,mu,mn,ma,mi,mw,my⟩).1),.one (dM (hearsG ⟨⟨ws,fu⟩,up,⟨⟨tv,tk,tt⟩,tn⟩,vo,di⟩ ⟨mk,mu,mn,ma,mi,mw,my⟩).2)],[])
 | _,_=>none
def Γ_q213:Ctx:=[(n_q206,c_q206),(n_q209,c_q209),(n_q163,c_q163),(n_q210,c_q210)]
theorem ok_q213:Ok Tryz.prog tab Γ_q213:=((((ok_nil.c hg_q210 sound_q210).c hg_q163 sound_q163).c hg_q209 sound_q209).c hg_q206 sound_q206)
theorem q213_vc (ws:List Int) (fu:Int) (up:Bool) (tv:Int) (tk:List Int) (tt tn:Int) (vo di:List Bool) (mk mu mn ma mi:Int) (mw:List Int) (my:Bool) (rec:RK) (K:KK) v0 (hv0:v0=checkLog ⟨ws,fu⟩) v1 (hv1:v1=ofG ⟨ws,fu⟩) v2 (hv2:v2=hasB false (setAt di (Int.toNat mu) true)) v3 (hv3:v3=noteG ⟨⟨ws,fu⟩,up,⟨⟨tv,tk,tt⟩,tn⟩,vo,setAt di (Int.toNat mu) true⟩ ((4:Int)::v1.n::[])) v4 (hv4:v4=hasB false (setAt vo (Int.toNat mu) true)) v5 (hv5:v5=noteG ⟨⟨ws,fu⟩,up,⟨⟨tv,tk,tt⟩,tn⟩,setAt vo (Int.toNat mu) true,di⟩ ((2:Int)::v1.n::[])) v9 (hv9:v9=K (.tup [.agg [dL ws,dI fu,dB up,dI tv,dL tk,dI tt,dI tn,dLb vo,dLb di],.one (dM [])]) []) v15 (hv15:v15=br (!v2)
 ((v0=(0:Int)∧List.length ((4:Int)::v1.n::[])≤140737488355328∧len vo≤1000∧len (setAt di (Int.toNat mu) true)≤1000) ∧
 K (.tup [.agg (cG v3.fst),.one (dM [])]) [])
 (K (.tup [.agg [dL ws,dI fu,dB up,dI tv,dL tk,dI tt,dI tn,dLb vo,dLb (setAt di (Int.toNat mu) true)],.one (dM [])]) [])) v16 (hv16:v16=K (.tup [.agg [dL ws,dI fu,dB up,dI tv,dL tk,dI tt,dI tn,dLb vo,dLb di],.one (dM ((⟨5,mu,mn,0,0,[],false⟩:Vm.Message)::[]))]) []) v14 (hv14:v14=br (eqi v1.n mn)
 (br v1.commit
 (K (.tup [.agg [dL ws,dI fu,dB up,dI tv,dL tk,dI tt,dI tn,dLb vo,dLb di],.one (dM ((⟨4,mu,mn,0,0,[],false⟩:Vm.Message)::[]))]) [])
 v16)
 v16) v11 (hv11:v11=br (eqi mk 7)
 (br (!(!v1.ended))
 v14
 (br v1.abort
 v14
 (K (.tup [.agg [dL ws,dI fu,dB up,dI tv,dL tk,dI tt,dI tn,dLb vo,dLb di],.one (dM [])]) [])))
 (K (.tup [.agg [dL ws,dI fu,dB up,dI tv,dL tk,dI tt,dI tn,dLb vo,dLb di],.one (dM [])]) [])) v6 (hv6:v6=br (eqi mk 6)
 (br (!v1.ended)
 (br v1.abort
 (((0:Int)≤mu∧mu<(len di:Int)) ∧
 Int.toNat mu<len di ∧
 len (setAt di (Int.toNat mu) true)≤1000 ∧
 v15)
 v11)
 v11)
 v11) v12 (hv12:v12=br (eqi mk 7)
 (br (!(!v1.ended))
 v14
 v14)
 (K (.tup [.agg [dL ws,dI fu,dB up,dI tv,dL tk,dI tt,dI tn,dLb vo,dLb di],.one (dM [])]) [])) v7 (hv7:v7=br (eqi mk 6)
 (br (!v1.ended)
 (((0:Int)≤mu∧mu<(len di:Int)) ∧
 Int.toNat mu<len di ∧
 len (setAt di (Int.toNat mu) true)≤1000 ∧
 v15)
 v12)
 v12) v13 (hv13:v13=br (eqi mk 7)
 v14
 (K (.tup [.agg [dL ws,dI fu,dB up,dI tv,dL tk,dI tt,dI tn,dLb vo,dLb di],.one (dM [])]) [])) v10 (hv10:v10=br (eqi mk 6)
 v13
 v13) v8 (hv8:v8=br (!up)
 (K (.tup [.agg [dL ws,dI fu,dB up,dI tv,dL tk,dI tt,dI tn,dLb vo,dLb di],.one (dM [])]) [])
 (br (eqi mk 3)
 v10
 v10)):segD Γ_q213 tab fn_q213 0 K rec [.code (bodyOf fn_q213)] (initSt [.agg [dL ws,dI fu,dB up,dI tv,dL tk,dI tt,dI tn,dLb vo,dLb di],.agg [dI mk,dI mu,dI mn,dI ma,dI mi,dL mw,dB my]] [])=(
 (len ws*8≤140737488355328∧len tk*8≤140737488355328∧len vo≤140737488355328∧len di≤140737488355328) ∧
 v0=(0:Int) ∧
 br (eqi v1.n mn)
 (br v1.commit
 (br (!up)
 v9
 (br (eqi mk 3)
 (br (!v1.ended)
 v7
 v7)
 v7))
 (br (!up)
 v9
 (br (eqi mk 3)
 (br (!v1.ended)
 (br (!v1.abort)
 (br my
 (((0:Int)≤mu∧mu<(len vo:Int)) ∧
 Int.toNat mu<len vo ∧
 len (setAt vo (Int.toNat mu) true)≤1000 ∧
 br (!v4)
 ((v0=(0:Int)∧List.length ((2:Int)::v1.n::[])≤140737488355328∧len (setAt vo (Int.toNat mu) true)≤1000∧len di≤1000) ∧
 K (.tup [.agg (cG v5.fst),.one (dM [])]) [])
 (K (.tup [.agg [dL ws,dI fu,dB up,dI tv,dL tk,dI tt,dI tn,dLb (setAt vo (Int.toNat mu) true),dLb di],.one (dM [])]) []))
 v6)
 v6)
 v6)
 v6)))
 (br v1.commit
 v8
 v8)):=by subst_vars; kernel_rfl

theorem run_q213 (hp:checkG ⟨⟨ws,fu⟩,up,⟨⟨tv,tk,tt⟩,tn⟩,vo,di⟩=0∧0≤mu∧mu<(vo.length:Int)∧1≤mn∧mn≤8) (K:KK) (hK:K (.tup [.agg (cG (hearsG ⟨⟨ws,fu⟩,up,⟨⟨tv,tk,tt⟩,tn⟩,vo,di⟩ ⟨mk,mu,mn,ma,mi,mw,my⟩).1),.one (dM (hearsG ⟨⟨ws,fu⟩,up,⟨⟨tv,tk,tt⟩,tn⟩,vo,di⟩ ⟨mk,mu,mn,ma,mi,mw,my⟩).2)]) []):GD Γ_q213 fn_q213 0 K [.agg [dL ws,dI fu,dB up,dI tv,dL tk,dI tt,dI tn,dLb vo,dLb di],.agg [dI mk,dI mu,dI mn,dI ma,dI mi,dL mw,dB my]] []:=by
 obtain ⟨hc,u0,u1,q0,q1⟩:=hp
 have hc:checkG ⟨⟨ws,fu⟩,up,⟨⟨tv,tk,tt⟩,tn⟩,vo,di⟩=0:=hc
 obtain ⟨s1,s2,s3,s4⟩:=checkG_sm hc
 obtain ⟨k0,v1,v2,v3,_⟩:=checkG_ok hc
 simp only at k0 v1 v2 v3
 refine ⟨1,?_⟩
 rw [goD_code,q213_vc _ _ _ _ _ _ _ _ _ _ _ _ _ _ _ _ _ _ _ rfl _ rfl _ rfl _ rfl _ rfl _ rfl _ rfl _ rfl _ rfl _ rfl _ rfl _ rfl _ rfl _ rfl _ rfl _ rfl _ rfl]
 have lsv:len (setAt vo (Int.toNat mu) true)≤1000:=by simp only [len,setAt_len]; omega
 have lsd:len (setAt di (Int.toNat mu) true)≤1000:=by simp only [len,setAt_len]; omega
 have lnv:Int.toNat mu<len vo:=by simp only [len]; omega
 have lnd:Int.toNat mu<len di:=by simp only [len]; omega
 have biv:0≤mu∧mu<((len vo:Nat):Int):=⟨u0,u1⟩
 have bid:0≤mu∧mu<((len di:Nat):Int):=⟨u0,by simp only [len]; omega⟩
 refine ⟨⟨s1,s2,by omega,by omega⟩,k0,?_⟩
 unfold hearsG at hK
 obtain ⟨s,hs⟩:∃ s,ofG ⟨ws,fu⟩=s:=⟨_,rfl⟩
 simp only [hs] at hK ⊢
 have hcc:(s.commit=true∨s.commit=false):=by cases s.commit<;>simp
 have haa:(s.abort=true∨s.abort=false):=by cases s.abort<;>simp
 have hee:(s.ended=true∨s.ended=false):=by cases s.ended<;>simp
 cases up
 ·rw [if_neg (by simp)] at hK
  refine br_split (fun _=>?_) (fun _=>?_)<;>rcases hcc with hc | hc<;>rcases haa with ha | ha<;>simp only [hc,ha,br,Bool.not_false]<;>exact hK
 rw [if_pos rfl] at hK
 obtain ⟨g,hg⟩:∃ g:Vm.Gate,(⟨⟨ws,fu⟩,true,⟨⟨tv,tk,tt⟩,tn⟩,vo,di⟩:Vm.Gate)=g:=⟨_,rfl⟩
 have hKa:hearsS g s ⟨mk,mu,mn,ma,mi,mw,my⟩=(g,[])→K (.tup [.agg [dL ws,dI fu,dB true,dI tv,dL tk,dI tt,dI tn,dLb vo,dLb di],.one (dM [])]) []:=fun e=>by rw [hg,e,← hg] at hK; exact hK
 have hKb:hearsS g s ⟨mk,mu,mn,ma,mi,mw,my⟩=(g,[decisionM s mu mn])→K (.tup [.agg [dL ws,dI fu,dB true,dI tv,dL tk,dI tt,dI tn,dLb vo,dLb di],.one (dM [⟨kindG s mn,mu,mn,0,0,[],false⟩])]) []:=fun e=>by rw [hg,e,← hg] at hK; exact hK
 have hKc:hearsS g s ⟨mk,mu,mn,ma,mi,mw,my⟩=(votedG g mu,[])→K (.tup [.agg [dL ws,dI fu,dB true,dI tv,dL tk,dI tt,dI tn,dLb (setAt vo (Int.toNat mu) true),dLb di],.one (dM [])]) []:=fun e=>by rw [hg,e,← hg] at hK; exact hK
 have hKe:hearsS g s ⟨mk,mu,mn,ma,mi,mw,my⟩=(didG g mu,[])→K (.tup [.agg [dL ws,dI fu,dB true,dI tv,dL tk,dI tt,dI tn,dLb vo,dLb (setAt di (Int.toNat mu) true)],.one (dM [])]) []:=fun e=>by rw [hg,e,← hg] at hK; exact hK
 obtain ⟨y,hy⟩:∃ y,(noteG ⟨⟨ws,fu⟩,true,⟨⟨tv,tk,tt⟩,tn⟩,setAt vo (Int.toNat mu) true,di⟩ [2,s.n]).1=y:=⟨_,rfl⟩
 obtain ⟨z,hz⟩:∃ z,(noteG ⟨⟨ws,fu⟩,true,⟨⟨tv,tk,tt⟩,tn⟩,vo,setAt di (Int.toNat mu) true⟩ [4,s.n]).1=z:=⟨_,rfl⟩
 have hKd:hearsS g s ⟨mk,mu,mn,ma,mi,mw,my⟩=(y,[])→K (.tup [.agg (cG y),.one (dM [])]) []:=fun e=>by rw [hg,e] at hK; exact hK
 have hKf:hearsS g s ⟨mk,mu,mn,ma,mi,mw,my⟩=(z,[])→K (.tup [.agg (cG z),.one (dM [])]) []:=fun e=>by rw [hg,e] at hK; exact hK
 clear hK
 have evo:(votedG g mu).voted=setAt vo (Int.toNat mu) true:=by rw [← hg]; rfl
 have edi:(didG g mu).did=setAt di (Int.toNat mu) true:=by rw [← hg]; rfl
 have hyv:(noteG (votedG g mu) [2,s.n]).1=y:=by rw [← hg,← hy]; rfl
 have hzv:(noteG (didG g mu) [4,s.n]).1=z:=by rw [← hg,← hz]; rfl
 simp only [hy,hz]
 have hl:∀ a b:Int,List.length [a,b]≤140737488355328:=fun a b=>by simp
 have h3:mk=3→hearsS g s ⟨mk,mu,mn,ma,mi,mw,my⟩=if s.n≠mn∨s.ended=true∨s.commit=true∨s.abort=true∨my=false then (g,[]) else (voteG g s mu,[]):=fun e=>by unfold hearsS; rw [if_pos (by exact e)]
 have h6:mk=6→hearsS g s ⟨mk,mu,mn,ma,mi,mw,my⟩=if s.n≠mn∨s.ended=true∨(s.commit=false∧s.abort=false) then (g,[]) else (doneG g s mu,[]):=fun e=>by unfold hearsS; rw [if_neg (by simp only; omega),if_pos (by exact e)]
 have h7:mk=7→hearsS g s ⟨mk,mu,mn,ma,mi,mw,my⟩=if s.n≠mn∨s.ended=true∨s.commit=true∨s.abort=true then (g,[decisionM s mu mn]) else (g,[]):=fun e=>by unfold hearsS; rw [if_neg (by simp only; omega),if_neg (by simp only; omega),if_pos (by exact e)]
 have h0:mk≠3→mk≠6→mk≠7→hearsS g s ⟨mk,mu,mn,ma,mi,mw,my⟩=(g,[]):=fun a b c=>by unfold hearsS; rw [if_neg (by exact a),if_neg (by exact b),if_neg (by exact c)]
 have d4:kindG s mn=if s.commit=true∧s.n=mn then 4 else 5:=rfl
 have e3:eqi mk 3=true→mk=3:=eqi_true.1
 have e6:eqi mk 6=true→mk=6:=eqi_true.1
 have e7:eqi mk 7=true→mk=7:=eqi_true.1
 have hvd:voteG g s mu=if hasB false (setAt vo (Int.toNat mu) true)=true then votedG g mu else y:=by unfold voteG; rw [evo,hyv]
 have hdd:doneG g s mu=if hasB false (setAt di (Int.toNat mu) true)=true then didG g mu else z:=by unfold doneG; rw [edi,hzv]
 rw [hvd] at h3
 rw [hdd] at h6
 generalize hasB false (setAt vo (Int.toNat mu) true)=bv at h3 ⊢
 generalize hasB false (setAt di (Int.toNat mu) true)=bd at h6 ⊢
 refine eq_s (fun hn=>?_) (fun hn=>?_)<;>rcases hcc with hc | hc<;>rcases haa with ha | ha<;>rcases hee with he | he<;>simp only [hn,hc,ha,he,ne_eq,not_true_eq_false,Bool.true_eq_false,Bool.false_eq_true,true_or,or_true,false_or,or_false,and_false,false_and,and_true,true_and,and_self,if_true,if_false,Bool.not_eq_false,not_false_eq_true,br,Bool.not_true,Bool.not_false] at h3 h6 h7 d4 hKb ⊢<;>rw [d4] at hKb
 all_goals
  refine eq_s (fun k=>?_) (fun k3=>eq_s (fun k=>?_) (fun k6=>eq_s (fun k=>?_) (fun k7=>hKa (h0 k3 k6 k7))))
  all_goals subst k
  all_goals try simp only [show eqi 3 6=false from rfl,show eqi 3 7=false from rfl,show eqi 6 7=false from rfl,show eqi mn mn=true from eqi_true.2 rfl,true_implies,br] at h3 h6 h7 hKb ⊢
  all_goals try rw [eqi_false.2 hn]
  all_goals first
   | exact hKa h3
   | exact hKa h6
   | exact hKa h7
   | exact hKb h7
   | (rw [d4] at hKb; exact hKb h7)
   | skip
  all_goals cases my<;>cases bv<;>cases bd
  all_goals try simp only [Bool.true_eq_false,Bool.false_eq_true,if_true,if_false,Bool.not_true,Bool.not_false] at h3 h6 ⊢
  all_goals first
   | exact hKa h3
   | exact ⟨biv,lnv,lsv,hKc h3⟩
   | exact ⟨biv,lnv,lsv,⟨k0,hl _ _,lsv,by omega⟩,hKd h3⟩
   | exact ⟨bid,lnd,lsd,hKe h6⟩
   | exact ⟨bid,lnd,lsd,⟨k0,hl _ _,by omega,lsd⟩,hKf h6⟩
theorem sound_q213:SoundC Tryz.prog tab n_q213 c_q213:=soundC_f ok_q213 hg_q213 (by
 intro vs bs p v bs' h hp
 unfold c_q213 at h
 split at h
 ·cases h
  exact ⟨by kernel_rfl,rfl,.inl (run_q213 _ _ _ _ _ _ _ _ _ _ _ _ _ _ _ _ hp.1 _ ⟨rfl,rfl⟩)⟩
 ·cases h)

def c_q216:Contract:=fun vs bs=>match vs,bs with
 | [.agg [.dat (.list .int) ws,.dat .int _,.dat .bool _,.dat .int _,.dat (.list .int) tk,.dat .int _,.dat .int _,.dat (.list .bool) vo,.dat (.list .bool) di],.agg [.dat .int _,.dat .int _,.dat .int _,.dat (.list .target) ct,.dat (.list (.list .int)) ci],.one (.dat .int _),.agg [.dat .int _,.dat .int _,.dat .int _,.dat .int _,.dat .int _,.dat (.list .int) _,.dat .bool _]],[]=>some (some (len ws*8≤140737488355328∧len tk*8≤140737488355328∧len vo≤140737488355328∧len di≤140737488355328∧ct.length≤140737488355328∧ci.length≤140737488355328),.one (dB true),[])
 | _,_=>none
def Γ_q216:Ctx:=[(n_q207,c_q207),(n_q177,c_q177),(n_q178,c_q178),(n_q208,c_q208),(n_q182,c_q182),(n_q183,c_q183),(n_q212,c_q212),(n_q151,c_q151),(n_q213,c_q213)]
theorem ok_q216:Ok Tryz.prog tab Γ_q216:=(((((((((ok_nil.c hg_q213 sound_q213).c hg_q151 sound_q151).c hg_q212 sound_q212).c hg_q183 sound_q183).c hg_q182 sound_q182).c hg_q208 sound_q208).c hg_q178 sound_q178).c hg_q177 sound_q177).c hg_q207 sound_q207)
theorem q216_vc (ws:List Int) (fu:Int) (up:Bool) (tv:Int) (tk:List Int) (tt tn:Int) (vo di:List Bool) (cn cv cu:Int) (ct:List Vm.Target) (ci:List (List Int)) (which mk mu mn ma mi:Int) (mw:List Int) (my:Bool) (rec:RK) (K:KK) v0 (hv0:v0=sameGate ⟨⟨ws,fu⟩,up,⟨⟨tv,tk,tt⟩,tn⟩,vo,di⟩ ⟨⟨ws,fu⟩,up,⟨⟨tv,tk,tt⟩,tn⟩,vo,di⟩) v1 (hv1:v1=checkG ⟨⟨ws,fu⟩,up,⟨⟨tv,tk,tt⟩,tn⟩,vo,di⟩) v2 (hv2:v2=dueG ⟨⟨ws,fu⟩,up,⟨⟨tv,tk,tt⟩,tn⟩,vo,di⟩ ⟨cn,⟨cv,cu,ct⟩,ci⟩ which) v3 (hv3:v3=hearG ⟨⟨ws,fu⟩,up,⟨⟨tv,tk,tt⟩,tn⟩,vo,di⟩ ⟨mk,mu,mn,ma,mi,mw,my⟩) v4 (hv4:v4=sameGate ⟨⟨v3.fst.fst.f.words,v3.fst.fst.f.fuel⟩,v3.fst.fst.up,⟨⟨v3.fst.fst.t.r.version,v3.fst.fst.t.r.keys,v3.fst.fst.t.r.thr⟩,v3.fst.fst.t.version⟩,v3.fst.fst.voted,v3.fst.fst.did⟩ ⟨⟨[],0⟩,false,⟨⟨0,[],0⟩,0⟩,[],[]⟩) v5 (hv5:v5=smM v2.fst) v6 (hv6:v6=sameMsgs v2.fst v2.fst) v7 (hv7:v7=hearsG ⟨⟨ws,fu⟩,up,⟨⟨tv,tk,tt⟩,tn⟩,vo,di⟩ ⟨mk,mu,mn,ma,mi,mw,my⟩) v8 (hv8:v8=sameGate ⟨⟨v3.fst.fst.f.words,v3.fst.fst.f.fuel⟩,v3.fst.fst.up,⟨⟨v3.fst.fst.t.r.version,v3.fst.fst.t.r.keys,v3.fst.fst.t.r.thr⟩,v3.fst.fst.t.version⟩,v3.fst.fst.voted,v3.fst.fst.did⟩ ⟨⟨v7.fst.f.words,v7.fst.f.fuel⟩,v7.fst.up,⟨⟨v7.fst.t.r.version,v7.fst.t.r.keys,v7.fst.t.r.thr⟩,v7.fst.t.version⟩,v7.fst.voted,v7.fst.did⟩) v9 (hv9:v9=smM v3.fst.snd) v10 (hv10:v10=sameMsgs v3.fst.snd v7.snd) v11 (hv11:v11=br (eqi v3.snd 3)
 (br (eqi (len v3.fst.snd:Int) 0)
 ((List.length v3.fst.fst.f.words≤140737488355328∧List.length v3.fst.fst.t.r.keys≤140737488355328∧len v3.fst.fst.voted≤140737488355328∧len v3.fst.fst.did≤140737488355328) ∧
 K (.one (dB v4)) [])
 (K vF []))
 (K vF [])):segD Γ_q216 tab fn_q216 0 K rec [.code (bodyOf fn_q216)] (initSt [.agg [dL ws,dI fu,dB up,dI tv,dL tk,dI tt,dI tn,dLb vo,dLb di],.agg [dI cn,dI cv,dI cu,.dat (Ty.list Ty.target) ct,dR ci],.one (dI which),.agg [dI mk,dI mu,dI mn,dI ma,dI mi,dL mw,dB my]] [])=(
 (len ws*8≤140737488355328∧len tk*8≤140737488355328∧len vo≤140737488355328∧len di≤140737488355328) ∧
 (List.length ct≤140737488355328∧List.length ci≤140737488355328) ∧
 List.length ws≤140737488355328 ∧
 (List.length ws≤140737488355328∧List.length tk≤140737488355328∧len vo≤140737488355328∧len di≤140737488355328) ∧
 br (!v0)
 (K vF [])
 (br (!(eqi v1 0))
 (br (eqi v2.snd v1)
 (br (eqi v3.snd v1)
 (br (eqi (w64 ((len v2.fst:Int)+(len v3.fst.snd:Int))) 0)
 ((List.length v3.fst.fst.f.words≤140737488355328∧List.length v3.fst.fst.t.r.keys≤140737488355328∧len v3.fst.fst.voted≤140737488355328∧len v3.fst.fst.did≤140737488355328) ∧
 K (.one (dB v4)) [])
 (K vF []))
 (K vF []))
 (K vF []))
 ((v1=(0:Int)∧List.length ct≤140737488355328∧List.length ci≤140737488355328) ∧
 br (!(eqi v2.snd v2.snd))
 (K vF [])
 ((List.length v2.fst≤140737488355328∧v5=true) ∧
 br (!v6)
 (K vF [])
 (br (lti mu 0)
 v11
 (br (lei (len vo:Int) mu)
 v11
 (br (lti mn 1)
 v11
 (br (lti 8 mn)
 v11
 ((v1=(0:Int)∧(0:Int)≤mu∧mu<(((List.length vo):Nat):Int)∧(1:Int)≤mn∧mn≤8) ∧
 br (eqi v3.snd 0)
 ((List.length v3.fst.fst.f.words≤140737488355328∧List.length v3.fst.fst.t.r.keys≤140737488355328∧len v3.fst.fst.voted≤140737488355328∧len v3.fst.fst.did≤140737488355328) ∧
 br v8
 ((List.length v3.fst.snd≤140737488355328∧v9=true) ∧
 K (.one (dB v10)) [])
 (K vF []))
 (K vF [])))))))))):=by subst_vars; kernel_rfl

theorem smM_of_smMW {l:List Message} (h:smMW l=true):smM l=true:=List.all_eq_true.2 fun m hm=>by
 have:=List.all_eq_true.1 h m hm
 simp only [decide_eq_true_eq] at this ⊢
 omega
theorem run_q216 (hp:len ws*8≤140737488355328∧len tk*8≤140737488355328∧len vo≤140737488355328∧len di≤140737488355328∧ct.length≤140737488355328∧ci.length≤140737488355328) (K:KK) (hK:K (.one (dB true)) []):GD Γ_q216 fn_q216 0 K [.agg [dL ws,dI fu,dB up,dI tv,dL tk,dI tt,dI tn,dLb vo,dLb di],.agg [dI cn,dI cv,dI cu,.dat (.list .target) ct,dR ci],.one (dI which),.agg [dI mk,dI mu,dI mn,dI ma,dI mi,dL mw,dB my]] []:=by
 refine ⟨1,?_⟩
 rw [goD_code,q216_vc _ _ _ _ _ _ _ _ _ _ _ _ _ _ _ _ _ _ _ _ _ _ _ _ _ rfl _ rfl _ rfl _ rfl _ rfl _ rfl _ rfl _ rfl _ rfl _ rfl _ rfl _ rfl]
 have e0:∀ a:Int,eqi a a=true:=fun a=>eqi_true.2 rfl
 have T:K (.one (dB true)) []=True:=eq_true hK
 obtain ⟨p1,p2,p3,p4,p5,p6⟩:=hp
 have p7:List.length ws≤140737488355328:=by simp only [len] at p1; omega
 have p8:List.length tk≤140737488355328:=by simp only [len] at p2; omega
 obtain ⟨n1,n2,n3,n4⟩:=szG_of (g:=noGate) (.inr rfl)
 have hnn:sameGate noGate ⟨⟨[],0⟩,false,⟨⟨0,[],0⟩,0⟩,[],[]⟩=true:=sameGate_refl noGate
 have hnn':sameGate ⟨⟨noGate.f.words,noGate.f.fuel⟩,noGate.up,⟨⟨noGate.t.r.version,noGate.t.r.keys,noGate.t.r.thr⟩,noGate.t.version⟩,noGate.voted,noGate.did⟩ ⟨⟨[],0⟩,false,⟨⟨0,[],0⟩,0⟩,[],[]⟩=true:=hnn
 simp only [e0,p1,p2,p3,p4,p5,p6,p7,p8,sameGate_refl,br,Bool.not_true,Bool.not_false,true_and,and_self]
 by_cases hu:checkG ⟨⟨ws,fu⟩,up,⟨⟨tv,tk,tt⟩,tn⟩,vo,di⟩=0
 case neg =>
  have hu':eqi (checkG ⟨⟨ws,fu⟩,up,⟨⟨tv,tk,tt⟩,tn⟩,vo,di⟩) 0=false:=eqi_false.2 hu
  have hU:upG ⟨⟨ws,fu⟩,up,⟨⟨tv,tk,tt⟩,tn⟩,vo,di⟩=checkG ⟨⟨ws,fu⟩,up,⟨⟨tv,tk,tt⟩,tn⟩,vo,di⟩:=if_neg hu
  have hU':upG ⟨⟨ws,fu⟩,up,⟨⟨tv,tk,tt⟩,tn⟩,vo,di⟩≠0:=by rw [hU]; exact hu
  have hd:dueG ⟨⟨ws,fu⟩,up,⟨⟨tv,tk,tt⟩,tn⟩,vo,di⟩ ⟨cn,⟨cv,cu,ct⟩,ci⟩ which=([],checkG ⟨⟨ws,fu⟩,up,⟨⟨tv,tk,tt⟩,tn⟩,vo,di⟩):=by
   have e:dueE ⟨⟨ws,fu⟩,up,⟨⟨tv,tk,tt⟩,tn⟩,vo,di⟩ ⟨cn,⟨cv,cu,ct⟩,ci⟩ which=checkG ⟨⟨ws,fu⟩,up,⟨⟨tv,tk,tt⟩,tn⟩,vo,di⟩:=(if_neg hU').trans hU
   unfold dueG; rw [e,if_neg hu]
  have hh:hearG ⟨⟨ws,fu⟩,up,⟨⟨tv,tk,tt⟩,tn⟩,vo,di⟩ ⟨mk,mu,mn,ma,mi,mw,my⟩=((noGate,[]),checkG ⟨⟨ws,fu⟩,up,⟨⟨tv,tk,tt⟩,tn⟩,vo,di⟩):=by
   have e:hearGE ⟨⟨ws,fu⟩,up,⟨⟨tv,tk,tt⟩,tn⟩,vo,di⟩ ⟨mk,mu,mn,ma,mi,mw,my⟩=checkG ⟨⟨ws,fu⟩,up,⟨⟨tv,tk,tt⟩,tn⟩,vo,di⟩:=if_neg hu
   unfold hearG; rw [e,if_neg hu]
  have w0:eqi (w64 ((len ([]:List Message):Int)+(len ([]:List Message):Int))) 0=true:=by decide
  simp only [hu',hd,hh,w0,hnn',n1,n2,n3,n4,e0,br,Bool.not_true,Bool.not_false,true_and,and_self,T]
 obtain ⟨d1,d2⟩:=dueG_small ⟨⟨ws,fu⟩,up,⟨⟨tv,tk,tt⟩,tn⟩,vo,di⟩ ⟨cn,⟨cv,cu,ct⟩,ci⟩ which
 have d3:List.length (dueG ⟨⟨ws,fu⟩,up,⟨⟨tv,tk,tt⟩,tn⟩,vo,di⟩ ⟨cn,⟨cv,cu,ct⟩,ci⟩ which).1≤140737488355328:=by omega
 have d4:=smM_of_smMW d2
 obtain ⟨b1,b2⟩:=hearG_small ⟨⟨ws,fu⟩,up,⟨⟨tv,tk,tt⟩,tn⟩,vo,di⟩ ⟨mk,mu,mn,ma,mi,mw,my⟩
 have b3:List.length (hearG ⟨⟨ws,fu⟩,up,⟨⟨tv,tk,tt⟩,tn⟩,vo,di⟩ ⟨mk,mu,mn,ma,mi,mw,my⟩).1.2≤140737488355328:=by omega
 have b4:=smM_of_smMW b2
 have lv:((len vo:Nat):Int)=(vo.length:Int):=rfl
 simp only [hu,e0,d3,d4,sameMsgs_refl,lv,br,Bool.not_true,Bool.not_false,true_and,and_self]
 have hbad:(mu<0∨(vo.length:Int)≤mu∨mn<1∨8<mn)→hearG ⟨⟨ws,fu⟩,up,⟨⟨tv,tk,tt⟩,tn⟩,vo,di⟩ ⟨mk,mu,mn,ma,mi,mw,my⟩=((noGate,[]),3):=fun c=>by
  have e:hearGE ⟨⟨ws,fu⟩,up,⟨⟨tv,tk,tt⟩,tn⟩,vo,di⟩ ⟨mk,mu,mn,ma,mi,mw,my⟩=3:=by unfold hearGE; rw [if_pos hu,if_pos (by exact c)]
  unfold hearG; rw [e,if_neg (by decide)]
 have l0:eqi ((len ([]:List Message):Nat):Int) 0=true:=by decide
 by_cases c:mu<0∨(vo.length:Int)≤mu∨mn<1∨8<mn
 ·have hh:=hbad c
  simp only [hh,hnn',n1,n2,n3,n4,l0,e0,br,true_and,and_self,T]
  by_cases c1:mu<0
  ·simp only [lti_true.2 c1]
  ·by_cases c2:(vo.length:Int)≤mu
   ·simp only [lti_false.2 (show (0:Int)≤mu by omega),lei_true.2 c2]
   ·by_cases c3:mn<1
    ·simp only [lti_false.2 (show (0:Int)≤mu by omega),lei_false.2 (show mu<(vo.length:Int) by omega),lti_true.2 c3]
    ·simp only [lti_false.2 (show (0:Int)≤mu by omega),lei_false.2 (show mu<(vo.length:Int) by omega),lti_false.2 (show (1:Int)≤mn by omega),lti_true.2 (show 8<mn by omega)]
 ·have hh:=hearG_mk (g:=⟨⟨ws,fu⟩,up,⟨⟨tv,tk,tt⟩,tn⟩,vo,di⟩) (m:=⟨mk,mu,mn,ma,mi,mw,my⟩) hu ⟨by simp only; omega,by simp only; omega,by simp only; omega,by simp only; omega⟩
  obtain ⟨m1,m2,m3,m4⟩:=szG_of (.inl (hearsG_all (g:=⟨⟨ws,fu⟩,up,⟨⟨tv,tk,tt⟩,tn⟩,vo,di⟩) (m:=⟨mk,mu,mn,ma,mi,mw,my⟩) hu (by simp only; omega)).1)
  rw [hh] at b3 b4
  simp only at b3 b4
  have q1:0≤mu:=by omega
  have q2:mu<(vo.length:Int):=by omega
  have q3:1≤mn:=by omega
  have q4:mn≤8:=by omega
  simp only [lti_false.2 q1,lei_false.2 q2,lti_false.2 q3,lti_false.2 q4,hh,q1,q2,q3,q4,m1,m2,m3,m4,b3,b4,sameGate_refl,sameMsgs_refl,e0,br,true_and,and_self,T]
theorem sound_q216:SoundC Tryz.prog tab n_q216 c_q216:=soundC_f ok_q216 hg_q216 (by
 intro vs bs p v bs' h hp
 unfold c_q216 at h
 split at h
 ·cases h
  exact ⟨by kernel_rfl,rfl,.inl (run_q216 _ _ _ _ _ _ _ _ _ _ _ _ _ _ _ _ _ _ _ _ _ _ hp.1 _ ⟨rfl,rfl⟩)⟩
 ·cases h)
end Go.Proofs.YtlbppjmekiemiacGreatDoor
