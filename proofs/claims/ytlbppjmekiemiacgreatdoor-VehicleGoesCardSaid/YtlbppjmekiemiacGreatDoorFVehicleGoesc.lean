/- What the functions of VehicleGoes compute (part 3 of 4). No condition. -/
import Derived.Test.YtlbppjmekiemiacGreatDoorFVehicleGoesb
import Derived.KernelRfl
namespace Go.Proofs.YtlbppjmekiemiacGreatDoor
open Vm
set_option maxHeartbeats 4000000
variable (my up y:Bool) (at_ cn cu cv e fu gf hk hn hu k ma mi mk mn mu n now ou ov sb slot so sr tn tt tv u ug un:Int) (ci im rg:List (List Int)) (b vb:List (List UInt8)) (di vo:List Bool) (a gs mw r sg tk ws:List Int) (cs:List Vm.Campaign) (l:List Vm.Happening) (net:List Vm.Message) (os:List Vm.Offer) (rs:List Vm.Root) (vs:List Vm.Signed) (ct ts:List Vm.Target) (us:List Vm.UnitD)
def c_q130:z00:=fun vs bs=>match vs,bs with
 | [.one (.dat (.list (.list .int)) l)],[]=>some (some (len l≤1000∧nonE l=true),.agg [dI (stateR l).slot,dI (stateR l).by_,dI (stateR l).ready],[])
 | _,_=>none
def Γ_q130:Ctx:=[]
theorem ok_q130:Ok Tryz.prog tab Γ_q130:=ok_nil
noncomputable def q130_L0:List It:=[.inLoop [8,7,6,3,2] (cSub fn_q130 [1,1,0,1,0,0]),.inBlock 0,.code (cSub fn_q130 [1,1,1])]
def q130_S0 (x0 x1:Int) (x2:List (List Int)) (x3 x4 x5 x6 x7 x8:Int):St:=⟨[(8,.one (dI x0)),(7,.one (dI x1)),(6,.one (dR x2)),(3,.one (.ptr 0 0)),(2,.one (.ptr 1 0))],[(0,.box [dI x3,dI x4,dI x5]),(1,.box [dI x6,dI x7,dI x8])],2⟩
theorem q130_vc (l:List (List Int)) (rec:RK) (K:KK):segD Γ_q130 tab fn_q130 0 K rec [.code (z05 fn_q130)] (z07 [.one (dR l)] [])=(
 rec q130_L0 (q130_S0 0 (len l:Int) l 0 0 0 0 0 0)):=by kernel_rfl
theorem zj5 (x0 x1:Int) (x2:List (List Int)) (x3 x4 x5 x6 x7 x8:Int) (rec:RK) (K:KK) v2 (hv2:v2=rec q130_L0 (q130_S0 (w64 (x0+1)) x1 x2 x3 x4 x5 x6 x7 x8)) v1 (hv1:v1=br (eqi (nth (nth x2 (Int.toNat x0) (Ty.dflt (Ty.list Ty.int))) (Int.toNat 0) (Ty.dflt Ty.int)) 3)
 (br (eqi (((len (nth x2 (Int.toNat x0) (Ty.dflt (Ty.list Ty.int)))):Nat):Int) 2)
 (rec q130_L0 (q130_S0 (w64 (x0+1)) x1 x2 x3 x4 0 x6 x7 x8))
 v2)
 v2) v0 (hv0:v0=br (eqi (nth (nth x2 (Int.toNat x0) (Ty.dflt (Ty.list Ty.int))) (Int.toNat 0) (Ty.dflt Ty.int)) 2)
 (br (eqi (((len (nth x2 (Int.toNat x0) (Ty.dflt (Ty.list Ty.int)))):Nat):Int) 2)
 (((0:Int)≤(1:Int)∧(1:Int)<(((len (nth x2 (Int.toNat x0) (Ty.dflt (Ty.list Ty.int)))):Nat):Int)) ∧
 rec q130_L0 (q130_S0 (w64 (x0+1)) x1 x2 x3 x4 (nth (nth x2 (Int.toNat x0) (Ty.dflt (Ty.list Ty.int))) (Int.toNat 1) (Ty.dflt Ty.int)) x6 x7 x8))
 (((0:Int)≤(0:Int)∧(0:Int)<(((len (nth x2 (Int.toNat x0) (Ty.dflt (Ty.list Ty.int)))):Nat):Int)) ∧
 v1))
 (((0:Int)≤(0:Int)∧(0:Int)<(((len (nth x2 (Int.toNat x0) (Ty.dflt (Ty.list Ty.int)))):Nat):Int)) ∧
 v1)):segD Γ_q130 tab fn_q130 0 K rec (ent q130_L0) (q130_S0 x0 x1 x2 x3 x4 x5 x6 x7 x8)=(
 br (lti x0 x1)
 (((0:Int)≤x0∧x0<(len x2:Int)) ∧
 ((0:Int)≤(0:Int)∧(0:Int)<(((len (nth x2 (Int.toNat x0) (Ty.dflt (Ty.list Ty.int)))):Nat):Int)) ∧
 br (eqi (nth (nth x2 (Int.toNat x0) (Ty.dflt (Ty.list Ty.int))) (Int.toNat 0) (Ty.dflt Ty.int)) 1)
 (br (eqi (((len (nth x2 (Int.toNat x0) (Ty.dflt (Ty.list Ty.int)))):Nat):Int) 3)
 (((0:Int)≤(1:Int)∧(1:Int)<(((len (nth x2 (Int.toNat x0) (Ty.dflt (Ty.list Ty.int)))):Nat):Int)) ∧
 br (lei (nth (nth x2 (Int.toNat x0) (Ty.dflt (Ty.list Ty.int))) (Int.toNat 1) (Ty.dflt Ty.int)) 1)
 (((0:Int)≤(1:Int)∧(1:Int)<(((len (nth x2 (Int.toNat x0) (Ty.dflt (Ty.list Ty.int)))):Nat):Int)) ∧
 ((0:Int)≤(2:Int)∧(2:Int)<(((len (nth x2 (Int.toNat x0) (Ty.dflt (Ty.list Ty.int)))):Nat):Int)) ∧
 rec q130_L0 (q130_S0 (w64 (x0+1)) x1 x2 (nth (nth x2 (Int.toNat x0) (Ty.dflt (Ty.list Ty.int))) (Int.toNat 1) (Ty.dflt Ty.int)) (nth (nth x2 (Int.toNat x0) (Ty.dflt (Ty.list Ty.int))) (Int.toNat 2) (Ty.dflt Ty.int)) 0 x6 x7 x8))
 (((0:Int)≤(0:Int)∧(0:Int)<(((len (nth x2 (Int.toNat x0) (Ty.dflt (Ty.list Ty.int)))):Nat):Int)) ∧
 v0))
 (((0:Int)≤(0:Int)∧(0:Int)<(((len (nth x2 (Int.toNat x0) (Ty.dflt (Ty.list Ty.int)))):Nat):Int)) ∧
 v0))
 (((0:Int)≤(0:Int)∧(0:Int)<(((len (nth x2 (Int.toNat x0) (Ty.dflt (Ty.list Ty.int)))):Nat):Int)) ∧
 v0))
 (K (.agg [dI x3,dI x4,dI x5]) [])):=by subst_vars; kernel_rfl

theorem zfn (l:List (List Int)) (hl:l.length≤1000) (hn:nonE l=true) (K:KK) (x6 x7 x8:Int):∀ (d k:Nat) (a b c:Int),k+d=l.length→K (.agg [dI ((l.drop k).foldl stepR ⟨a,b,c⟩).slot,dI ((l.drop k).foldl stepR ⟨a,b,c⟩).by_,dI ((l.drop k).foldl stepR ⟨a,b,c⟩).ready]) [] →
  goD Γ_q130 tab fn_q130 0 K (d+1) q130_L0 (q130_S0 (k:Int) (((len l):Nat):Int) l a b c x6 x7 x8)
 | 0,k,a,b,c,hk,hK=>by
  rw [z09 (L:=q130_L0),zj5 _ _ _ _ _ _ _ _ _ _ _ _ rfl _ rfl _ rfl]
  rw [List.drop_of_length_le (by omega)] at hK
  exact z22 (by simp only [len]; omega) hK
 | d+1,k,a,b,c,hk,hK=>by
  rw [z09 (L:=q130_L0),zj5 _ _ _ _ _ _ _ _ _ _ _ _ rfl _ rfl _ rfl,z08]
  have hm:nth l k (Ty.dflt (Ty.list Ty.int))∈l:=by
   have:k<l.length:=by omega
   simp [nth,List.getD_eq_getElem?_getD,this]
  have h0:0<(nth l k (Ty.dflt (Ty.list Ty.int))).length:=by simpa using List.all_eq_true.1 hn _ hm
  rw [z0q (by omega) (Ty.dflt (Ty.list Ty.int))] at hK
  obtain ⟨r,hr⟩:∃ r,nth l k (Ty.dflt (Ty.list Ty.int))=r:=⟨_,rfl⟩
  rw [hr] at hK h0 ⊢
  rw [List.foldl_cons] at hK
  have ek:w64 ((k:Int)+1)=((k+1:Nat):Int):=z0f (by omega)
  rw [ek]
  have nx:∀ a' b' c':Int,stepR ⟨a,b,c⟩ r=⟨a',b',c'⟩→goD Γ_q130 tab fn_q130 0 K (d+1) q130_L0 (q130_S0 ((k+1:Nat):Int) (((len l):Nat):Int) l a' b' c' x6 x7 x8):=fun a' b' c' e=>by
   rw [e] at hK
   exact zfn l hl hn K x6 x7 x8 d (k+1) a' b' c' (by omega) hK
  obtain ⟨u0,e0⟩:∃ u0,r.getD 0 0=u0:=⟨_,rfl⟩
  obtain ⟨u1,e1⟩:∃ u1,r.getD 1 0=u1:=⟨_,rfl⟩
  obtain ⟨u2,e2⟩:∃ u2,r.getD 2 0=u2:=⟨_,rfl⟩
  have es:stepR ⟨a,b,c⟩ r=if u0=1∧r.length=3∧u1≤1 then ⟨u1,u2,0⟩ else if u0=2∧r.length=2 then ⟨a,b,u1⟩ else if u0=3∧r.length=2 then ⟨a,b,0⟩ else ⟨a,b,c⟩:=by
   unfold stepR; rw [e0,e1,e2]
  rw [show nth r (Int.toNat 0) (Ty.dflt Ty.int)=u0 from e0,show nth r (Int.toNat 1) (Ty.dflt Ty.int)=u1 from e1,show nth r (Int.toNat 2) (Ty.dflt Ty.int)=u2 from e2]
  have hlen:len r=r.length:=rfl
  rw [hlen]
  rw [es] at nx
  clear hK es
  refine z2o (by simp only [len]; omega) ⟨⟨by omega,by simp only [len]; omega⟩,⟨by omega,by omega⟩,?_⟩
  by_cases c1:u0=1
  ·refine zgj c1 (z27 (fun h2=>⟨⟨by omega,by omega⟩,z0l (fun h3=>?_) (fun h3=>?_)⟩) (fun h2=>?_))
   ·rw [z1u] at h3
    exact ⟨⟨by omega,by omega⟩,⟨by omega,by omega⟩,nx _ _ _ (if_pos ⟨c1,by omega,h3⟩)⟩
   ·rw [z11] at h3
    exact ⟨⟨by omega,by omega⟩,zfd (by omega) ⟨⟨by omega,by omega⟩,zfd (by omega) (nx _ _ _ (by rw [if_neg (by omega),if_neg (by omega),if_neg (by omega)]))⟩⟩
   ·exact ⟨⟨by omega,by omega⟩,zfd (by omega) ⟨⟨by omega,by omega⟩,zfd (by omega) (nx _ _ _ (by rw [if_neg (by omega),if_neg (by omega),if_neg (by omega)]))⟩⟩
  ·refine zfd c1 ⟨⟨by omega,by omega⟩,?_⟩
   by_cases c2:u0=2
   ·refine zgj c2 (z27 (fun h2=>⟨⟨by omega,by omega⟩,nx _ _ _ (by rw [if_neg (by omega),if_pos (by omega)])⟩) (fun h2=>⟨⟨by omega,by omega⟩,zfd (by omega) (nx _ _ _ (by rw [if_neg (by omega),if_neg (by omega),if_neg (by omega)]))⟩))
   ·refine zfd c2 ⟨⟨by omega,by omega⟩,z27 (fun h3=>z27 (fun h4=>nx _ _ _ (by rw [if_neg (by omega),if_neg (by omega),if_pos (by omega)])) (fun h4=>nx _ _ _ (by rw [if_neg (by omega),if_neg (by omega),if_neg (by omega)]))) (fun h3=>nx _ _ _ (by rw [if_neg (by omega),if_neg (by omega),if_neg (by omega)]))⟩
theorem run_q130 (l:List (List Int)) (hp:len l≤1000∧nonE l=true) (K:KK) (hK:K (.agg [dI (stateR l).slot,dI (stateR l).by_,dI (stateR l).ready]) []):GD Γ_q130 fn_q130 0 K [.one (dR l)] []:=by
 refine ⟨l.length+2,?_⟩
 rw [z02,q130_vc _ _ _]
 exact zfn l hp.1 hp.2 K 0 0 0 l.length 0 0 0 0 (by omega) hK
theorem sound_q130:z03 Tryz.prog tab n_q130 c_q130:=z01 ok_q130 hg_q130 (by
 intro vs bs p v bs' h hp
 unfold c_q130 at h
 split at h
 ·cases h
  exact ⟨by kernel_rfl,rfl,.inl (run_q130 _ hp.1 _ ⟨rfl,rfl⟩)⟩
 ·cases h)

def c_q131:z00:=fun vs bs=>match vs,bs with
 | [.agg [.dat (.list .int) ws,.dat .int fu,.dat .bool _,.dat .int _,.dat .int _]],[]=>some (none,.agg [dI (ofU ⟨ws,fu⟩).slot,dI (ofU ⟨ws,fu⟩).by_,dI (ofU ⟨ws,fu⟩).ready],[])
 | _,_=>none
def Γ_q131:Ctx:=[(n_q64,c_q64),(n_q130,c_q130)]
theorem ok_q131:Ok Tryz.prog tab Γ_q131:=((ok_nil.c hg_q130 sound_q130).c hg_q64 sound_q64)
theorem q131_vc (ws:List Int) (fu:Int) (up:Bool) (un ug:Int) (rec:RK) (K:KK) v0 (hv0:v0=recordsF ⟨ws,fu⟩) v1 (hv1:v1=nonE v0.fst) v2 (hv2:v2=stateR v0.fst):segD Γ_q131 tab fn_q131 0 K rec [.code (z05 fn_q131)] (z07 [.agg [dL ws,dI fu,dB up,dI un,dI ug]] [])=(
 (len v0.fst≤1000∧v1=true) ∧
 K (.agg [dI v2.slot,dI v2.by_,dI v2.ready]) []):=by subst_vars; kernel_rfl

theorem run_q131 (K:KK) (hK:K (.agg [dI (ofU ⟨ws,fu⟩).slot,dI (ofU ⟨ws,fu⟩).by_,dI (ofU ⟨ws,fu⟩).ready]) []):GD Γ_q131 fn_q131 0 K [.agg [dL ws,dI fu,dB up,dI un,dI ug]] []:=by
 refine ⟨1,?_⟩
 rw [z02,q131_vc _ _ _ _ _ _ _ _ rfl _ rfl _ rfl]
 have h:=z3j ⟨ws,fu⟩
 exact ⟨⟨by simp only [len]; omega,zhc h.2⟩,hK⟩
theorem sound_q131:z03 Tryz.prog tab n_q131 c_q131:=z01 ok_q131 hg_q131 (by
 intro vs bs p v bs' h hp
 unfold c_q131 at h
 split at h
 ·cases h
  exact ⟨by kernel_rfl,rfl,.inl (run_q131 _ _ _ _ _ _ ⟨rfl,rfl⟩)⟩
 ·cases h)

def c_q43:z00:=fun vs bs=>match vs,bs with
 | [.agg [.dat (.list .int) ws,.dat .int fu],.one (.dat .int slot)],[]=>some (none,.tup [.agg [dL (clearS ⟨ws,fu⟩ slot).1.words,dI (clearS ⟨ws,fu⟩ slot).1.fuel],.one (dI (clearS ⟨ws,fu⟩ slot).2)],[])
 | _,_=>none
def Γ_q43:Ctx:=[(n_q42,c_q42),(n_q7,c_q7),(n_q8,c_q8)]
theorem ok_q43:Ok Tryz.prog tab Γ_q43:=(((ok_nil.c hg_q8 sound_q8).c hg_q7 sound_q7).c hg_q42 sound_q42)
theorem q43_vc (ws:List Int) (fu slot:Int) (rec:RK) (K:KK) v0 (hv0:v0=z0g (⟨ws,fu⟩:Flash) slot) v1 (hv1:v1=wipeCh (w64 ((2:Int)+w64 ((2:Int)*slot)))) v2 (hv2:v2=doCh (⟨ws,fu⟩:Flash) v1) v3 (hv3:v3=wipeCh (w64 ((3:Int)+w64 ((2:Int)*slot)))) v4 (hv4:v4=doCh (⟨v2.fst.words,v2.fst.fuel⟩:Flash) v3):segD Γ_q43 tab fn_q43 0 K rec [.code (z05 fn_q43)] (z07 [.agg [dL ws,dI fu],.one (dI slot)] [])=(
 br (!(eqi v0 0))
 (K (.tup [.agg [dL [],dI (0:Int)],.one (dI v0)]) [])
 (len ws*8≤140737488355328 ∧
 ((-1)≤fu∧fu≤100000∧(0:Int)≤w64 ((2:Int)+w64 ((2:Int)*slot))∧(w64 ((2:Int)+w64 ((2:Int)*slot))+1)*32≤(len ws:Int)∧len ws≤192) ∧
 br (!v2.snd)
 (K (.tup [.agg [dL v2.fst.words,dI v2.fst.fuel],.one (dI 7)]) [])
 (((-1)≤v2.fst.fuel∧v2.fst.fuel≤100000∧(0:Int)≤w64 ((3:Int)+w64 ((2:Int)*slot))∧(w64 ((3:Int)+w64 ((2:Int)*slot))+1)*32≤(len v2.fst.words:Int)∧len v2.fst.words≤192) ∧
 br (!v4.snd)
 (K (.tup [.agg [dL v4.fst.words,dI v4.fst.fuel],.one (dI 7)]) [])
 (K (.tup [.agg [dL v4.fst.words,dI v4.fst.fuel],.one (dI 0)]) [])))):=by subst_vars; kernel_rfl

theorem run_q43 (K:KK) (hK:K (.tup [.agg [dL (clearS ⟨ws,fu⟩ slot).1.words,dI (clearS ⟨ws,fu⟩ slot).1.fuel],.one (dI (clearS ⟨ws,fu⟩ slot).2)]) []):GD Γ_q43 fn_q43 0 K [.agg [dL ws,dI fu],.one (dI slot)] []:=by
 refine ⟨1,?_⟩
 rw [z02,q43_vc _ _ _ _ _ _ rfl _ rfl _ rfl _ rfl _ rfl]
 unfold clearS at hK
 refine z1c (fun h=>?_) (fun h=>?_)
 ·rw [if_neg h] at hK; exact hK
 rw [if_pos h] at hK
 obtain ⟨h1,h2,h3⟩:=z3h h
 obtain ⟨c1,c2,c3,c4⟩:=z10 h1
 simp only at c2 c3 h2
 rw [z0e (n:=2*slot) (by omega) (by omega),z0e (n:=2+2*slot) (by omega) (by omega),z0e (n:=3+2*slot) (by omega) (by omega)]
 unfold clearCh at hK
 rw [z33] at hK
 have hf:=z31 ⟨ws,fu⟩ (wipeCh (2+2*slot)) c2 c3
 have hl:=z4i ⟨ws,fu⟩ (wipeCh (2+2*slot))
 simp only [len] at hl ⊢
 refine ⟨by omega,⟨c2,c3,by omega,by omega,by omega⟩,z4n (fun h5=>?_) (fun h5=>⟨⟨hf.1,hf.2,by omega,by omega,by omega⟩,z4n (fun h6=>?_) (fun h6=>?_)⟩)⟩
 ·rw [if_neg (by simp [h5])] at hK
  simp only [power,powerE,h5] at hK; exact hK
 ·rw [if_pos h5] at hK
  simp only [power,powerE,h6] at hK; exact hK
 ·rw [if_pos h5] at hK
  simp only [power,powerE,h6] at hK; exact hK
theorem sound_q43:z03 Tryz.prog tab n_q43 c_q43:=z01 ok_q43 hg_q43 (by
 intro vs bs p v bs' h hp
 unfold c_q43 at h
 split at h
 ·cases h
  exact ⟨by kernel_rfl,rfl,.inl (run_q43 _ _ _ _ ⟨rfl,rfl⟩)⟩
 ·cases h)

def c_q137:z00:=fun vs bs=>match vs,bs with
 | [.one (.ptr 0 0)],[.box [.dat (.list .int) ws,.dat .int fu,.dat .bool up,.dat .int un,.dat .int ug]]=>some (none,.tup [],[.box (cU (downU ⟨⟨ws,fu⟩,up,un,ug⟩))])
 | _,_=>none
def Γ_q137:Ctx:=[]
theorem ok_q137:Ok Tryz.prog tab Γ_q137:=ok_nil
theorem q137_vc (ws:List Int) (fu:Int) (up:Bool) (un ug:Int) (rec:RK) (K:KK):segD Γ_q137 tab fn_q137 1 K rec [.code (z05 fn_q137)] (z07 [.one (.ptr 0 0)] [.box [dL ws,dI fu,dB up,dI un,dI ug]])=(
 K (.tup []) [.box [dL ws,dI fu,dB false,dI (0:Int),dI (0:Int)]]):=by kernel_rfl

theorem run_q137 (K:KK) (hK:K (.tup []) [.box (cU (downU ⟨⟨ws,fu⟩,up,un,ug⟩))]):GD Γ_q137 fn_q137 1 K [.one (.ptr 0 0)] [.box [dL ws,dI fu,dB up,dI un,dI ug]]:=by
 refine ⟨1,?_⟩
 rw [z02,q137_vc _ _ _ _ _ _ _]
 exact hK
theorem sound_q137:z03 Tryz.prog tab n_q137 c_q137:=z01 ok_q137 hg_q137 (by
 intro vs bs p v bs' h hp
 unfold c_q137 at h
 split at h
 ·cases h
  exact ⟨by kernel_rfl,rfl,.inl (run_q137 _ _ _ _ _ _ ⟨rfl,rfl⟩)⟩
 ·cases h)

def c_q138:z00:=fun vs bs=>match vs,bs with
 | [.one (.ptr 0 0),.agg [.dat (.list .int) gs,.dat .int gf],.one (.dat .int e)],[.box [.dat (.list .int) ws,.dat .int fu,.dat .bool up,.dat .int un,.dat .int ug]]=>some (none,.one (dB (changeU ⟨⟨ws,fu⟩,up,un,ug⟩ ⟨gs,gf⟩ e).2),[.box (cU (changeU ⟨⟨ws,fu⟩,up,un,ug⟩ ⟨gs,gf⟩ e).1)])
 | _,_=>none
def Γ_q138:Ctx:=[(n_q137,c_q137)]
theorem ok_q138:Ok Tryz.prog tab Γ_q138:=(ok_nil.c hg_q137 sound_q137)
theorem q138_vc (ws:List Int) (fu:Int) (up:Bool) (un ug:Int) (gs:List Int) (gf e:Int) (rec:RK) (K:KK):segD Γ_q138 tab fn_q138 1 K rec [.code (z05 fn_q138)] (z07 [.one (.ptr 0 0),.agg [dL gs,dI gf],.one (dI e)] [.box [dL ws,dI fu,dB up,dI un,dI ug]])=(
 br (eqi e 0)
 (K (.one (dB true)) [.box [dL gs,dI gf,dB up,dI un,dI ug]])
 (br (eqi e 7)
 (K (.one (dB false)) [.box [dL gs,dI gf,dB false,dI (0:Int),dI (0:Int)]])
 (K (.one (dB false)) [.box [dL ws,dI fu,dB up,dI un,dI ug]]))):=by kernel_rfl

theorem run_q138 (K:KK) (hK:K (.one (dB (changeU ⟨⟨ws,fu⟩,up,un,ug⟩ ⟨gs,gf⟩ e).2)) [.box (cU (changeU ⟨⟨ws,fu⟩,up,un,ug⟩ ⟨gs,gf⟩ e).1)]):GD Γ_q138 fn_q138 1 K [.one (.ptr 0 0),.agg [dL gs,dI gf],.one (dI e)] [.box [dL ws,dI fu,dB up,dI un,dI ug]]:=by
 refine ⟨1,?_⟩
 rw [z02,q138_vc _ _ _ _ _ _ _ _ _ _]
 unfold changeU at hK
 refine z27 (fun h=>?_) (fun h=>z27 (fun h2=>?_) (fun h2=>?_))
 ·rw [if_pos h] at hK; exact hK
 ·rw [if_neg h,if_pos h2] at hK; exact hK
 ·rw [if_neg h,if_neg h2] at hK; exact hK
theorem sound_q138:z03 Tryz.prog tab n_q138 c_q138:=z01 ok_q138 hg_q138 (by
 intro vs bs p v bs' h hp
 unfold c_q138 at h
 split at h
 ·cases h
  exact ⟨by kernel_rfl,rfl,.inl (run_q138 _ _ _ _ _ _ _ _ _ ⟨rfl,rfl⟩)⟩
 ·cases h)

def c_q140:z00:=fun vs bs=>match vs,bs with
 | [.one (.ptr 0 0),.agg [.dat .int so,.dat .int sb,.dat .int sr],.agg [.dat .int mk,.dat .int mu,.dat .int mn,.dat .int ma,.dat .int mi,.dat (.list .int) mw,.dat .bool my]],[.box [.dat (.list .int) ws,.dat .int fu,.dat .bool up,.dat .int un,.dat .int ug]]=>some (some (0≤so∧so≤1∧0≤ma∧ma≤40∧len mw≤8),.tup [],[.box (cU (pieceU ⟨⟨ws,fu⟩,up,un,ug⟩ ⟨so,sb,sr⟩ ⟨mk,mu,mn,ma,mi,mw,my⟩))])
 | _,_=>none
def Γ_q140:Ctx:=[(n_q43,c_q43),(n_q44,c_q44),(n_q138,c_q138)]
theorem ok_q140:Ok Tryz.prog tab Γ_q140:=(((ok_nil.c hg_q138 sound_q138).c hg_q44 sound_q44).c hg_q43 sound_q43)
theorem q140_vc (ws:List Int) (fu:Int) (up:Bool) (un ug so sb sr mk mu mn ma mi:Int) (mw:List Int) (my:Bool) (rec:RK) (K:KK) v0 (hv0:v0=clearS ⟨ws,fu⟩ (w64 ((1:Int)-so))) v1 (hv1:v1=changeU ⟨⟨ws,fu⟩,up,un,ug⟩ ⟨v0.fst.words,v0.fst.fuel⟩ v0.snd) v2 (hv2:v2=fillS ⟨v1.fst.f.words,v1.fst.f.fuel⟩ (w64 ((1:Int)-so)) ma mw) v3 (hv3:v3=changeU ⟨⟨v1.fst.f.words,v1.fst.f.fuel⟩,v1.fst.up,mn,0⟩ ⟨v2.fst.words,v2.fst.fuel⟩ v2.snd) v4 (hv4:v4=fillS ⟨ws,fu⟩ (w64 ((1:Int)-so)) ma mw) v5 (hv5:v5=changeU ⟨⟨ws,fu⟩,up,un,ug⟩ ⟨v4.fst.words,v4.fst.fuel⟩ v4.snd) v7 (hv7:v7=br (!(eqi un mn))
 (K (.tup []) [.box [dL ws,dI fu,dB up,dI un,dI ug]])
 (br (!(eqi ug ma))
 (K (.tup []) [.box [dL ws,dI fu,dB up,dI un,dI ug]])
 (br (lti 40 (w64 (ma+(len mw:Int))))
 (K (.tup []) [.box [dL ws,dI fu,dB up,dI un,dI ug]])
 (List.length mw≤140737488355328 ∧
 br v5.snd
 (K (.tup []) [.box [dL v5.fst.f.words,dI v5.fst.f.fuel,dB v5.fst.up,dI v5.fst.n,dI (w64 (v5.fst.got+(len mw:Int)))]])
 (K (.tup []) [.box (cU v5.fst)]))))) v8 (hv8:v8=K (.tup []) [.box [dL v1.fst.f.words,dI v1.fst.f.fuel,dB v1.fst.up,dI mn,dI (0:Int)]]) v6 (hv6:v6=br (!v1.snd)
 (K (.tup []) [.box (cU v1.fst)])
 (br (!(eqi mn mn))
 v8
 (br (!(eqi 0 ma))
 v8
 (br (lti 40 (w64 (ma+(len mw:Int))))
 v8
 (List.length mw≤140737488355328 ∧
 br v3.snd
 (K (.tup []) [.box [dL v3.fst.f.words,dI v3.fst.f.fuel,dB v3.fst.up,dI v3.fst.n,dI (w64 (v3.fst.got+(len mw:Int)))]])
 (K (.tup []) [.box (cU v3.fst)])))))):segD Γ_q140 tab fn_q140 1 K rec [.code (z05 fn_q140)] (z07 [.one (.ptr 0 0),.agg [dI so,dI sb,dI sr],.agg [dI mk,dI mu,dI mn,dI ma,dI mi,dL mw,dB my]] [.box [dL ws,dI fu,dB up,dI un,dI ug]])=(
 br (lti 0 sr)
 (K (.tup []) [.box [dL ws,dI fu,dB up,dI un,dI ug]])
 (br (lei mn sb)
 (K (.tup []) [.box [dL ws,dI fu,dB up,dI un,dI ug]])
 (br (lti 8 mn)
 (K (.tup []) [.box [dL ws,dI fu,dB up,dI un,dI ug]])
 (br (eqi ma 0)
 (br (!(eqi un mn))
 v6
 (br (eqi ug 0)
 v6
 v7))
 v7)))):=by subst_vars; kernel_rfl

theorem zbw (K:KK) (ws:List Int) (fu:Int) (up:Bool) (un ug so sb sr mk mu mn ma mi:Int) (mw:List Int) (my:Bool) (hs:0≤so∧so≤1) (ha:0≤ma∧ma≤40) (hw:len mw≤8)
  (hK:K (.tup []) [.box (cU (fillU ⟨⟨ws,fu⟩,up,un,ug⟩ ⟨so,sb,sr⟩ ⟨mk,mu,mn,ma,mi,mw,my⟩))]) :
  br (!(eqi un mn))
   (K (.tup []) [.box [dL ws,dI fu,dB up,dI un,dI ug]])
   (br (!(eqi ug ma))
    (K (.tup []) [.box [dL ws,dI fu,dB up,dI un,dI ug]])
    (br (lti 40 (w64 (ma+((len mw:Nat):Int))))
     (K (.tup []) [.box [dL ws,dI fu,dB up,dI un,dI ug]])
     ((List.length mw≤140737488355328) ∧
       br (changeU ⟨⟨ws,fu⟩,up,un,ug⟩ (fillS ⟨ws,fu⟩ (w64 (1-so)) ma mw).1 (fillS ⟨ws,fu⟩ (w64 (1-so)) ma mw).2).2
       (K (.tup []) [.box [dL (changeU ⟨⟨ws,fu⟩,up,un,ug⟩ (fillS ⟨ws,fu⟩ (w64 (1-so)) ma mw).1 (fillS ⟨ws,fu⟩ (w64 (1-so)) ma mw).2).1.f.words,dI (changeU ⟨⟨ws,fu⟩,up,un,ug⟩ (fillS ⟨ws,fu⟩ (w64 (1-so)) ma mw).1 (fillS ⟨ws,fu⟩ (w64 (1-so)) ma mw).2).1.f.fuel,dB (changeU ⟨⟨ws,fu⟩,up,un,ug⟩ (fillS ⟨ws,fu⟩ (w64 (1-so)) ma mw).1 (fillS ⟨ws,fu⟩ (w64 (1-so)) ma mw).2).1.up,dI (changeU ⟨⟨ws,fu⟩,up,un,ug⟩ (fillS ⟨ws,fu⟩ (w64 (1-so)) ma mw).1 (fillS ⟨ws,fu⟩ (w64 (1-so)) ma mw).2).1.n,dI (w64 ((changeU ⟨⟨ws,fu⟩,up,un,ug⟩ (fillS ⟨ws,fu⟩ (w64 (1-so)) ma mw).1 (fillS ⟨ws,fu⟩ (w64 (1-so)) ma mw).2).1.got+((len mw:Nat):Int)))]])
       (K (.tup []) [.box (cU (changeU ⟨⟨ws,fu⟩,up,un,ug⟩ (fillS ⟨ws,fu⟩ (w64 (1-so)) ma mw).1 (fillS ⟨ws,fu⟩ (w64 (1-so)) ma mw).2).1)])))):=by
 have hl:mw.length≤8:=hw
 rw [z0e (n:=1-so) (by omega) (by omega),z0e (n:=ma+((len mw:Nat):Int)) (by simp only [len]; omega) (by simp only [len]; omega)]
 unfold fillU at hK
 simp only at hK
 refine z1c (fun h=>?_) (fun h=>z1c (fun h2=>?_) (fun h2=>z1a (fun h3=>?_) (fun h3=>⟨by omega,z0l (fun h4=>?_) (fun h4=>?_)⟩)))
 ·rw [if_pos (.inl h)] at hK; exact hK
 ·rw [if_pos (.inr (.inl h2))] at hK; exact hK
 ·rw [if_pos (.inr (.inr (by simp only [len] at h3; omega)))] at hK; exact hK
 ·rw [if_neg (by simp only [len] at h3; omega)] at hK
  have e:fillC ⟨⟨ws,fu⟩,up,un,ug⟩ ⟨so,sb,sr⟩ ⟨mk,mu,mn,ma,mi,mw,my⟩=changeU ⟨⟨ws,fu⟩,up,un,ug⟩ (fillS ⟨ws,fu⟩ (1-so) ma mw).1 (fillS ⟨ws,fu⟩ (1-so) ma mw).2:=rfl
  rw [e,if_pos h4] at hK
  have hg:(changeU ⟨⟨ws,fu⟩,up,un,ug⟩ (fillS ⟨ws,fu⟩ (1-so) ma mw).1 (fillS ⟨ws,fu⟩ (1-so) ma mw).2).1.got=ug:=by rw [(z5o h4).2]
  rw [z0e (by simp only [len]; omega) (by simp only [len]; omega)]
  exact hK
 ·rw [if_neg (by simp only [len] at h3; omega)] at hK
  have e:fillC ⟨⟨ws,fu⟩,up,un,ug⟩ ⟨so,sb,sr⟩ ⟨mk,mu,mn,ma,mi,mw,my⟩=changeU ⟨⟨ws,fu⟩,up,un,ug⟩ (fillS ⟨ws,fu⟩ (1-so) ma mw).1 (fillS ⟨ws,fu⟩ (1-so) ma mw).2:=rfl
  rw [e,if_neg (by rw [h4]; simp)] at hK
  exact hK
theorem run_q140 (hp:0≤so∧so≤1∧0≤ma∧ma≤40∧len mw≤8) (K:KK) (hK:K (.tup []) [.box (cU (pieceU ⟨⟨ws,fu⟩,up,un,ug⟩ ⟨so,sb,sr⟩ ⟨mk,mu,mn,ma,mi,mw,my⟩))]):GD Γ_q140 fn_q140 1 K [.one (.ptr 0 0),.agg [dI so,dI sb,dI sr],.agg [dI mk,dI mu,dI mn,dI ma,dI mi,dL mw,dB my]] [.box [dL ws,dI fu,dB up,dI un,dI ug]]:=by
 refine ⟨1,?_⟩
 rw [z02,q140_vc _ _ _ _ _ _ _ _ _ _ _ _ _ _ _ _ _ _ rfl _ rfl _ rfl _ rfl _ rfl _ rfl _ rfl _ rfl _ rfl]
 obtain ⟨p1,p2,p3,p4,p5⟩:=hp
 have fill:=zbw K ws fu up un ug so sb sr mk mu mn ma mi mw my ⟨p1,p2⟩ ⟨p3,p4⟩ p5
 unfold pieceU at hK
 simp only at hK
 refine z1a (fun h=>?_) (fun h=>z0l (fun h2=>?_) (fun h2=>z1a (fun h3=>?_) (fun h3=>?_)))
 ·rw [if_pos (.inl h)] at hK; exact hK
 ·rw [z1u] at h2; rw [if_pos (.inr (.inl h2))] at hK; exact hK
 ·rw [if_pos (.inr (.inr h3))] at hK; exact hK
 rw [z11] at h2
 rw [if_neg (by omega)] at hK
 have e:clearC ⟨⟨ws,fu⟩,up,un,ug⟩ ⟨so,sb,sr⟩=changeU ⟨⟨ws,fu⟩,up,un,ug⟩ (clearS ⟨ws,fu⟩ (w64 (1-so))).1 (clearS ⟨ws,fu⟩ (w64 (1-so))).2:=by rw [z0e (by omega) (by omega)]; rfl
 rw [e] at hK
 refine z27 (fun h4=>?_) (fun h4=>?_)
 ·have clear_:∀ P:Prop,(un≠mn∨ug=0)→(∀ v1,v1=changeU ⟨⟨ws,fu⟩,up,un,ug⟩ (clearS ⟨ws,fu⟩ (w64 (1-so))).1 (clearS ⟨ws,fu⟩ (w64 (1-so))).2→(v1.2=false→K (.tup []) [.box (cU v1.1)]) →
    (v1.2=true→K (.tup []) [.box (cU (fillU ⟨v1.1.f,v1.1.up,mn,0⟩ ⟨so,sb,sr⟩ ⟨mk,mu,mn,ma,mi,mw,my⟩))])→P)→P:=fun P hu hP=>by
   rw [if_pos ⟨h4,hu⟩] at hK
   refine hP _ rfl (fun hv=>?_) (fun hv=>?_)
   ·rw [if_neg (by rw [hv]; simp)] at hK; exact hK
   ·rw [if_pos hv] at hK; exact hK
  refine z1c (fun h5=>?_) (fun h5=>z27 (fun h6=>?_) (fun h6=>?_))
  ·refine clear_ _ (.inl h5) fun v1 hv k1 k2=>?_
   rw [← hv]
   refine z4n (fun g=>k1 g) (fun g=>?_)
   exact zbw K v1.1.f.words v1.1.f.fuel v1.1.up mn 0 so sb sr mk mu mn ma mi mw my ⟨p1,p2⟩ ⟨p3,p4⟩ p5 (k2 g)
  ·refine clear_ _ (.inr h6) fun v1 hv k1 k2=>?_
   rw [← hv]
   refine z4n (fun g=>k1 g) (fun g=>?_)
   exact zbw K v1.1.f.words v1.1.f.fuel v1.1.up mn 0 so sb sr mk mu mn ma mi mw my ⟨p1,p2⟩ ⟨p3,p4⟩ p5 (k2 g)
  ·rw [if_neg (by omega)] at hK
   exact fill hK
 ·rw [if_neg (by omega)] at hK
  exact fill hK
theorem sound_q140:z03 Tryz.prog tab n_q140 c_q140:=z01 ok_q140 hg_q140 (by
 intro vs bs p v bs' h hp
 unfold c_q140 at h
 split at h
 ·cases h
  exact ⟨by kernel_rfl,rfl,.inl (run_q140 _ _ _ _ _ _ _ _ _ _ _ _ _ _ _ hp.1 _ ⟨rfl,rfl⟩)⟩
 ·cases h)

def c_q141:z00:=fun vs bs=>match vs,bs with
 | [.one (.dat .bool y),.one (.ptr 0 0)],[.box [.dat .int mk,.dat .int mu,.dat .int mn,.dat .int ma,.dat .int mi,.dat (.list .int) mw,.dat .bool my]]=>some (none,.one (dM (voteM ⟨mk,mu,mn,ma,mi,mw,my⟩ y)),[.box [dI mk,dI mu,dI mn,dI ma,dI mi,dL mw,dB my]])
 | _,_=>none
def Γ_q141:Ctx:=[]
theorem ok_q141:Ok Tryz.prog tab Γ_q141:=ok_nil
theorem q141_vc (y:Bool) (mk mu mn ma mi:Int) (mw:List Int) (my:Bool) (rec:RK) (K:KK):segD Γ_q141 tab fn_q141 1 K rec [.code (z05 fn_q141)] (z07 [.one (dB y),.one (.ptr 0 0)] [.box [dI mk,dI mu,dI mn,dI ma,dI mi,dL mw,dB my]])=(
 K (.one (dM ((⟨3,mu,mn,0,0,[],y⟩:Vm.Message)::[]))) [.box [dI mk,dI mu,dI mn,dI ma,dI mi,dL mw,dB my]]):=by kernel_rfl

theorem run_q141 (K:KK) (hK:K (.one (dM (voteM ⟨mk,mu,mn,ma,mi,mw,my⟩ y))) [.box [dI mk,dI mu,dI mn,dI ma,dI mi,dL mw,dB my]]):GD Γ_q141 fn_q141 1 K [.one (dB y),.one (.ptr 0 0)] [.box [dI mk,dI mu,dI mn,dI ma,dI mi,dL mw,dB my]]:=by
 refine ⟨1,?_⟩
 rw [z02,q141_vc _ _ _ _ _ _ _ _ _ _]
 exact hK
theorem sound_q141:z03 Tryz.prog tab n_q141 c_q141:=z01 ok_q141 hg_q141 (by
 intro vs bs p v bs' h hp
 unfold c_q141 at h
 split at h
 ·cases h
  exact ⟨by kernel_rfl,rfl,.inl (run_q141 _ _ _ _ _ _ _ _ _ ⟨rfl,rfl⟩)⟩
 ·cases h)

def c_q27:z00:=fun vs bs=>match vs,bs with
 | [.agg [.dat (.list .int) ws,.dat .int fu],.one (.dat .int at_),.one (.dat .int n)],[]=>some (some (I64 at_∧I64 n),.tup [.one (dL (readF ⟨ws,fu⟩ at_ n).1),.one (dI (readF ⟨ws,fu⟩ at_ n).2)],[])
 | _,_=>none
def Γ_q27:Ctx:=[(n_q6,c_q6),(n_q2,c_q2)]
theorem ok_q27:Ok Tryz.prog tab Γ_q27:=((ok_nil.c hg_q2 sound_q2).c hg_q6 sound_q6)
theorem q27_vc (ws:List Int) (fu at_ n:Int) (rec:RK) (K:KK) v0 (hv0:v0=z0b ⟨ws,fu⟩):segD Γ_q27 tab fn_q27 0 K rec [.code (z05 fn_q27)] (z07 [.agg [dL ws,dI fu],.one (dI at_),.one (dI n)] [])=(
 br (!(eqi v0 0))
 (K (.tup [.one (dL []),.one (dI v0)]) [])
 (br (lti at_ 0)
 (K (.tup [.one (dL []),.one (dI 5)]) [])
 (br (lti n 0)
 (K (.tup [.one (dL []),.one (dI 5)]) [])
 (br (lti (len ws:Int) at_)
 (K (.tup [.one (dL []),.one (dI 5)]) [])
 (br (lti (w64 ((len ws:Int)-at_)) n)
 (K (.tup [.one (dL []),.one (dI 5)]) [])
 (((0:Int)≤at_∧at_≤w64 (at_+n)∧w64 (at_+n)≤(len ws:Int)) ∧
 len (slc ws (Int.toNat at_) (Int.toNat (w64 (at_+n))))*8≤140737488355328 ∧
 K (.tup [.one (dL (slc ws (Int.toNat at_) (Int.toNat (w64 (at_+n))))),.one (dI 0)]) [])))))):=by subst_vars; kernel_rfl

theorem run_q27 (hp:I64 at_∧I64 n) (K:KK) (hK:K (.tup [.one (dL (readF ⟨ws,fu⟩ at_ n).1),.one (dI (readF ⟨ws,fu⟩ at_ n).2)]) []):GD Γ_q27 fn_q27 0 K [.agg [dL ws,dI fu],.one (dI at_),.one (dI n)] []:=by
 obtain ⟨⟨ha,hb⟩,hc,hd⟩:=hp
 refine ⟨1,?_⟩
 rw [z02,q27_vc _ _ _ _ _ _ _ rfl]
 unfold readF at hK
 refine z1c (fun h=>?_) (fun h=>?_)
 ·rw [if_neg h] at hK; exact hK
 rw [if_pos h] at hK
 obtain ⟨c1,c2,c3,c4⟩:=z10 h
 obtain ⟨c5,c6⟩:=z6f c1
 simp only at c2 c3 c5 c6
 have five:¬ (0≤at_∧0≤n∧at_+n≤(ws.length:Int))→K (.tup [.one (dL []),.one (dI 5)]) []:=fun hn=>by
  rw [if_neg hn] at hK; exact hK
 simp only [len]
 refine z1a (fun h1=>five (by omega)) (fun h1=>z1a (fun h2=>five (by omega)) (fun h2=>z1a (fun h3=>five (by omega)) (fun h3=>?_)))
 rw [z0e (by omega) (by omega)]
 refine z1a (fun h4=>five (by omega)) (fun h4=>?_)
 rw [if_pos (by simp only; omega)] at hK
 rw [z0e (by omega) (by omega)]
 refine ⟨⟨h1,by omega,by omega⟩,?_,hK⟩
 have:(slc ws at_.toNat (at_+n).toNat).length≤192:=by simp [slc]; omega
 omega
theorem sound_q27:z03 Tryz.prog tab n_q27 c_q27:=z01 ok_q27 hg_q27 (by
 intro vs bs p v bs' h hp
 unfold c_q27 at h
 split at h
 ·cases h
  exact ⟨by kernel_rfl,rfl,.inl (run_q27 _ _ _ _ hp.1 _ ⟨rfl,rfl⟩)⟩
 ·cases h)

def c_q45:z00:=fun vs bs=>match vs,bs with
 | [.agg [.dat (.list .int) ws,.dat .int fu],.one (.dat .int slot),.one (.dat .int n)],[]=>some (none,.tup [.one (dL (bodyS ⟨ws,fu⟩ slot n).1),.one (dI (bodyS ⟨ws,fu⟩ slot n).2)],[])
 | _,_=>none
def Γ_q45:Ctx:=[(n_q42,c_q42),(n_q41,c_q41),(n_q27,c_q27)]
theorem ok_q45:Ok Tryz.prog tab Γ_q45:=(((ok_nil.c hg_q27 sound_q27).c hg_q41 sound_q41).c hg_q42 sound_q42)
theorem q45_vc (ws:List Int) (fu slot n:Int) (rec:RK) (K:KK) v0 (hv0:v0=z0g (⟨ws,fu⟩:Flash) slot) v1 (hv1:v1=readF (⟨ws,fu⟩:Flash) (w64 ((64:Int)+(64:Int)*slot+4)) n):segD Γ_q45 tab fn_q45 0 K rec [.code (z05 fn_q45)] (z07 [.agg [dL ws,dI fu],.one (dI slot),.one (dI n)] [])=(
 br (!(eqi v0 0))
 (K (.tup [.one (dL []),.one (dI v0)]) [])
 (br (lti n 0)
 (K (.tup [.one (dL []),.one (dI 2)]) [])
 (br (lti 40 n)
 (K (.tup [.one (dL []),.one (dI 2)]) [])
 (((0:Int)≤slot∧slot≤1) ∧
 (((-9223372036854775808)≤w64 ((64:Int)+(64:Int)*slot+4)∧w64 ((64:Int)+(64:Int)*slot+4)≤9223372036854775807)∧(-9223372036854775808)≤n∧n≤9223372036854775807) ∧
 K (.tup [.one (dL v1.fst),.one (dI v1.snd)]) [])))):=by subst_vars; kernel_rfl

theorem run_q45 (K:KK) (hK:K (.tup [.one (dL (bodyS ⟨ws,fu⟩ slot n).1),.one (dI (bodyS ⟨ws,fu⟩ slot n).2)]) []):GD Γ_q45 fn_q45 0 K [.agg [dL ws,dI fu],.one (dI slot),.one (dI n)] []:=by
 refine ⟨1,?_⟩
 rw [z02,q45_vc _ _ _ _ _ _ _ rfl _ rfl]
 unfold bodyS at hK
 refine z1c (fun h=>?_) (fun h=>?_)
 ·rw [if_neg h] at hK; exact hK
 rw [if_pos h] at hK
 obtain ⟨h1,h2,h3⟩:=z3h h
 simp only at h2
 refine z1a (fun h4=>?_) (fun h4=>z1a (fun h5=>?_) (fun h5=>?_))
 ·rw [if_neg (by omega)] at hK; exact hK
 ·rw [if_neg (by omega)] at hK; exact hK
 rw [if_pos (by omega)] at hK
 rw [z0e (n:=64+64*slot+4) (by omega) (by omega),show 64+64*slot+4=68+64*slot by omega]
 refine ⟨by omega,by omega,?_⟩
 unfold readF
 rw [if_pos h1,if_pos (by simp only; omega)]
 exact hK
theorem sound_q45:z03 Tryz.prog tab n_q45 c_q45:=z01 ok_q45 hg_q45 (by
 intro vs bs p v bs' h hp
 unfold c_q45 at h
 split at h
 ·cases h
  exact ⟨by kernel_rfl,rfl,.inl (run_q45 _ _ _ _ _ ⟨rfl,rfl⟩)⟩
 ·cases h)

def c_q47:z00:=fun vs bs=>match vs,bs with
 | [.agg [.dat (.list .int) ws,.dat .int fu],.one (.dat .int slot)],[]=>some (none,.tup [.one (dL (z1l ⟨ws,fu⟩ slot).1),.one (dI (z1l ⟨ws,fu⟩ slot).2.1),.one (dI (z1l ⟨ws,fu⟩ slot).2.2)],[])
 | _,_=>none
def Γ_q47:Ctx:=[(n_q42,c_q42),(n_q41,c_q41),(n_q2,c_q2)]
theorem ok_q47:Ok Tryz.prog tab Γ_q47:=(((ok_nil.c hg_q2 sound_q2).c hg_q41 sound_q41).c hg_q42 sound_q42)
theorem q47_vc (ws:List Int) (fu slot:Int) (rec:RK) (K:KK) v0 (hv0:v0=z0g (⟨ws,fu⟩:Flash) slot) v1 (hv1:v1=K (.tup [.one (dL []),.one (dI 0),.one (dI 4)]) []):segD Γ_q47 tab fn_q47 0 K rec [.code (z05 fn_q47)] (z07 [.agg [dL ws,dI fu],.one (dI slot)] [])=(
 br (!(eqi v0 0))
 (K (.tup [.one (dL []),.one (dI 0),.one (dI v0)]) [])
 (((0:Int)≤slot∧slot≤1) ∧
 ((0:Int)≤slot∧slot≤1) ∧
 ((0:Int)≤(64:Int)+(64:Int)*slot∧(64:Int)+(64:Int)*slot≤w64 ((64:Int)+(64:Int)*slot+4)∧w64 ((64:Int)+(64:Int)*slot+4)≤(len ws:Int)) ∧
 ((0:Int)≤(0:Int)∧(0:Int)<(((len (slc ws (Int.toNat ((64:Int)+(64:Int)*slot)) (Int.toNat (w64 ((64:Int)+(64:Int)*slot+4))))):Nat):Int)) ∧
 br (lti (nth (slc ws (Int.toNat ((64:Int)+(64:Int)*slot)) (Int.toNat (w64 ((64:Int)+(64:Int)*slot+4)))) (Int.toNat 0) (Ty.dflt Ty.int)) 1)
 v1
 (((0:Int)≤(0:Int)∧(0:Int)<(((len (slc ws (Int.toNat ((64:Int)+(64:Int)*slot)) (Int.toNat (w64 ((64:Int)+(64:Int)*slot+4))))):Nat):Int)) ∧
 br (lti 40 (nth (slc ws (Int.toNat ((64:Int)+(64:Int)*slot)) (Int.toNat (w64 ((64:Int)+(64:Int)*slot+4)))) (Int.toNat 0) (Ty.dflt Ty.int)))
 v1
 (((0:Int)≤(1:Int)∧(1:Int)<(((len (slc ws (Int.toNat ((64:Int)+(64:Int)*slot)) (Int.toNat (w64 ((64:Int)+(64:Int)*slot+4))))):Nat):Int)) ∧
 br (lti (nth (slc ws (Int.toNat ((64:Int)+(64:Int)*slot)) (Int.toNat (w64 ((64:Int)+(64:Int)*slot+4)))) (Int.toNat 1) (Ty.dflt Ty.int)) 1)
 v1
 (((0:Int)≤(1:Int)∧(1:Int)<(((len (slc ws (Int.toNat ((64:Int)+(64:Int)*slot)) (Int.toNat (w64 ((64:Int)+(64:Int)*slot+4))))):Nat):Int)) ∧
 br (lti 60 (nth (slc ws (Int.toNat ((64:Int)+(64:Int)*slot)) (Int.toNat (w64 ((64:Int)+(64:Int)*slot+4)))) (Int.toNat 1) (Ty.dflt Ty.int)))
 v1
 (((0:Int)≤(2:Int)∧(2:Int)<(((len (slc ws (Int.toNat ((64:Int)+(64:Int)*slot)) (Int.toNat (w64 ((64:Int)+(64:Int)*slot+4))))):Nat):Int)) ∧
 ((0:Int)≤(0:Int)∧(0:Int)<(((len (slc ws (Int.toNat ((64:Int)+(64:Int)*slot)) (Int.toNat (w64 ((64:Int)+(64:Int)*slot+4))))):Nat):Int)) ∧
 br (!(eqi (nth (slc ws (Int.toNat ((64:Int)+(64:Int)*slot)) (Int.toNat (w64 ((64:Int)+(64:Int)*slot+4)))) (Int.toNat 2) (Ty.dflt Ty.int)) (xori 65535 (nth (slc ws (Int.toNat ((64:Int)+(64:Int)*slot)) (Int.toNat (w64 ((64:Int)+(64:Int)*slot+4)))) (Int.toNat 0) (Ty.dflt Ty.int)))))
 v1
 (((0:Int)≤(3:Int)∧(3:Int)<(((len (slc ws (Int.toNat ((64:Int)+(64:Int)*slot)) (Int.toNat (w64 ((64:Int)+(64:Int)*slot+4))))):Nat):Int)) ∧
 ((0:Int)≤(1:Int)∧(1:Int)<(((len (slc ws (Int.toNat ((64:Int)+(64:Int)*slot)) (Int.toNat (w64 ((64:Int)+(64:Int)*slot+4))))):Nat):Int)) ∧
 br (!(eqi (nth (slc ws (Int.toNat ((64:Int)+(64:Int)*slot)) (Int.toNat (w64 ((64:Int)+(64:Int)*slot+4)))) (Int.toNat 3) (Ty.dflt Ty.int)) (xori 65535 (nth (slc ws (Int.toNat ((64:Int)+(64:Int)*slot)) (Int.toNat (w64 ((64:Int)+(64:Int)*slot+4)))) (Int.toNat 1) (Ty.dflt Ty.int)))))
 v1
 (((0:Int)≤slot∧slot≤1) ∧
 ((0:Int)≤slot∧slot≤1) ∧
 ((0:Int)≤(0:Int)∧(0:Int)<(((len (slc ws (Int.toNat ((64:Int)+(64:Int)*slot)) (Int.toNat (w64 ((64:Int)+(64:Int)*slot+4))))):Nat):Int)) ∧
 ((0:Int)≤w64 ((64:Int)+(64:Int)*slot+4)∧w64 ((64:Int)+(64:Int)*slot+4)≤w64 (w64 ((64:Int)+(64:Int)*slot+4)+nth (slc ws (Int.toNat ((64:Int)+(64:Int)*slot)) (Int.toNat (w64 ((64:Int)+(64:Int)*slot+4)))) (Int.toNat 0) (Ty.dflt Ty.int))∧w64 (w64 ((64:Int)+(64:Int)*slot+4)+nth (slc ws (Int.toNat ((64:Int)+(64:Int)*slot)) (Int.toNat (w64 ((64:Int)+(64:Int)*slot+4)))) (Int.toNat 0) (Ty.dflt Ty.int))≤(len ws:Int)) ∧
 len (slc ws (Int.toNat (w64 ((64:Int)+(64:Int)*slot+4))) (Int.toNat (w64 (w64 ((64:Int)+(64:Int)*slot+4)+nth (slc ws (Int.toNat ((64:Int)+(64:Int)*slot)) (Int.toNat (w64 ((64:Int)+(64:Int)*slot+4)))) (Int.toNat 0) (Ty.dflt Ty.int)))))*8≤140737488355328 ∧
 ((0:Int)≤(1:Int)∧(1:Int)<(((len (slc ws (Int.toNat ((64:Int)+(64:Int)*slot)) (Int.toNat (w64 ((64:Int)+(64:Int)*slot+4))))):Nat):Int)) ∧
 K (.tup [.one (dL (slc ws (Int.toNat (w64 ((64:Int)+(64:Int)*slot+4))) (Int.toNat (w64 (w64 ((64:Int)+(64:Int)*slot+4)+nth (slc ws (Int.toNat ((64:Int)+(64:Int)*slot)) (Int.toNat (w64 ((64:Int)+(64:Int)*slot+4)))) (Int.toNat 0) (Ty.dflt Ty.int)))))),.one (dI (nth (slc ws (Int.toNat ((64:Int)+(64:Int)*slot)) (Int.toNat (w64 ((64:Int)+(64:Int)*slot+4)))) (Int.toNat 1) (Ty.dflt Ty.int))),.one (dI 0)]) [])))))))):=by subst_vars; kernel_rfl

theorem run_q47 (K:KK) (hK:K (.tup [.one (dL (z1l ⟨ws,fu⟩ slot).1),.one (dI (z1l ⟨ws,fu⟩ slot).2.1),.one (dI (z1l ⟨ws,fu⟩ slot).2.2)]) []):GD Γ_q47 fn_q47 0 K [.agg [dL ws,dI fu],.one (dI slot)] []:=by
 refine ⟨1,?_⟩
 rw [z02,q47_vc _ _ _ _ _ _ rfl _ rfl]
 unfold z1l at hK
 refine z1c (fun h=>?_) (fun h=>?_)
 ·rw [if_neg h] at hK; exact hK
 rw [if_pos h] at hK
 obtain ⟨h1,h2,h3⟩:=z3h h
 simp only at h2
 obtain ⟨b,hb⟩:∃ b,beginS slot=b:=⟨_,rfl⟩
 have hb':(64+64*slot)=(b:Int):=by unfold beginS at hb; omega
 rw [hb',z0e (n:=(b:Int)+4) (by omega) (by omega),show Int.toNat ((b:Int)+4)=b+4 by omega,z08]
 have hlen:(slc ws b (b+4)).length=4:=by simp [slc]; omega
 have g0:nth (slc ws b (b+4)) (Int.toNat (0:Int)) (Ty.dflt Ty.int)=ws.getD b 0:=z37 ws b (b+4) 0 (by omega)
 have g1:nth (slc ws b (b+4)) (Int.toNat (1:Int)) (Ty.dflt Ty.int)=ws.getD (b+1) 0:=z37 ws b (b+4) 1 (by omega)
 have g2:nth (slc ws b (b+4)) (Int.toNat (2:Int)) (Ty.dflt Ty.int)=ws.getD (b+2) 0:=z37 ws b (b+4) 2 (by omega)
 have g3:nth (slc ws b (b+4)) (Int.toNat (3:Int)) (Ty.dflt Ty.int)=ws.getD (b+3) 0:=z37 ws b (b+4) 3 (by omega)
 rw [g0,g1,g2,g3]
 simp only [len,hlen]
 unfold imageR at hK
 simp only [hb] at hK
 have four:¬ (okHead (ws.getD b 0) (ws.getD (b+1) 0)=true∧ws.getD (b+2) 0=65535-ws.getD b 0∧ws.getD (b+3) 0=65535-ws.getD (b+1) 0)→K (.tup [.one (dL []),.one (dI 0),.one (dI 4)]) []:=fun hn=>by
  have:sealedAt ws b=false:=by
   unfold sealedAt
   cases hh:okHead (ws.getD b 0) (ws.getD (b+1) 0)
   ·rfl
   ·simp only [Bool.true_and,Bool.and_eq_false_iff,decide_eq_false_iff_not]
    by_cases c:ws.getD (b+2) 0=65535-ws.getD b 0
    ·exact .inr fun c2=>hn ⟨hh,c,c2⟩
    ·exact .inl c
  rw [this] at hK
  exact hK
 have hd:okHead (ws.getD b 0) (ws.getD (b+1) 0)=true↔(1≤ws.getD b 0∧ws.getD b 0≤40∧1≤ws.getD (b+1) 0∧ws.getD (b+1) 0≤60):=by
  simp only [okHead,Bool.and_eq_true,decide_eq_true_eq]; omega
 rw [hd] at four
 refine ⟨by omega,by omega,by omega,by omega,z1a (fun h4=>four (by omega)) (fun h4=>⟨by omega,z1a (fun h5=>four (by omega)) (fun h5=>⟨by omega,z1a (fun h6=>four (by omega)) (fun h6=>⟨by omega,z1a (fun h7=>four (by omega)) (fun h7=>⟨by omega,by omega,?_⟩)⟩)⟩)⟩)⟩
 rw [za0 (a:=ws.getD b 0) (by omega) (by omega),za0 (a:=ws.getD (b+1) 0) (by omega) (by omega)]
 refine z1c (fun h8=>four (by omega)) (fun h8=>⟨by omega,by omega,z1c (fun h9=>four (by omega)) (fun h9=>?_)⟩)
 rw [z0e (by omega) (by omega),show Int.toNat ((b:Int)+4+ws.getD b 0)=b+4+(ws.getD b 0).toNat by omega]
 have hs:sealedAt ws b=true:=by
  unfold sealedAt
  rw [hd.2 (by omega)]
  simp only [Bool.true_and,Bool.and_eq_true,decide_eq_true_eq]
  exact ⟨h8,h9⟩
 rw [hs] at hK
 have hll:(slc ws (b+4) (b+4+(ws.getD b 0).toNat)).length≤192:=by simp [slc]; omega
 exact ⟨by omega,by omega,by omega,by omega,by omega,by omega,hK⟩
theorem sound_q47:z03 Tryz.prog tab n_q47 c_q47:=z01 ok_q47 hg_q47 (by
 intro vs bs p v bs' h hp
 unfold c_q47 at h
 split at h
 ·cases h
  exact ⟨by kernel_rfl,rfl,.inl (run_q47 _ _ _ _ ⟨rfl,rfl⟩)⟩
 ·cases h)

def c_q132:z00:=fun vs bs=>match vs,bs with
 | [.agg [.dat .int so,.dat .int sb,.dat .int sr]],[]=>some (none,.one (dR (keepS sb so sr)),[])
 | _,_=>none
def Γ_q132:Ctx:=[]
theorem ok_q132:Ok Tryz.prog tab Γ_q132:=ok_nil
theorem q132_vc (so sb sr:Int) (rec:RK) (K:KK):segD Γ_q132 tab fn_q132 0 K rec [.code (z05 fn_q132)] (z07 [.agg [dI so,dI sb,dI sr]] [])=(
 br (lti 0 sr)
 ((len (((1:Int)::so::sb::[])::[])+len (((2:Int)::sr::[])::[]))*24≤140737488355328 ∧
 K (.one (dR (cat (((1:Int)::so::sb::[])::[]) (((2:Int)::sr::[])::[])))) [])
 (K (.one (dR (((1:Int)::so::sb::[])::[]))) [])):=by kernel_rfl

theorem run_q132 (K:KK) (hK:K (.one (dR (keepS sb so sr))) []):GD Γ_q132 fn_q132 0 K [.agg [dI so,dI sb,dI sr]] []:=by
 refine ⟨1,?_⟩
 rw [z02,q132_vc _ _ _ _ _]
 unfold keepS at hK
 refine z1a (fun h=>?_) (fun h=>?_)
 ·rw [if_pos h] at hK; exact ⟨by simp [len],hK⟩
 ·rw [if_neg (by omega)] at hK; exact hK
theorem sound_q132:z03 Tryz.prog tab n_q132 c_q132:=z01 ok_q132 hg_q132 (by
 intro vs bs p v bs' h hp
 unfold c_q132 at h
 split at h
 ·cases h
  exact ⟨by kernel_rfl,rfl,.inl (run_q132 _ _ _ _ ⟨rfl,rfl⟩)⟩
 ·cases h)

def c_q139:z00:=fun vs bs=>match vs,bs with
 | [.one (.ptr 0 0),.one (.dat (.list .int) r)],[.box [.dat (.list .int) ws,.dat .int fu,.dat .bool up,.dat .int un,.dat .int ug]]=>some (some (Sm r),.one (dB (z1o ⟨⟨ws,fu⟩,up,un,ug⟩ r).2),[.box (cU (z1o ⟨⟨ws,fu⟩,up,un,ug⟩ r).1)])
 | _,_=>none
def Γ_q139:Ctx:=[(n_q131,c_q131),(n_q132,c_q132),(n_q65,c_q65),(n_q138,c_q138)]
theorem ok_q139:Ok Tryz.prog tab Γ_q139:=((((ok_nil.c hg_q138 sound_q138).c hg_q65 sound_q65).c hg_q132 sound_q132).c hg_q131 sound_q131)
theorem q139_vc (ws:List Int) (fu:Int) (up:Bool) (un ug:Int) (r:List Int) (rec:RK) (K:KK) v0 (hv0:v0=ofU ⟨ws,fu⟩) v1 (hv1:v1=keepS v0.by_ v0.slot v0.ready) v2 (hv2:v2=smR v1) v3 (hv3:v3=z0u ⟨ws,fu⟩ r v1) v4 (hv4:v4=changeU ⟨⟨ws,fu⟩,up,un,ug⟩ ⟨v3.fst.words,v3.fst.fuel⟩ v3.snd):segD Γ_q139 tab fn_q139 1 K rec [.code (z05 fn_q139)] (z07 [.one (.ptr 0 0),.one (dL r)] [.box [dL ws,dI fu,dB up,dI un,dI ug]])=(
 (List.length r≤140737488355328∧len v1*24≤140737488351232∧v2=true) ∧
 K (.one (dB v4.snd)) [.box (cU v4.fst)]):=by subst_vars; kernel_rfl

theorem run_q139 (hp:Sm r) (K:KK) (hK:K (.one (dB (z1o ⟨⟨ws,fu⟩,up,un,ug⟩ r).2)) [.box (cU (z1o ⟨⟨ws,fu⟩,up,un,ug⟩ r).1)]):GD Γ_q139 fn_q139 1 K [.one (.ptr 0 0),.one (dL r)] [.box [dL ws,dI fu,dB up,dI un,dI ug]]:=by
 refine ⟨1,?_⟩
 rw [z02,q139_vc _ _ _ _ _ _ _ _ _ rfl _ rfl _ rfl _ rfl _ rfl]
 have h:=keepS_sm (ofU ⟨ws,fu⟩).by_ (ofU ⟨ws,fu⟩).slot (ofU ⟨ws,fu⟩).ready
 exact ⟨⟨hp,by simp only [len]; omega,h.1⟩,hK⟩
theorem sound_q139:z03 Tryz.prog tab n_q139 c_q139:=z01 ok_q139 hg_q139 (by
 intro vs bs p v bs' h hp
 unfold c_q139 at h
 split at h
 ·cases h
  exact ⟨by kernel_rfl,rfl,.inl (run_q139 _ _ _ _ _ _ hp.1 _ ⟨rfl,rfl⟩)⟩
 ·cases h)

def c_q0:z00:=fun vs bs=>match vs,bs with
 | [.one (.dat (.list .int) a),.one (.dat (.list .int) b)],[]=>some (some (Sm a),.one (dB (eqIs a b)),[])
 | _,_=>none
def Γ_q0:Ctx:=[]
theorem ok_q0:Ok Tryz.prog tab Γ_q0:=ok_nil
noncomputable def q0_L0:List It:=[.inLoop [13,12,4,0,1] (cSub fn_q0 [1,1,0,1,0,0]),.inBlock 0,.code (cSub fn_q0 [1,1,1])]
def q0_S0 (x0 x1:Int) (x2:Bool) (x3 x4:List Int):St:=⟨[(13,.one (dI x0)),(12,.one (dI x1)),(4,.one (dB x2)),(0,.one (dL x3)),(1,.one (dL x4))],[],0⟩
theorem q0_vc (a b:List Int) (rec:RK) (K:KK):segD Γ_q0 tab fn_q0 0 K rec [.code (z05 fn_q0)] (z07 [.one (dL a),.one (dL b)] [])=(
 br (!(eqi (len a:Int) (len b:Int)))
 (K vF [])
 (rec q0_L0 (q0_S0 0 (len a:Int) false a b))):=by kernel_rfl
theorem q0_vc0 (x0 x1:Int) (x2:Bool) (x3 x4:List Int) (rec:RK) (K:KK):segD Γ_q0 tab fn_q0 0 K rec (ent q0_L0) (q0_S0 x0 x1 x2 x3 x4)=(
 br (lti x0 x1)
 (((0:Int)≤x0∧x0<(len x3:Int)) ∧
 ((0:Int)≤x0∧x0<(len x4:Int)) ∧
 br (!(eqi (nth x3 (Int.toNat x0) (Ty.dflt Ty.int)) (nth x4 (Int.toNat x0) (Ty.dflt Ty.int))))
 (K vF [])
 (rec q0_L0 (q0_S0 (w64 (x0+1)) x1 x2 x3 x4)))
 (K vT [])):=by kernel_rfl

theorem loop_q0 (a b:List Int) (hl:a.length=b.length) (hs:Sm a) (K:KK) (hK:K (.one (dB (eqIs a b))) []):∀ (d k:Nat),k+d=a.length→a.take k=b.take k →
  goD Γ_q0 tab fn_q0 0 K (d+1) q0_L0 (q0_S0 (k:Int) (((len a):Nat):Int) false a b)
 | 0,k,hk,he=>by
  rw [z09 (L:=q0_L0),q0_vc0 _ _ _ _ _ _ _]
  refine z22 (by simp only [len]; omega) ?_
  rw [List.take_of_length_le (by omega),List.take_of_length_le (by omega)] at he
  rw [show eqIs a b=true from by simp [eqIs,he]] at hK
  exact hK
 | d+1,k,hk,he=>by
  unfold Sm at hs
  rw [z09 (L:=q0_L0),q0_vc0 _ _ _ _ _ _ _]
  refine z2o (by simp only [len]; omega) ⟨⟨by omega,by simp only [len]; omega⟩,⟨by omega,by simp only [len]; omega⟩,z1c (fun hne=>?_) (fun heq=>?_)⟩
  ·rw [show eqIs a b=false from by simp only [eqIs,decide_eq_false_iff_not]; rintro rfl; exact hne rfl] at hK
   exact hK
  ·rw [z0f (by omega)]
   refine loop_q0 a b hl ‹Sm a› K hK d (k+1) (by omega) ?_
   rw [z3u (by omega) (Ty.dflt Ty.int),z3u (by omega) (Ty.dflt Ty.int),he]
   rw [z08] at heq
   rw [heq]
theorem run_q0 (b:List Int) (hp:Sm a) (K:KK) (hK:K (.one (dB (eqIs a b))) []):GD Γ_q0 fn_q0 0 K [.one (dL a),.one (dL b)] []:=by
 refine ⟨a.length+2,?_⟩
 rw [z02,q0_vc _ _ _ _]
 refine z1c (fun h=>?_) (fun h=>?_)
 ·rw [show eqIs a b=false from by simp only [eqIs,decide_eq_false_iff_not]; rintro rfl; exact h rfl] at hK
  exact hK
 ·exact loop_q0 a b (by simp only [len] at h; omega) hp K hK a.length 0 (by omega) rfl
theorem sound_q0:z03 Tryz.prog tab n_q0 c_q0:=z01 ok_q0 hg_q0 (by
 intro vs bs p v bs' h hp
 unfold c_q0 at h
 split at h
 ·cases h
  exact ⟨by kernel_rfl,rfl,.inl (run_q0 _ _ hp.1 _ ⟨rfl,rfl⟩)⟩
 ·cases h)

def c_q142:z00:=fun vs bs=>match vs,bs with
 | [.agg [.dat (.list .str) b],.one (.ptr 0 0),.agg [.dat .int so,.dat .int sb,.dat .int sr],.agg [.dat .int mk,.dat .int mu,.dat .int mn,.dat .int ma,.dat .int mi,.dat (.list .int) mw,.dat .bool my]],[.box [.dat (.list .int) ws,.dat .int fu,.dat .bool up,.dat .int un,.dat .int ug]]=>some (some (0≤so∧so≤1∧b.length≤140737488355328),.one (dM (prepareU b ⟨⟨ws,fu⟩,up,un,ug⟩ ⟨so,sb,sr⟩ ⟨mk,mu,mn,ma,mi,mw,my⟩).2),[.box (cU (prepareU b ⟨⟨ws,fu⟩,up,un,ug⟩ ⟨so,sb,sr⟩ ⟨mk,mu,mn,ma,mi,mw,my⟩).1)])
 | _,_=>none
def Γ_q142:Ctx:=[(n_q141,c_q141),(n_q45,c_q45),(n_q97,c_q97),(n_q46,c_q46),(n_q138,c_q138),(n_q47,c_q47),(n_q139,c_q139),(n_q0,c_q0)]
theorem ok_q142:Ok Tryz.prog tab Γ_q142:=((((((((ok_nil.c hg_q0 sound_q0).c hg_q139 sound_q139).c hg_q47 sound_q47).c hg_q138 sound_q138).c hg_q46 sound_q46).c hg_q97 sound_q97).c hg_q45 sound_q45).c hg_q141 sound_q141)
theorem q142_vc (b:List (List UInt8)) (ws:List Int) (fu:Int) (up:Bool) (un ug so sb sr mk mu mn ma mi:Int) (mw:List Int) (my:Bool) (rec:RK) (K:KK) v0 (hv0:v0=voteM ⟨mk,mu,mn,ma,mi,mw,my⟩ true) v1 (hv1:v1=voteM ⟨mk,mu,mn,ma,mi,mw,my⟩ false) v2 (hv2:v2=bodyS ⟨ws,fu⟩ (w64 ((1:Int)-so)) ma) v3 (hv3:v3=z0m b v2.fst) v4 (hv4:v4=sealS ⟨ws,fu⟩ (w64 ((1:Int)-so)) ma mi) v5 (hv5:v5=changeU ⟨⟨ws,fu⟩,up,un,ug⟩ ⟨v4.fst.words,v4.fst.fuel⟩ v4.snd) v6 (hv6:v6=z1l ⟨v5.fst.f.words,v5.fst.f.fuel⟩ (w64 ((1:Int)-so))) v7 (hv7:v7=eqIs v6.fst v2.fst) v8 (hv8:v8=z1o ⟨⟨v5.fst.f.words,v5.fst.f.fuel⟩,v5.fst.up,0,0⟩ ((2:Int)::mn::[])) v9 (hv9:v9=K (.one (dM v1)) [.box [dL v5.fst.f.words,dI v5.fst.f.fuel,dB v5.fst.up,dI (0:Int),dI (0:Int)]]) v10 (hv10:v10=K (.one (dM v1)) [.box [dL ws,dI fu,dB up,dI un,dI ug]]):segD Γ_q142 tab fn_q142 1 K rec [.code (z05 fn_q142)] (z07 [.agg [.dat (Ty.list Ty.str) b],.one (.ptr 0 0),.agg [dI so,dI sb,dI sr],.agg [dI mk,dI mu,dI mn,dI ma,dI mi,dL mw,dB my]] [.box [dL ws,dI fu,dB up,dI un,dI ug]])=(
 br (lei mn sb)
 (K (.one (dM ((⟨6,mu,mn,0,0,[],false⟩:Vm.Message)::[]))) [.box [dL ws,dI fu,dB up,dI un,dI ug]])
 (br (eqi sr mn)
 (K (.one (dM v0)) [.box [dL ws,dI fu,dB up,dI un,dI ug]])
 (br (lti 0 sr)
 v10
 (br (!(eqi v2.snd 0))
 v10
 (br (!(eqi un mn))
 v10
 (br (!(eqi ug ma))
 v10
 (List.length b≤140737488355328 ∧
 br (!(eqi v3.snd 0))
 v10
 (br (eqi v3.fst 0)
 v10
 (br (!(eqi v3.fst mi))
 v10
 (br (!v5.snd)
 (K (.one (dM [])) [.box (cU v5.fst)])
 (br (!(eqi v6.snd.snd 0))
 v9
 (br (!(eqi v6.snd.fst mi))
 v9
 (List.length v6.fst≤140737488355328 ∧
 br (!v7)
 v9
 (List.length ((2:Int)::mn::[])≤140737488355328 ∧
 br (!v8.snd)
 (K (.one (dM [])) [.box (cU v8.fst)])
 (K (.one (dM v0)) [.box (cU v8.fst)]))))))))))))))):=by subst_vars; kernel_rfl

theorem run_q142 (hp:0≤so∧so≤1∧b.length≤140737488355328) (K:KK) (hK:K (.one (dM (prepareU b ⟨⟨ws,fu⟩,up,un,ug⟩ ⟨so,sb,sr⟩ ⟨mk,mu,mn,ma,mi,mw,my⟩).2)) [.box (cU (prepareU b ⟨⟨ws,fu⟩,up,un,ug⟩ ⟨so,sb,sr⟩ ⟨mk,mu,mn,ma,mi,mw,my⟩).1)]):GD Γ_q142 fn_q142 1 K [.agg [.dat (Ty.list Ty.str) b],.one (.ptr 0 0),.agg [dI so,dI sb,dI sr],.agg [dI mk,dI mu,dI mn,dI ma,dI mi,dL mw,dB my]] [.box [dL ws,dI fu,dB up,dI un,dI ug]]:=by
 refine ⟨1,?_⟩
 rw [z02,q142_vc _ _ _ _ _ _ _ _ _ _ _ _ _ _ _ _ _ _ _ rfl _ rfl _ rfl _ rfl _ rfl _ rfl _ rfl _ rfl _ rfl _ rfl _ rfl]
 obtain ⟨p1,p2,p3⟩:=hp
 rw [z0e (n:=1-so) (by omega) (by omega)]
 unfold prepareU at hK
 simp only at hK
 refine z0l (fun h=>?_) (fun h=>z27 (fun h2=>?_) (fun h2=>z1a (fun h3=>?_) (fun h3=>?_)))
 ·rw [z1u] at h; rw [if_pos h] at hK; exact hK
 ·rw [z11] at h; rw [if_neg (by omega),if_pos h2] at hK; exact hK
 ·rw [z11] at h; rw [if_neg (by omega),if_neg h2,if_pos h3] at hK; exact hK
 rw [z11] at h
 rw [if_neg (by omega),if_neg h2,if_neg (by omega)] at hK
 refine z1c (fun h4=>?_) (fun h4=>z1c (fun h5=>?_) (fun h5=>z1c (fun h6=>?_) (fun h6=>⟨p3,z1c (fun h7=>?_) (fun h7=>z27 (fun h8=>?_) (fun h8=>z1c (fun h9=>?_) (fun h9=>?_)))⟩)))
 ·rw [if_neg (fun g=>h4 g.1)] at hK; exact hK
 ·rw [if_neg (fun g=>h5 g.2.1)] at hK; exact hK
 ·rw [if_neg (fun g=>h6 g.2.2)] at hK; exact hK
 all_goals rw [if_pos ⟨h4,h5,h6⟩] at hK
 ·rw [if_neg (fun g=>h7 g.1)] at hK; exact hK
 ·rw [if_neg (fun g=>g.2.1 h8)] at hK; exact hK
 ·rw [if_neg (fun g=>h9 g.2.2)] at hK; exact hK
 rw [if_pos ⟨h7,h8,h9⟩] at hK
 refine z4n (fun g=>?_) (fun g=>?_)
 ·rw [if_neg (by rw [show (sealC ⟨⟨ws,fu⟩,up,un,ug⟩ ⟨so,sb,sr⟩ ⟨mk,mu,mn,ma,mi,mw,my⟩).2=false from g]; simp)] at hK; exact hK
 rw [if_pos (show (sealC ⟨⟨ws,fu⟩,up,un,ug⟩ ⟨so,sb,sr⟩ ⟨mk,mu,mn,ma,mi,mw,my⟩).2=true from g)] at hK
 obtain ⟨v5,hv⟩:∃ v5,sealC ⟨⟨ws,fu⟩,up,un,ug⟩ ⟨so,sb,sr⟩ ⟨mk,mu,mn,ma,mi,mw,my⟩=v5:=⟨_,rfl⟩
 rw [hv] at hK
 have hv':changeU ⟨⟨ws,fu⟩,up,un,ug⟩ (sealS ⟨ws,fu⟩ (1-so) ma mi).1 (sealS ⟨ws,fu⟩ (1-so) ma mi).2=v5:=hv
 unfold sealedU at hK
 simp only at hK
 refine z1c (fun k1=>?_) (fun k1=>z1c (fun k2=>?_) (fun k2=>⟨?_,z4n (fun k3=>?_) (fun k3=>⟨by simp,z4n (fun k4=>?_) (fun k4=>?_)⟩)⟩))
 ·rw [hv'] at k1 ⊢; rw [if_neg (fun g=>k1 g.1)] at hK; exact hK
 ·rw [hv'] at k2 ⊢; rw [if_neg (fun g=>k2 g.2.1)] at hK; exact hK
 ·rw [hv'] at k1 ⊢
  exact zfl k1
 ·rw [hv'] at k3 ⊢
  rw [if_neg (fun g=>by rw [show eqIs _ _=true from decide_eq_true g.2.2] at k3; cases k3)] at hK; exact hK
 ·rw [hv'] at k1 k2 k3 k4 ⊢
  rw [if_pos ⟨k1,k2,of_decide_eq_true k3⟩,if_neg (by rw [show (z1o _ _).2=false from k4]; simp)] at hK; exact hK
 ·rw [hv'] at k1 k2 k3 k4 ⊢
  rw [if_pos ⟨k1,k2,of_decide_eq_true k3⟩,if_pos k4] at hK; exact hK
theorem sound_q142:z03 Tryz.prog tab n_q142 c_q142:=z01 ok_q142 hg_q142 (by
 intro vs bs p v bs' h hp
 unfold c_q142 at h
 split at h
 ·cases h
  exact ⟨by kernel_rfl,rfl,.inl (run_q142 _ _ _ _ _ _ _ _ _ _ _ _ _ _ _ _ hp.1 _ ⟨rfl,rfl⟩)⟩
 ·cases h)

def c_q143:z00:=fun vs bs=>match vs,bs with
 | [.one (.ptr 0 0),.agg [.dat .int so,.dat .int sb,.dat .int sr],.agg [.dat .int mk,.dat .int mu,.dat .int mn,.dat .int ma,.dat .int mi,.dat (.list .int) mw,.dat .bool my]],[.box [.dat (.list .int) ws,.dat .int fu,.dat .bool up,.dat .int un,.dat .int ug]]=>some (some (0≤so∧so≤1),.one (dM (decidedU ⟨⟨ws,fu⟩,up,un,ug⟩ ⟨so,sb,sr⟩ ⟨mk,mu,mn,ma,mi,mw,my⟩).2),[.box (cU (decidedU ⟨⟨ws,fu⟩,up,un,ug⟩ ⟨so,sb,sr⟩ ⟨mk,mu,mn,ma,mi,mw,my⟩).1)])
 | _,_=>none
def Γ_q143:Ctx:=[(n_q139,c_q139)]
theorem ok_q143:Ok Tryz.prog tab Γ_q143:=(ok_nil.c hg_q139 sound_q139)
theorem q143_vc (ws:List Int) (fu:Int) (up:Bool) (un ug so sb sr mk mu mn ma mi:Int) (mw:List Int) (my:Bool) (rec:RK) (K:KK) v0 (hv0:v0=z1o ⟨⟨ws,fu⟩,up,un,ug⟩ ((1:Int)::w64 ((1:Int)-so)::mn::[])) v1 (hv1:v1=z1o ⟨⟨ws,fu⟩,up,un,ug⟩ ((3:Int)::mn::[])) v2 (hv2:v2=K (.one (dM ((⟨6,mu,mn,0,0,[],false⟩:Vm.Message)::[]))) [.box [dL ws,dI fu,dB up,dI un,dI ug]]) v3 (hv3:v3=K (.one (dM [])) [.box [dL ws,dI fu,dB up,dI un,dI ug]]):segD Γ_q143 tab fn_q143 1 K rec [.code (z05 fn_q143)] (z07 [.one (.ptr 0 0),.agg [dI so,dI sb,dI sr],.agg [dI mk,dI mu,dI mn,dI ma,dI mi,dL mw,dB my]] [.box [dL ws,dI fu,dB up,dI un,dI ug]])=(
 br (eqi mk 4)
 (br (eqi sb mn)
 v2
 (br (!(eqi sr mn))
 v3
 (List.length ((1:Int)::w64 ((1:Int)-so)::mn::[])≤140737488355328 ∧
 br (!v0.snd)
 (K (.one (dM [])) [.box (cU v0.fst)])
 (K (.one (dM ((⟨6,mu,mn,0,0,[],false⟩:Vm.Message)::[]))) [.box (cU v0.fst)]))))
 (br (lei mn sb)
 v3
 (br (eqi sr mn)
 (List.length ((3:Int)::mn::[])≤140737488355328 ∧
 br (!v1.snd)
 (K (.one (dM [])) [.box (cU v1.fst)])
 (br (eqi v1.fst.n mn)
 (K (.one (dM ((⟨6,mu,mn,0,0,[],false⟩:Vm.Message)::[]))) [.box [dL v1.fst.f.words,dI v1.fst.f.fuel,dB v1.fst.up,dI (0:Int),dI (0:Int)]])
 (K (.one (dM ((⟨6,mu,mn,0,0,[],false⟩:Vm.Message)::[]))) [.box (cU v1.fst)])))
 (br (eqi un mn)
 (K (.one (dM ((⟨6,mu,mn,0,0,[],false⟩:Vm.Message)::[]))) [.box [dL ws,dI fu,dB up,dI (0:Int),dI (0:Int)]])
 v2)))):=by subst_vars; kernel_rfl

theorem run_q143 (hp:0≤so∧so≤1) (K:KK) (hK:K (.one (dM (decidedU ⟨⟨ws,fu⟩,up,un,ug⟩ ⟨so,sb,sr⟩ ⟨mk,mu,mn,ma,mi,mw,my⟩).2)) [.box (cU (decidedU ⟨⟨ws,fu⟩,up,un,ug⟩ ⟨so,sb,sr⟩ ⟨mk,mu,mn,ma,mi,mw,my⟩).1)]):GD Γ_q143 fn_q143 1 K [.one (.ptr 0 0),.agg [dI so,dI sb,dI sr],.agg [dI mk,dI mu,dI mn,dI ma,dI mi,dL mw,dB my]] [.box [dL ws,dI fu,dB up,dI un,dI ug]]:=by
 refine ⟨1,?_⟩
 rw [z02,q143_vc _ _ _ _ _ _ _ _ _ _ _ _ _ _ _ _ _ _ rfl _ rfl _ rfl _ rfl]
 obtain ⟨p1,p2⟩:=hp
 rw [z0e (n:=1-so) (by omega) (by omega)]
 unfold decidedU at hK
 simp only at hK
 refine z27 (fun h=>?_) (fun h=>?_)
 ·rw [if_pos h] at hK
  refine z27 (fun h2=>?_) (fun h2=>z1c (fun h3=>?_) (fun h3=>⟨by simp,z4n (fun h4=>?_) (fun h4=>?_)⟩))
  ·rw [if_pos h2] at hK; exact hK
  ·rw [if_neg h2,if_neg h3] at hK; exact hK
  ·rw [if_neg h2,if_pos h3,if_neg (by rw [h4]; simp)] at hK; exact hK
  ·rw [if_neg h2,if_pos h3,if_pos h4] at hK; exact hK
 ·rw [if_neg h] at hK
  refine z0l (fun h2=>?_) (fun h2=>z27 (fun h3=>⟨by simp,z4n (fun h4=>?_) (fun h4=>?_)⟩) (fun h3=>?_))
  ·rw [z1u] at h2; rw [if_pos h2] at hK; exact hK
  ·rw [z11] at h2; rw [if_neg (by omega),if_pos h3,if_neg (by rw [h4]; simp)] at hK; exact hK
  ·rw [z11] at h2; rw [if_neg (by omega),if_pos h3,if_pos h4] at hK
   unfold goneU at hK
   refine z27 (fun h5=>?_) (fun h5=>?_)
   ·rw [if_pos h5] at hK; exact hK
   ·rw [if_neg h5] at hK; exact hK
  ·rw [z11] at h2; rw [if_neg (by omega),if_neg h3] at hK
   unfold goneU at hK
   refine z27 (fun h5=>?_) (fun h5=>?_)
   ·rw [if_pos h5] at hK; exact hK
   ·rw [if_neg h5] at hK; exact hK
theorem sound_q143:z03 Tryz.prog tab n_q143 c_q143:=z01 ok_q143 hg_q143 (by
 intro vs bs p v bs' h hp
 unfold c_q143 at h
 split at h
 ·cases h
  exact ⟨by kernel_rfl,rfl,.inl (run_q143 _ _ _ _ _ _ _ _ _ _ _ _ _ _ _ hp.1 _ ⟨rfl,rfl⟩)⟩
 ·cases h)

def c_q146:z00:=fun vs bs=>match vs,bs with
 | [.agg [.dat (.list .str) b],.agg [.dat (.list .int) ws,.dat .int fu,.dat .bool up,.dat .int un,.dat .int ug],.agg [.dat .int mk,.dat .int mu,.dat .int mn,.dat .int ma,.dat .int mi,.dat (.list .int) mw,.dat .bool my]],[]=>some (some (b.length≤140737488355328),.tup [.agg (cU (hearU b ⟨⟨ws,fu⟩,up,un,ug⟩ ⟨mk,mu,mn,ma,mi,mw,my⟩).1.1),.one (dM (hearU b ⟨⟨ws,fu⟩,up,un,ug⟩ ⟨mk,mu,mn,ma,mi,mw,my⟩).1.2),.one (dI (hearU b ⟨⟨ws,fu⟩,up,un,ug⟩ ⟨mk,mu,mn,ma,mi,mw,my⟩).2)],[])
 | _,_=>none
def Γ_q146:Ctx:=[(n_q88,c_q88),(n_q133,c_q133),(n_q145,c_q145),(n_q136,c_q136),(n_q131,c_q131),(n_q140,c_q140),(n_q142,c_q142),(n_q143,c_q143)]
theorem ok_q146:Ok Tryz.prog tab Γ_q146:=((((((((ok_nil.c hg_q143 sound_q143).c hg_q142 sound_q142).c hg_q140 sound_q140).c hg_q131 sound_q131).c hg_q136 sound_q136).c hg_q145 sound_q145).c hg_q133 sound_q133).c hg_q88 sound_q88)
theorem q146_vc (b:List (List UInt8)) (ws:List Int) (fu:Int) (up:Bool) (un ug mk mu mn ma mi:Int) (mw:List Int) (my:Bool) (rec:RK) (K:KK) v0 (hv0:v0=z0r b) v1 (hv1:v1=z14 ⟨⟨ws,fu⟩,up,un,ug⟩) v2 (hv2:v2=checkM ⟨mk,mu,mn,ma,mi,mw,my⟩) v3 (hv3:v3=ofU ⟨ws,fu⟩) v4 (hv4:v4=pieceU ⟨⟨ws,fu⟩,up,un,ug⟩ ⟨v3.slot,v3.by_,v3.ready⟩ ⟨mk,mu,mn,ma,mi,mw,my⟩) v5 (hv5:v5=prepareU b ⟨⟨ws,fu⟩,up,un,ug⟩ ⟨v3.slot,v3.by_,v3.ready⟩ ⟨mk,mu,mn,ma,mi,mw,my⟩) v6 (hv6:v6=decidedU ⟨⟨ws,fu⟩,up,un,ug⟩ ⟨v3.slot,v3.by_,v3.ready⟩ ⟨mk,mu,mn,ma,mi,mw,my⟩) v7 (hv7:v7=K (.tup [.agg [dL ws,dI fu,dB up,dI un,dI ug],.one (dM []),.one (dI 0)]) []) v8 (hv8:v8=K (.tup [.agg (cU v6.fst),.one (dM v6.snd),.one (dI 0)]) []):segD Γ_q146 tab fn_q146 0 K rec [.code (z05 fn_q146)] (z07 [.agg [.dat (Ty.list Ty.str) b],.agg [dL ws,dI fu,dB up,dI un,dI ug],.agg [dI mk,dI mu,dI mn,dI ma,dI mi,dL mw,dB my]] [])=(
 br (!(eqi v0 0))
 (K (.tup [.agg [dL [],dI (0:Int),dB false,dI (0:Int),dI (0:Int)],.one (dM []),.one (dI v0)]) [])
 (br (!(eqi v1 0))
 (K (.tup [.agg [dL [],dI (0:Int),dB false,dI (0:Int),dI (0:Int)],.one (dM []),.one (dI v1)]) [])
 (br (!(eqi v2 0))
 (K (.tup [.agg [dL [],dI (0:Int),dB false,dI (0:Int),dI (0:Int)],.one (dM []),.one (dI v2)]) [])
 (len ws*8≤140737488355328 ∧
 br (!up)
 v7
 (br (eqi mk 1)
 (((0:Int)≤v3.slot∧v3.slot≤1∧(0:Int)≤ma∧ma≤40∧len mw≤8) ∧
 K (.tup [.agg (cU v4),.one (dM []),.one (dI 0)]) [])
 (br (eqi mk 2)
 (((0:Int)≤v3.slot∧v3.slot≤1∧List.length b≤140737488355328) ∧
 K (.tup [.agg (cU v5.fst),.one (dM v5.snd),.one (dI 0)]) [])
 (br (eqi mk 4)
 (br (eqi mk 4)
 (((0:Int)≤v3.slot∧v3.slot≤1) ∧
 v8)
 v7)
 (br (eqi mk 5)
 (((0:Int)≤v3.slot∧v3.slot≤1) ∧
 v8)
 v7)))))))):=by subst_vars; kernel_rfl

theorem run_q146 (hp:b.length≤140737488355328) (K:KK) (hK:K (.tup [.agg (cU (hearU b ⟨⟨ws,fu⟩,up,un,ug⟩ ⟨mk,mu,mn,ma,mi,mw,my⟩).1.1),.one (dM (hearU b ⟨⟨ws,fu⟩,up,un,ug⟩ ⟨mk,mu,mn,ma,mi,mw,my⟩).1.2),.one (dI (hearU b ⟨⟨ws,fu⟩,up,un,ug⟩ ⟨mk,mu,mn,ma,mi,mw,my⟩).2)]) []):GD Γ_q146 fn_q146 0 K [.agg [.dat (Ty.list Ty.str) b],.agg [dL ws,dI fu,dB up,dI un,dI ug],.agg [dI mk,dI mu,dI mn,dI ma,dI mi,dL mw,dB my]] []:=by
 refine ⟨1,?_⟩
 rw [z02,q146_vc _ _ _ _ _ _ _ _ _ _ _ _ _ _ _ _ rfl _ rfl _ rfl _ rfl _ rfl _ rfl _ rfl _ rfl _ rfl]
 have bad:∀ e:Int,e≠0→hearE b ⟨⟨ws,fu⟩,up,un,ug⟩ ⟨mk,mu,mn,ma,mi,mw,my⟩=e→K (.tup [.agg [dL [],dI 0,dB false,dI 0,dI 0],.one (dM []),.one (dI e)]) []:=fun e he h=>by
  rw [show hearU b ⟨⟨ws,fu⟩,up,un,ug⟩ ⟨mk,mu,mn,ma,mi,mw,my⟩=((noUnit,[]),e) from by unfold hearU; rw [if_neg (by rw [h]; exact he),h]] at hK
  exact hK
 refine z1c (fun h=>bad _ h (if_neg h)) (fun h=>?_)
 have E1:hearE b ⟨⟨ws,fu⟩,up,un,ug⟩ ⟨mk,mu,mn,ma,mi,mw,my⟩=_:=if_pos h
 refine z1c (fun h2=>bad _ h2 (E1.trans (if_neg h2))) (fun h2=>?_)
 have E2:=E1.trans (if_pos h2)
 refine z1c (fun h3=>bad _ h3 E2) (fun h3=>?_)
 rw [show hearU b ⟨⟨ws,fu⟩,up,un,ug⟩ ⟨mk,mu,mn,ma,mi,mw,my⟩=(z0x b ⟨⟨ws,fu⟩,up,un,ug⟩ ⟨mk,mu,mn,ma,mi,mw,my⟩,0) from if_pos (E2.trans h3)] at hK
 obtain ⟨_,c2,_⟩:=z3a h2
 obtain ⟨_,_,_,_,_,_,m1,m2,_,_,m3,_⟩:=z1e h3
 obtain ⟨⟨s1,s2⟩,_⟩:=z49 ⟨ws,fu⟩
 simp only at c2 m1 m2 m3
 unfold z0x at hK
 simp only at hK
 refine ⟨by simp only [len]; omega,z4n (fun h4=>?_) (fun h4=>?_)⟩
 ·rw [if_neg (by rw [h4]; simp)] at hK; exact hK
 rw [if_pos h4] at hK
 refine z27 (fun h5=>⟨⟨s1,s2,m1,m2,m3⟩,?_⟩) (fun h5=>z27 (fun h6=>⟨⟨s1,s2,hp⟩,?_⟩) (fun h6=>z27 (fun h7=>zgj h7 ⟨⟨s1,s2⟩,?_⟩) (fun h7=>z27 (fun h8=>⟨⟨s1,s2⟩,?_⟩) (fun h8=>?_))))
 ·rw [if_pos h5] at hK; exact hK
 ·rw [if_neg h5,if_pos h6] at hK; exact hK
 ·rw [if_neg h5,if_neg h6,if_pos (.inl h7)] at hK; exact hK
 ·rw [if_neg h5,if_neg h6,if_pos (.inr h8)] at hK; exact hK
 ·rw [if_neg h5,if_neg h6,if_neg (by omega)] at hK; exact hK
theorem sound_q146:z03 Tryz.prog tab n_q146 c_q146:=z01 ok_q146 hg_q146 (by
 intro vs bs p v bs' h hp
 unfold c_q146 at h
 split at h
 ·cases h
  exact ⟨by kernel_rfl,rfl,.inl (run_q146 _ _ _ _ _ _ _ _ _ _ _ _ _ hp.1 _ ⟨rfl,rfl⟩)⟩
 ·cases h)

def c_q232:z00:=fun vs bs=>match vs,bs with
 | [.one (.ptr 0 0),.one (.dat (.list .message) l)],[.box [.dat (.list .str) vb,.dat (.list .signed) vs,.dat (.list .int) ws,.dat .int fu,.dat .bool up,.dat .int tv,.dat (.list .int) tk,.dat .int tt,.dat .int tn,.dat (.list .bool) vo,.dat (.list .bool) di,.own 1,.own 2,.own 3,.dat .int now],.arr .unitd us,.arr .campaign cs,.arr .message net]=>some (some (net.length≤1000∧l.length≤1000∧smMW l=true),.tup [],[.box (cV (sendV ⟨vb,vs,⟨⟨ws,fu⟩,up,⟨⟨tv,tk,tt⟩,tn⟩,vo,di⟩,us,cs,net,now⟩ l) (.own 4) (.own 5) (.own 6)),.dead,.dead,.dead,.arr .unitd (sendV ⟨vb,vs,⟨⟨ws,fu⟩,up,⟨⟨tv,tk,tt⟩,tn⟩,vo,di⟩,us,cs,net,now⟩ l).units,.arr .campaign (sendV ⟨vb,vs,⟨⟨ws,fu⟩,up,⟨⟨tv,tk,tt⟩,tn⟩,vo,di⟩,us,cs,net,now⟩ l).campaigns,.arr .message (sendV ⟨vb,vs,⟨⟨ws,fu⟩,up,⟨⟨tv,tk,tt⟩,tn⟩,vo,di⟩,us,cs,net,now⟩ l).net])
 | _,_=>none
def Γ_q232:Ctx:=[(n_q160,c_q160)]
theorem ok_q232:Ok Tryz.prog tab Γ_q232:=(ok_nil.c hg_q160 sound_q160)
noncomputable def q232_L0:List It:=[.inLoop [8,7,6,0] (cSub fn_q232 [1,0,0]),.inBlock 0]
def q232_S0 (x0 x1:Int) (x2:List Vm.Message) (x3:List (List UInt8)) (x4:List Vm.Signed) (x5:List Int) (x6:Int) (x7:Bool) (x8:Int) (x9:List Int) (x10 x11:Int) (x12 x13:List Bool) (x14:Int) (x15:List Vm.UnitD) (x16:List Vm.Campaign) (x17:List Vm.Message):St:=⟨[(8,.one (dI x0)),(7,.one (dI x1)),(6,.one (dM x2)),(0,.one (.ptr 0 0))],[(0,.box [.dat (Ty.list Ty.str) x3,.dat (Ty.list Ty.signed) x4,dL x5,dI x6,dB x7,dI x8,dL x9,dI x10,dI x11,dLb x12,dLb x13,.own 4,.own 5,.own 6,dI x14]),(1,.dead),(2,.dead),(3,.dead),(4,.arr Ty.unitd x15),(5,.arr Ty.campaign x16),(6,.arr Ty.message x17)],7⟩
theorem q232_vc (vb:List (List UInt8)) (vs:List Signed) (ws:List Int) (fu:Int) (up:Bool) (tv:Int) (tk:List Int) (tt tn:Int) (vo di:List Bool) (us:List UnitD) (cs:List Campaign) (net:List Message) (now:Int) (l:List Message) (rec:RK) (K:KK):segO Γ_q232 tab fn_q232 4 K rec [.code (z05 fn_q232)] (initN [.one (.ptr 0 0),.one (dM l)] [.box (aV vb vs ws fu up tv tk tt tn vo di (.own 1) (.own 2) (.own 3) now),.arr Ty.unitd us,.arr Ty.campaign cs,.arr Ty.message net])=(
 rec q232_L0 (q232_S0 0 (len l:Int) l vb vs ws fu up tv tk tt tn vo di now us cs net)):=by kernel_rfl
theorem zj6 (x0 x1:Int) (x2:List Vm.Message) (x3:List (List UInt8)) (x4:List Vm.Signed) (x5:List Int) (x6:Int) (x7:Bool) (x8:Int) (x9:List Int) (x10 x11:Int) (x12 x13:List Bool) (x14:Int) (x15:List Vm.UnitD) (x16:List Vm.Campaign) (x17:List Vm.Message) (rec:RK) (K:KK):segO Γ_q232 tab fn_q232 4 K rec (ent q232_L0) (q232_S0 x0 x1 x2 x3 x4 x5 x6 x7 x8 x9 x10 x11 x12 x13 x14 x15 x16 x17)=(
 br (lti x0 x1)
 (((0:Int)≤x0∧x0<(len x2:Int)) ∧
 br (lti (len x17:Int) 24)
 (len (nth x2 (Int.toNat x0) (Ty.dflt Ty.message)).words*8≤140737488355328 ∧
 (len x17+len ((⟨(nth x2 (Int.toNat x0) (Ty.dflt Ty.message)).kind,(nth x2 (Int.toNat x0) (Ty.dflt Ty.message)).unit,(nth x2 (Int.toNat x0) (Ty.dflt Ty.message)).n,(nth x2 (Int.toNat x0) (Ty.dflt Ty.message)).at_,(nth x2 (Int.toNat x0) (Ty.dflt Ty.message)).image,(nth x2 (Int.toNat x0) (Ty.dflt Ty.message)).words,(nth x2 (Int.toNat x0) (Ty.dflt Ty.message)).yes⟩:Vm.Message)::[]))*72≤140737488355328 ∧
 rec q232_L0 (q232_S0 (w64 (x0+1)) x1 x2 x3 x4 x5 x6 x7 x8 x9 x10 x11 x12 x13 x14 x15 x16 (cat x17 ((⟨(nth x2 (Int.toNat x0) (Ty.dflt Ty.message)).kind,(nth x2 (Int.toNat x0) (Ty.dflt Ty.message)).unit,(nth x2 (Int.toNat x0) (Ty.dflt Ty.message)).n,(nth x2 (Int.toNat x0) (Ty.dflt Ty.message)).at_,(nth x2 (Int.toNat x0) (Ty.dflt Ty.message)).image,(nth x2 (Int.toNat x0) (Ty.dflt Ty.message)).words,(nth x2 (Int.toNat x0) (Ty.dflt Ty.message)).yes⟩:Vm.Message)::[]))))
 (rec q232_L0 (q232_S0 (w64 (x0+1)) x1 x2 x3 x4 x5 x6 x7 x8 x9 x10 x11 x12 x13 x14 x15 x16 x17)))
 (K (.tup []) [.box [.dat (Ty.list Ty.str) x3,.dat (Ty.list Ty.signed) x4,dL x5,dI x6,dB x7,dI x8,dL x9,dI x10,dI x11,dLb x12,dLb x13,.own 4,.own 5,.own 6,dI x14],.dead,.dead,.dead,.arr Ty.unitd x15,.arr Ty.campaign x16,.arr Ty.message x17])):=by kernel_rfl

theorem zaf (l:List Vm.Message) (hl:l.length≤1000) (hs:smMW l=true) (vb:List (List UInt8)) (vs:List Vm.Signed) (ws:List Int) (fu:Int) (up:Bool) (tv:Int) (tk:List Int) (tt tn:Int) (vo di:List Bool) (now:Int) (us:List Vm.UnitD) (cs:List Vm.Campaign) (K:KK):∀ (d k:Nat) (net:List Vm.Message),k+d=l.length→net.length≤1000 →
  K (.tup []) [.box (aV vb vs ws fu up tv tk tt tn vo di (.own 4) (.own 5) (.own 6) now),.dead,.dead,.dead,.arr Ty.unitd us,.arr Ty.campaign cs,.arr Ty.message (sendM net (l.drop k))] →
  goO Γ_q232 tab fn_q232 4 K (d+1) q232_L0 (q232_S0 (k:Int) (((len l):Nat):Int) l vb vs ws fu up tv tk tt tn vo di now us cs net)
 | 0,k,net,hk,hn,hK=>by
  rw [z9m (L:=q232_L0),zj6 _ _ _ _ _ _ _ _ _ _ _ _ _ _ _ _ _ _ _ _]
  rw [List.drop_of_length_le (by omega),sendM_nil] at hK
  exact z22 (by simp only [len]; omega) hK
 | d+1,k,net,hk,hn,hK=>by
  rw [z9m (L:=q232_L0),zj6 _ _ _ _ _ _ _ _ _ _ _ _ _ _ _ _ _ _ _ _,z08,z0f (by omega)]
  rw [z0q (by omega) (Ty.dflt Ty.message),zk9] at hK
  have hm:(nth l k (Ty.dflt Ty.message)).words.length≤1000:=of_decide_eq_true (List.all_eq_true.1 hs _ (z1g (by omega) _))
  obtain ⟨m,hme⟩:∃ m,nth l k (Ty.dflt Ty.message)=m:=⟨_,rfl⟩
  rw [hme] at hK hm ⊢
  refine z2o (by simp only [len]; omega) ⟨⟨by omega,by simp only [len]; omega⟩,z1a (fun h=>⟨by simp only [len]; omega,by simp only [len,List.length_cons,List.length_nil]; omega,?_⟩) (fun h=>?_)⟩
  ·rw [if_pos (by simp only [len] at h; omega)] at hK
   exact zaf l hl hs vb vs ws fu up tv tk tt tn vo di now us cs K d (k+1) _ (by omega) (by simp only [cat,List.length_append,List.length_cons,List.length_nil]; simp only [len] at h; omega) hK
  ·rw [if_neg (by simp only [len] at h; omega)] at hK
   exact zaf l hl hs vb vs ws fu up tv tk tt tn vo di now us cs K d (k+1) _ (by omega) hn hK
theorem run_q232 (l:List Vm.Message) (hp:net.length≤1000∧l.length≤1000∧smMW l=true) (K:KK) (hK:K (.tup []) [.box (cV (sendV ⟨vb,vs,⟨⟨ws,fu⟩,up,⟨⟨tv,tk,tt⟩,tn⟩,vo,di⟩,us,cs,net,now⟩ l) (.own 4) (.own 5) (.own 6)),.dead,.dead,.dead,.arr .unitd (sendV ⟨vb,vs,⟨⟨ws,fu⟩,up,⟨⟨tv,tk,tt⟩,tn⟩,vo,di⟩,us,cs,net,now⟩ l).units,.arr .campaign (sendV ⟨vb,vs,⟨⟨ws,fu⟩,up,⟨⟨tv,tk,tt⟩,tn⟩,vo,di⟩,us,cs,net,now⟩ l).campaigns,.arr .message (sendV ⟨vb,vs,⟨⟨ws,fu⟩,up,⟨⟨tv,tk,tt⟩,tn⟩,vo,di⟩,us,cs,net,now⟩ l).net]):GN Γ_q232 fn_q232 4 K [.one (.ptr 0 0),.one (dM l)] [.box (aV vb vs ws fu up tv tk tt tn vo di (.own 1) (.own 2) (.own 3) now),.arr .unitd us,.arr .campaign cs,.arr .message net]:=by
 obtain ⟨p1,p2,p3⟩:=hp
 refine ⟨l.length+2,?_⟩
 rw [z1i,q232_vc _ _ _ _ _ _ _ _ _ _ _ _ _ _ _ _ _ _]
 exact zaf l p2 p3 vb vs ws fu up tv tk tt tn vo di now us cs K l.length 0 net (by omega) p1 hK
theorem sound_q232:z03 Tryz.prog tab n_q232 c_q232:=z01 ok_q232 hg_q232 (by
 intro vs bs p v bs' h hp
 unfold c_q232 at h
 split at h
 ·cases h
  exact ⟨by kernel_rfl,rfl,.inr (.inr (run_q232 _ _ _ _ _ _ _ _ _ _ _ _ _ _ _ _ hp.1 _ ⟨rfl,rfl⟩))⟩
 ·cases h)

def c_q234:z00:=fun vs bs=>match vs,bs with
 | [.one (.ptr 0 0),.one (.dat .int k)],[.box [.dat (.list .str) vb,.dat (.list .signed) vs,.dat (.list .int) ws,.dat .int fu,.dat .bool up,.dat .int tv,.dat (.list .int) tk,.dat .int tt,.dat .int tn,.dat (.list .bool) vo,.dat (.list .bool) di,.own 1,.own 2,.own 3,.dat .int now],.arr .unitd us,.arr .campaign cs,.arr .message net]=>some (some (okW ⟨vb,vs,⟨⟨ws,fu⟩,up,⟨⟨tv,tk,tt⟩,tn⟩,vo,di⟩,us,cs,net,now⟩=true∧0≤k∧k<(net.length:Int)),.tup [],[.box (cV (z0v ⟨vb,vs,⟨⟨ws,fu⟩,up,⟨⟨tv,tk,tt⟩,tn⟩,vo,di⟩,us,cs,net,now⟩ k.toNat) (.own 4) (.own 5) (.own 6)),.dead,.dead,.dead,.arr .unitd (z0v ⟨vb,vs,⟨⟨ws,fu⟩,up,⟨⟨tv,tk,tt⟩,tn⟩,vo,di⟩,us,cs,net,now⟩ k.toNat).units,.arr .campaign (z0v ⟨vb,vs,⟨⟨ws,fu⟩,up,⟨⟨tv,tk,tt⟩,tn⟩,vo,di⟩,us,cs,net,now⟩ k.toNat).campaigns,.arr .message (z0v ⟨vb,vs,⟨⟨ws,fu⟩,up,⟨⟨tv,tk,tt⟩,tn⟩,vo,di⟩,us,cs,net,now⟩ k.toNat).net])
 | _,_=>none
def Γ_q234:Ctx:=[(n_q228,c_q228),(n_q178,c_q178),(n_q146,c_q146),(n_q232,c_q232)]
theorem ok_q234:Ok Tryz.prog tab Γ_q234:=((((ok_nil.c hg_q232 sound_q232).c hg_q146 sound_q146).c hg_q178 sound_q178).c hg_q228 sound_q228)
theorem q234_vc (vb:List (List UInt8)) (vs:List Signed) (ws:List Int) (fu:Int) (up:Bool) (tv:Int) (tk:List Int) (tt tn:Int) (vo di:List Bool) (us:List UnitD) (cs:List Campaign) (net:List Message) (now k:Int) (rec:RK) (K:KK) v0 (hv0:v0=hearG ⟨⟨ws,fu⟩,up,⟨⟨tv,tk,tt⟩,tn⟩,vo,di⟩ ⟨(nth net (Int.toNat k) (Ty.dflt Ty.message)).kind,(nth net (Int.toNat k) (Ty.dflt Ty.message)).unit,(nth net (Int.toNat k) (Ty.dflt Ty.message)).n,(nth net (Int.toNat k) (Ty.dflt Ty.message)).at_,(nth net (Int.toNat k) (Ty.dflt Ty.message)).image,(nth net (Int.toNat k) (Ty.dflt Ty.message)).words,(nth net (Int.toNat k) (Ty.dflt Ty.message)).yes⟩) v1 (hv1:v1=smMW v0.fst.snd) v2 (hv2:v2=sendM (List.eraseIdx net (Int.toNat k)) v0.fst.snd) v3 (hv3:v3=hearU vb ⟨⟨((nth us (Int.toNat (nth net (Int.toNat k) (Ty.dflt Ty.message)).unit) (Ty.dflt Ty.unitd)).f).words,((nth us (Int.toNat (nth net (Int.toNat k) (Ty.dflt Ty.message)).unit) (Ty.dflt Ty.unitd)).f).fuel⟩,(nth us (Int.toNat (nth net (Int.toNat k) (Ty.dflt Ty.message)).unit) (Ty.dflt Ty.unitd)).up,(nth us (Int.toNat (nth net (Int.toNat k) (Ty.dflt Ty.message)).unit) (Ty.dflt Ty.unitd)).n,(nth us (Int.toNat (nth net (Int.toNat k) (Ty.dflt Ty.message)).unit) (Ty.dflt Ty.unitd)).got⟩ ⟨(nth net (Int.toNat k) (Ty.dflt Ty.message)).kind,(nth net (Int.toNat k) (Ty.dflt Ty.message)).unit,(nth net (Int.toNat k) (Ty.dflt Ty.message)).n,(nth net (Int.toNat k) (Ty.dflt Ty.message)).at_,(nth net (Int.toNat k) (Ty.dflt Ty.message)).image,(nth net (Int.toNat k) (Ty.dflt Ty.message)).words,(nth net (Int.toNat k) (Ty.dflt Ty.message)).yes⟩) v4 (hv4:v4=smMW v3.fst.snd) v5 (hv5:v5=sendM (List.eraseIdx net (Int.toNat k)) v3.fst.snd) v8 (hv8:v8=K (.tup []) [.box (aV vb vs ws fu up tv tk tt tn vo di (.own 4) (.own 5) (.own 6) now),.dead,.dead,.dead,.arr Ty.unitd us,.arr Ty.campaign cs,.arr Ty.message (List.eraseIdx net (Int.toNat k))]) v6 (hv6:v6=br (eqi v3.snd 0)
 (((0:Int)≤(nth net (Int.toNat k) (Ty.dflt Ty.message)).unit∧(nth net (Int.toNat k) (Ty.dflt Ty.message)).unit<(len us:Int)) ∧
 Int.toNat (nth net (Int.toNat k) (Ty.dflt Ty.message)).unit<len us ∧
 (List.length (List.eraseIdx net (Int.toNat k))≤1000∧List.length v3.fst.snd≤1000∧v4=true) ∧
 K (.tup []) [.box (aV vb vs ws fu up tv tk tt tn vo di (.own 4) (.own 5) (.own 6) now),.dead,.dead,.dead,.arr Ty.unitd (setAt us (Int.toNat (nth net (Int.toNat k) (Ty.dflt Ty.message)).unit) ⟨⟨v3.fst.fst.f.words,v3.fst.fst.f.fuel⟩,v3.fst.fst.up,v3.fst.fst.n,v3.fst.fst.got⟩),.arr Ty.campaign cs,.arr Ty.message v5])
 v8) v7 (hv7:v7=br (eqi v0.snd 0)
 ((List.length (List.eraseIdx net (Int.toNat k))≤1000∧List.length v0.fst.snd≤1000∧v1=true) ∧
 K (.tup []) [.box [.dat (Ty.list Ty.str) vb,.dat (Ty.list Ty.signed) vs,dL v0.fst.fst.f.words,dI v0.fst.fst.f.fuel,dB v0.fst.fst.up,dI v0.fst.fst.t.r.version,dL v0.fst.fst.t.r.keys,dI v0.fst.fst.t.r.thr,dI v0.fst.fst.t.version,dLb v0.fst.fst.voted,dLb v0.fst.fst.did,.own 4,.own 5,.own 6,dI now],.dead,.dead,.dead,.arr Ty.unitd us,.arr Ty.campaign cs,.arr Ty.message v2])
 v8):segO Γ_q234 tab fn_q234 4 K rec [.code (z05 fn_q234)] (initN [.one (.ptr 0 0),.one (dI k)] [.box (aV vb vs ws fu up tv tk tt tn vo di (.own 1) (.own 2) (.own 3) now),.arr Ty.unitd us,.arr Ty.campaign cs,.arr Ty.message net])=(
 ((0:Int)≤k∧k<(len net:Int)) ∧
 Int.toNat k<len net ∧
 ((0:Int)≤k∧k<(((List.length net):Nat):Int)∧w64 (k+1)=k+1∧List.length net≤1000) ∧
 br (eqi (nth net (Int.toNat k) (Ty.dflt Ty.message)).kind 3)
 (br (eqi (nth net (Int.toNat k) (Ty.dflt Ty.message)).kind 3)
 v7
 (((0:Int)≤(nth net (Int.toNat k) (Ty.dflt Ty.message)).unit∧(nth net (Int.toNat k) (Ty.dflt Ty.message)).unit<(len us:Int)) ∧
 Int.toNat (nth net (Int.toNat k) (Ty.dflt Ty.message)).unit<len us ∧
 List.length vb≤140737488355328 ∧
 v6))
 (br (eqi (nth net (Int.toNat k) (Ty.dflt Ty.message)).kind 6)
 (br (eqi (nth net (Int.toNat k) (Ty.dflt Ty.message)).kind 6)
 v7
 (((0:Int)≤(nth net (Int.toNat k) (Ty.dflt Ty.message)).unit∧(nth net (Int.toNat k) (Ty.dflt Ty.message)).unit<(len us:Int)) ∧
 Int.toNat (nth net (Int.toNat k) (Ty.dflt Ty.message)).unit<len us ∧
 List.length vb≤140737488355328 ∧
 v6))
 (br (eqi (nth net (Int.toNat k) (Ty.dflt Ty.message)).kind 7)
 v7
 (((0:Int)≤(nth net (Int.toNat k) (Ty.dflt Ty.message)).unit∧(nth net (Int.toNat k) (Ty.dflt Ty.message)).unit<(len us:Int)) ∧
 Int.toNat (nth net (Int.toNat k) (Ty.dflt Ty.message)).unit<len us ∧
 List.length vb≤140737488355328 ∧
 v6)))):=by subst_vars; kernel_rfl

theorem run_q234 (hp:okW ⟨vb,vs,⟨⟨ws,fu⟩,up,⟨⟨tv,tk,tt⟩,tn⟩,vo,di⟩,us,cs,net,now⟩=true∧0≤k∧k<(net.length:Int)) (K:KK) (hK:K (.tup []) [.box (cV (z0v ⟨vb,vs,⟨⟨ws,fu⟩,up,⟨⟨tv,tk,tt⟩,tn⟩,vo,di⟩,us,cs,net,now⟩ k.toNat) (.own 4) (.own 5) (.own 6)),.dead,.dead,.dead,.arr .unitd (z0v ⟨vb,vs,⟨⟨ws,fu⟩,up,⟨⟨tv,tk,tt⟩,tn⟩,vo,di⟩,us,cs,net,now⟩ k.toNat).units,.arr .campaign (z0v ⟨vb,vs,⟨⟨ws,fu⟩,up,⟨⟨tv,tk,tt⟩,tn⟩,vo,di⟩,us,cs,net,now⟩ k.toNat).campaigns,.arr .message (z0v ⟨vb,vs,⟨⟨ws,fu⟩,up,⟨⟨tv,tk,tt⟩,tn⟩,vo,di⟩,us,cs,net,now⟩ k.toNat).net]):GN Γ_q234 fn_q234 4 K [.one (.ptr 0 0),.one (dI k)] [.box (aV vb vs ws fu up tv tk tt tn vo di (.own 1) (.own 2) (.own 3) now),.arr .unitd us,.arr .campaign cs,.arr .message net]:=by
 obtain ⟨p1,p2,p3⟩:=hp
 refine ⟨1,?_⟩
 rw [z1i,q234_vc _ _ _ _ _ _ _ _ _ _ _ _ _ _ _ _ _ _ _ rfl _ rfl _ rfl _ rfl _ rfl _ rfl _ rfl _ rfl _ rfl]
 have H:=z34.1 p1
 have hb:=z3k H.b
 have h24:=H.n24
 obtain ⟨u1,u4⟩:=H.units4
 simp only at hb h24 u4
 have hm:=H.msg _ (z1g (l:=net) (k:=k.toNat) (by omega) (Ty.dflt Ty.message))
 obtain ⟨hm1,hm2⟩:=hm
 obtain ⟨_,_,m3,m4,_⟩:=z1e hm1
 have m3:0≤(nth net k.toNat (Ty.dflt Ty.message)).unit:=m3
 have m4:(nth net k.toNat (Ty.dflt Ty.message)).unit≤3:=m4
 have hn0:net.getD k.toNat noMsg=nth net k.toNat (Ty.dflt Ty.message):=rfl
 obtain ⟨v,hv⟩:∃ v:Vm.Vehicle,v=⟨vb,vs,⟨⟨ws,fu⟩,up,⟨⟨tv,tk,tt⟩,tn⟩,vo,di⟩,us,cs,net,now⟩:=⟨_,rfl⟩
 have hat:v.net.getD k.toNat noMsg=nth net k.toNat (Ty.dflt Ty.message):=by rw [hv]; rfl
 rw [← hv] at hK
 obtain ⟨m,hme⟩:∃ m,nth net k.toNat (Ty.dflt Ty.message)=m:=⟨_,rfl⟩
 rw [hme] at hat hm2 m3 m4 ⊢
 simp only at hm2
 have g1:toGate m=true→(hearG ⟨⟨ws,fu⟩,up,⟨⟨tv,tk,tt⟩,tn⟩,vo,di⟩ m).2=0→z0v v k.toNat=sendV ⟨vb,vs,(hearG ⟨⟨ws,fu⟩,up,⟨⟨tv,tk,tt⟩,tn⟩,vo,di⟩ m).1.1,us,cs,net.eraseIdx k.toNat,now⟩ (hearG ⟨⟨ws,fu⟩,up,⟨⟨tv,tk,tt⟩,tn⟩,vo,di⟩ m).1.2:=fun h e=>by
  unfold z0v
  rw [hat,if_pos h,hv]
  exact if_pos e
 have g0:toGate m=true→(hearG ⟨⟨ws,fu⟩,up,⟨⟨tv,tk,tt⟩,tn⟩,vo,di⟩ m).2≠0→z0v v k.toNat=⟨vb,vs,⟨⟨ws,fu⟩,up,⟨⟨tv,tk,tt⟩,tn⟩,vo,di⟩,us,cs,net.eraseIdx k.toNat,now⟩:=fun h e=>by
  unfold z0v
  rw [hat,if_pos h,hv]
  exact if_neg e
 have u1':toGate m=false→(hearU vb (nth us m.unit.toNat (Ty.dflt Ty.unitd)) m).2=0→z0v v k.toNat=sendV ⟨vb,vs,⟨⟨ws,fu⟩,up,⟨⟨tv,tk,tt⟩,tn⟩,vo,di⟩,setAt us m.unit.toNat (hearU vb (nth us m.unit.toNat (Ty.dflt Ty.unitd)) m).1.1,cs,net.eraseIdx k.toNat,now⟩ (hearU vb (nth us m.unit.toNat (Ty.dflt Ty.unitd)) m).1.2:=fun h e=>by
  unfold z0v
  rw [hat,if_neg (by rw [h]; simp),hv]
  exact if_pos e
 have u0':toGate m=false→(hearU vb (nth us m.unit.toNat (Ty.dflt Ty.unitd)) m).2≠0→z0v v k.toNat=⟨vb,vs,⟨⟨ws,fu⟩,up,⟨⟨tv,tk,tt⟩,tn⟩,vo,di⟩,us,cs,net.eraseIdx k.toNat,now⟩:=fun h e=>by
  unfold z0v
  rw [hat,if_neg (by rw [h]; simp),hv]
  exact if_neg e
 have le:(net.eraseIdx k.toNat).length≤1000:=by
  have:=List.length_eraseIdx_le net k.toNat
  omega
 have hg:=zhe ⟨⟨ws,fu⟩,up,⟨⟨tv,tk,tt⟩,tn⟩,vo,di⟩ m
 have hu:=zgu vb (nth us m.unit.toNat (Ty.dflt Ty.unitd)) m
 refine ⟨⟨p2,by simp only [len]; omega⟩,by simp only [len]; omega,⟨p2,by omega,by rw [z0e (by omega) (by omega)],by omega⟩,?_⟩
 refine z27 (fun h=>zgj h (z27 (fun e=>⟨⟨le,hg.1,hg.2⟩,by rw [g1 (by simp [toGate,h]) e] at hK; exact hK⟩) (fun e=>by rw [g0 (by simp [toGate,h]) e] at hK; exact hK))) (fun h3=>z27 (fun h=>zgj h (z27 (fun e=>⟨⟨le,hg.1,hg.2⟩,by rw [g1 (by simp [toGate,h]) e] at hK; exact hK⟩) (fun e=>by rw [g0 (by simp [toGate,h]) e] at hK; exact hK))) (fun h6=>z27 (fun h=>z27 (fun e=>⟨⟨le,hg.1,hg.2⟩,by rw [g1 (by simp [toGate,h]) e] at hK; exact hK⟩) (fun e=>by rw [g0 (by simp [toGate,h]) e] at hK; exact hK)) (fun h7=>?_)))
 have h:toGate m=false:=by simp [toGate,h3,h6,h7]
 exact ⟨⟨m3,by simp only [len]; omega⟩,by simp only [len]; omega,by omega,z27 (fun e=>⟨⟨m3,by simp only [len]; omega⟩,by simp only [len]; omega,⟨le,hu.1,hu.2⟩,by rw [u1' h e] at hK; exact hK⟩) (fun e=>by rw [u0' h e] at hK; exact hK)⟩
theorem sound_q234:z03 Tryz.prog tab n_q234 c_q234:=z01 ok_q234 hg_q234 (by
 intro vs bs p v bs' h hp
 unfold c_q234 at h
 split at h
 ·cases h
  exact ⟨by kernel_rfl,rfl,.inr (.inr (run_q234 _ _ _ _ _ _ _ _ _ _ _ _ _ _ _ _ hp.1 _ ⟨rfl,rfl⟩))⟩
 ·cases h)

def c_q238:z00:=fun vs bs=>match vs,bs with
 | [.one (.ptr 0 0),.agg [.dat .int hk,.dat .int _,.dat .int hn,.dat (.list .root) _,.dat (.list (.list .int)) _,.dat .int _,.dat .int _,.dat (.list .target) _,.dat (.list .int) _,.dat (.list (.list .int)) _]],[.box [.dat (.list .str) vb,.dat (.list .signed) vs,.dat (.list .int) ws,.dat .int fu,.dat .bool up,.dat .int tv,.dat (.list .int) tk,.dat .int tt,.dat .int tn,.dat (.list .bool) vo,.dat (.list .bool) di,.own 1,.own 2,.own 3,.dat .int now],.arr .unitd us,.arr .campaign cs,.arr .message net]=>some (some (okW ⟨vb,vs,⟨⟨ws,fu⟩,up,⟨⟨tv,tk,tt⟩,tn⟩,vo,di⟩,us,cs,net,now⟩=true),.one (dI (netV ⟨vb,vs,⟨⟨ws,fu⟩,up,⟨⟨tv,tk,tt⟩,tn⟩,vo,di⟩,us,cs,net,now⟩ hk hn).2),[.box (cV (netV ⟨vb,vs,⟨⟨ws,fu⟩,up,⟨⟨tv,tk,tt⟩,tn⟩,vo,di⟩,us,cs,net,now⟩ hk hn).1 (.own 4) (.own 5) (.own 6)),.dead,.dead,.dead,.arr .unitd (netV ⟨vb,vs,⟨⟨ws,fu⟩,up,⟨⟨tv,tk,tt⟩,tn⟩,vo,di⟩,us,cs,net,now⟩ hk hn).1.units,.arr .campaign (netV ⟨vb,vs,⟨⟨ws,fu⟩,up,⟨⟨tv,tk,tt⟩,tn⟩,vo,di⟩,us,cs,net,now⟩ hk hn).1.campaigns,.arr .message (netV ⟨vb,vs,⟨⟨ws,fu⟩,up,⟨⟨tv,tk,tt⟩,tn⟩,vo,di⟩,us,cs,net,now⟩ hk hn).1.net])
 | _,_=>none
def Γ_q238:Ctx:=[(n_q234,c_q234),(n_q228,c_q228),(n_q232,c_q232)]
theorem ok_q238:Ok Tryz.prog tab Γ_q238:=(((ok_nil.c hg_q232 sound_q232).c hg_q228 sound_q228).c hg_q234 sound_q234)
theorem q238_vc (vb:List (List UInt8)) (vs:List Signed) (ws:List Int) (fu:Int) (up:Bool) (tv:Int) (tk:List Int) (tt tn:Int) (vo di:List Bool) (us:List UnitD) (cs:List Campaign) (net:List Message) (now hk hu hn:Int) (rs:List Root) (rg:List (List Int)) (ov ou:Int) (ts:List Vm.Target) (sg:List Int) (im:List (List Int)) (rec:RK) (K:KK) v0 (hv0:v0=okW ⟨vb,vs,⟨⟨ws,fu⟩,up,⟨⟨tv,tk,tt⟩,tn⟩,vo,di⟩,us,cs,net,now⟩) v1 (hv1:v1=z0v ⟨vb,vs,⟨⟨ws,fu⟩,up,⟨⟨tv,tk,tt⟩,tn⟩,vo,di⟩,us,cs,net,now⟩ (Int.toNat hn)) v2 (hv2:v2=smMW ((⟨(nth net (Int.toNat hn) (Ty.dflt Ty.message)).kind,(nth net (Int.toNat hn) (Ty.dflt Ty.message)).unit,(nth net (Int.toNat hn) (Ty.dflt Ty.message)).n,(nth net (Int.toNat hn) (Ty.dflt Ty.message)).at_,(nth net (Int.toNat hn) (Ty.dflt Ty.message)).image,(nth net (Int.toNat hn) (Ty.dflt Ty.message)).words,(nth net (Int.toNat hn) (Ty.dflt Ty.message)).yes⟩:Vm.Message)::[])) v3 (hv3:v3=sendM net ((⟨(nth net (Int.toNat hn) (Ty.dflt Ty.message)).kind,(nth net (Int.toNat hn) (Ty.dflt Ty.message)).unit,(nth net (Int.toNat hn) (Ty.dflt Ty.message)).n,(nth net (Int.toNat hn) (Ty.dflt Ty.message)).at_,(nth net (Int.toNat hn) (Ty.dflt Ty.message)).image,(nth net (Int.toNat hn) (Ty.dflt Ty.message)).words,(nth net (Int.toNat hn) (Ty.dflt Ty.message)).yes⟩:Vm.Message)::[])) v4 (hv4:v4=K (.one (dI 5)) [.box (aV vb vs ws fu up tv tk tt tn vo di (.own 4) (.own 5) (.own 6) now),.dead,.dead,.dead,.arr Ty.unitd us,.arr Ty.campaign cs,.arr Ty.message net]):segO Γ_q238 tab fn_q238 4 K rec [.code (z05 fn_q238)] (initN [.one (.ptr 0 0),.agg [dI hk,dI hu,dI hn,.dat (Ty.list Ty.root) rs,dR rg,dI ov,dI ou,.dat (Ty.list Ty.target) ts,dL sg,dR im]] [.box (aV vb vs ws fu up tv tk tt tn vo di (.own 1) (.own 2) (.own 3) now),.arr Ty.unitd us,.arr Ty.campaign cs,.arr Ty.message net])=(
 br (lti hn 0)
 v4
 (br (lei (len net:Int) hn)
 v4
 (br (eqi hk 3)
 ((v0=true∧(0:Int)≤hn∧hn<(((List.length net):Nat):Int)) ∧
 K (.one (dI 0)) [.box (cV v1 (.own 4) (.own 5) (.own 6)),.dead,.dead,.dead,.arr Ty.unitd v1.units,.arr Ty.campaign v1.campaigns,.arr Ty.message v1.net])
 (br (eqi hk 4)
 (((0:Int)≤hn∧hn<(((List.length net):Nat):Int)∧w64 (hn+1)=hn+1∧List.length net≤1000) ∧
 K (.one (dI 0)) [.box (aV vb vs ws fu up tv tk tt tn vo di (.own 4) (.own 5) (.own 6) now),.dead,.dead,.dead,.arr Ty.unitd us,.arr Ty.campaign cs,.arr Ty.message (List.eraseIdx net (Int.toNat hn))])
 (br (eqi hk 5)
 (br (eqi (len net:Int) 24)
 (K (.one (dI 8)) [.box (aV vb vs ws fu up tv tk tt tn vo di (.own 4) (.own 5) (.own 6) now),.dead,.dead,.dead,.arr Ty.unitd us,.arr Ty.campaign cs,.arr Ty.message net])
 (((0:Int)≤hn∧hn<(len net:Int)) ∧
 Int.toNat hn<len net ∧
 (List.length net≤1000∧List.length ((⟨(nth net (Int.toNat hn) (Ty.dflt Ty.message)).kind,(nth net (Int.toNat hn) (Ty.dflt Ty.message)).unit,(nth net (Int.toNat hn) (Ty.dflt Ty.message)).n,(nth net (Int.toNat hn) (Ty.dflt Ty.message)).at_,(nth net (Int.toNat hn) (Ty.dflt Ty.message)).image,(nth net (Int.toNat hn) (Ty.dflt Ty.message)).words,(nth net (Int.toNat hn) (Ty.dflt Ty.message)).yes⟩:Vm.Message)::[])≤1000∧v2=true) ∧
 K (.one (dI 0)) [.box (aV vb vs ws fu up tv tk tt tn vo di (.own 4) (.own 5) (.own 6) now),.dead,.dead,.dead,.arr Ty.unitd us,.arr Ty.campaign cs,.arr Ty.message v3]))
 (K (.one (dI 0)) [.box (aV vb vs ws fu up tv tk tt tn vo di (.own 4) (.own 5) (.own 6) now),.dead,.dead,.dead,.arr Ty.unitd us,.arr Ty.campaign cs,.arr Ty.message net])))))):=by subst_vars; kernel_rfl

theorem run_q238 (hp:okW ⟨vb,vs,⟨⟨ws,fu⟩,up,⟨⟨tv,tk,tt⟩,tn⟩,vo,di⟩,us,cs,net,now⟩=true) (K:KK) (hK:K (.one (dI (netV ⟨vb,vs,⟨⟨ws,fu⟩,up,⟨⟨tv,tk,tt⟩,tn⟩,vo,di⟩,us,cs,net,now⟩ hk hn).2)) [.box (cV (netV ⟨vb,vs,⟨⟨ws,fu⟩,up,⟨⟨tv,tk,tt⟩,tn⟩,vo,di⟩,us,cs,net,now⟩ hk hn).1 (.own 4) (.own 5) (.own 6)),.dead,.dead,.dead,.arr .unitd (netV ⟨vb,vs,⟨⟨ws,fu⟩,up,⟨⟨tv,tk,tt⟩,tn⟩,vo,di⟩,us,cs,net,now⟩ hk hn).1.units,.arr .campaign (netV ⟨vb,vs,⟨⟨ws,fu⟩,up,⟨⟨tv,tk,tt⟩,tn⟩,vo,di⟩,us,cs,net,now⟩ hk hn).1.campaigns,.arr .message (netV ⟨vb,vs,⟨⟨ws,fu⟩,up,⟨⟨tv,tk,tt⟩,tn⟩,vo,di⟩,us,cs,net,now⟩ hk hn).1.net]):GN Γ_q238 fn_q238 4 K [.one (.ptr 0 0),.agg [dI hk,dI hu,dI hn,.dat (.list .root) rs,dR rg,dI ov,dI ou,.dat (.list .target) ts,dL sg,dR im]] [.box (aV vb vs ws fu up tv tk tt tn vo di (.own 1) (.own 2) (.own 3) now),.arr .unitd us,.arr .campaign cs,.arr .message net]:=by
 refine ⟨1,?_⟩
 rw [z1i,q238_vc _ _ _ _ _ _ _ _ _ _ _ _ _ _ _ _ _ _ _ _ _ _ _ _ _ _ _ _ rfl _ rfl _ rfl _ rfl _ rfl]
 have H:=z34.1 hp
 have h24:=H.n24
 have hM:=H.msg
 simp only at h24 hM
 obtain ⟨v,hv⟩:∃ v:Vm.Vehicle,v=⟨vb,vs,⟨⟨ws,fu⟩,up,⟨⟨tv,tk,tt⟩,tn⟩,vo,di⟩,us,cs,net,now⟩:=⟨_,rfl⟩
 have hnv:v.net=net:=by rw [hv]
 by_cases c1:hn<0∨(net.length:Int)≤hn
 ·rw [← hv] at hK
  have e:netV v hk hn=(v,5):=if_pos (by rw [hnv]; exact c1)
  rw [e,hv] at hK
  refine z1a (fun _=>hK) (fun h=>z97 (by rw [z1u]; simp only [len]; omega) hK)
 refine z22 (by omega) (z6r (by rw [z11]; simp only [len]; omega) ?_)
 have E1:netV v hk hn=_:=if_neg (by rw [hnv]; exact c1)
 rw [← hv] at hK
 refine z27 (fun h=>⟨⟨hp,by omega,by omega⟩,?_⟩) (fun h=>z27 (fun h2=>⟨⟨by omega,by omega,z0e (by omega) (by omega),by omega⟩,?_⟩) (fun h2=>z27 (fun h3=>z27 (fun h4=>?_) (fun h4=>⟨⟨by omega,by simp only [len]; omega⟩,by simp only [len]; omega,⟨by omega,by simp,?_⟩,?_⟩)) (fun h3=>?_)))
 ·rw [E1.trans (if_pos h),hv] at hK; exact hK
 ·rw [(E1.trans (if_neg h)).trans (if_pos h2),hv] at hK; exact hK
 ·rw [((E1.trans (if_neg h)).trans (if_neg h2)).trans ((if_pos h3).trans (if_pos (by rw [hnv]; simp only [len] at h4; omega))),hv] at hK; exact hK
 ·have:=(z1e (hM _ (z1g (l:=net) (k:=hn.toNat) (by omega) (Ty.dflt Ty.message))).1).2.2.2.2.2.2.2.2.2.2.1
  exact smMW_of fun m hm=>by
   simp only [List.mem_singleton] at hm
   subst hm; exact this
 ·rw [((E1.trans (if_neg h)).trans (if_neg h2)).trans ((if_pos h3).trans (if_neg (by rw [hnv]; simp only [len] at h4; omega))),hv] at hK; exact hK
 ·rw [((E1.trans (if_neg h)).trans (if_neg h2)).trans (if_neg h3),hv] at hK; exact hK
theorem sound_q238:z03 Tryz.prog tab n_q238 c_q238:=z01 ok_q238 hg_q238 (by
 intro vs bs p v bs' h hp
 unfold c_q238 at h
 split at h
 ·cases h
  exact ⟨by kernel_rfl,rfl,.inr (.inr (run_q238 _ _ _ _ _ _ _ _ _ _ _ _ _ _ _ _ _ _ _ _ _ _ _ _ _ hp.1 _ ⟨rfl,rfl⟩))⟩
 ·cases h)

def c_q179:z00:=fun vs bs=>match vs,bs with
 | [.agg [.dat (.list .int) ws,.dat .int fu,.dat .bool up,.dat .int tv,.dat (.list .int) tk,.dat .int tt,.dat .int tn,.dat (.list .bool) vo,.dat (.list .bool) di]],[]=>some (none,.tup [.agg (cG (bootG ⟨⟨ws,fu⟩,up,⟨⟨tv,tk,tt⟩,tn⟩,vo,di⟩).1),.one (dI (bootG ⟨⟨ws,fu⟩,up,⟨⟨tv,tk,tt⟩,tn⟩,vo,di⟩).2)],[])
 | _,_=>none
def Γ_q179:Ctx:=[(n_q168,c_q168),(n_q171,c_q171),(n_q172,c_q172)]
theorem ok_q179:Ok Tryz.prog tab Γ_q179:=(((ok_nil.c hg_q172 sound_q172).c hg_q171 sound_q171).c hg_q168 sound_q168)
theorem q179_vc (ws:List Int) (fu:Int) (up:Bool) (tv:Int) (tk:List Int) (tt tn:Int) (vo di:List Bool) (rec:RK) (K:KK) v0 (hv0:v0=z0t ⟨⟨ws,fu⟩,up,⟨⟨tv,tk,tt⟩,tn⟩,vo,di⟩):segD Γ_q179 tab fn_q179 0 K rec [.code (z05 fn_q179)] (z07 [.agg [dL ws,dI fu,dB up,dI tv,dL tk,dI tt,dI tn,dLb vo,dLb di]] [])=(
 br (!(eqi v0 0))
 (K (.tup [.agg [dL [],dI (0:Int),dB false,dI (0:Int),dL [],dI (0:Int),dI (0:Int),dLb [],dLb []],.one (dI v0)]) [])
 ((len ws*8≤140737488355328∧len tk*8≤140737488355328∧len vo≤1000∧len di≤1000) ∧
 K (.tup [.agg [dL ws,dI (-1),dB true,dI tv,dL tk,dI tt,dI tn,dLb (zeros (List.length vo) false),dLb (zeros (List.length di) false)],.one (dI 0)]) [])):=by subst_vars; kernel_rfl

theorem run_q179 (K:KK) (hK:K (.tup [.agg (cG (bootG ⟨⟨ws,fu⟩,up,⟨⟨tv,tk,tt⟩,tn⟩,vo,di⟩).1),.one (dI (bootG ⟨⟨ws,fu⟩,up,⟨⟨tv,tk,tt⟩,tn⟩,vo,di⟩).2)]) []):GD Γ_q179 fn_q179 0 K [.agg [dL ws,dI fu,dB up,dI tv,dL tk,dI tt,dI tn,dLb vo,dLb di]] []:=by
 refine ⟨1,?_⟩
 rw [z02,q179_vc _ _ _ _ _ _ _ _ _ _ _ _ rfl]
 unfold bootG at hK
 refine z1c (fun h=>?_) (fun h=>?_)
 ·rw [if_neg h] at hK; exact hK
 ·rw [if_pos h] at hK
  obtain ⟨s1,s2,s3,s4⟩:=z5j h
  exact ⟨⟨s1,s2,s3,s4⟩,hK⟩
theorem sound_q179:z03 Tryz.prog tab n_q179 c_q179:=z01 ok_q179 hg_q179 (by
 intro vs bs p v bs' h hp
 unfold c_q179 at h
 split at h
 ·cases h
  exact ⟨by kernel_rfl,rfl,.inl (run_q179 _ _ _ _ _ _ _ _ _ _ ⟨rfl,rfl⟩)⟩
 ·cases h)

def c_q147:z00:=fun vs bs=>match vs,bs with
 | [.agg [.dat (.list .int) ws,.dat .int fu,.dat .bool up,.dat .int un,.dat .int ug]],[]=>some (none,.tup [.agg (cU (z4l ⟨⟨ws,fu⟩,up,un,ug⟩).1),.one (dI (z4l ⟨⟨ws,fu⟩,up,un,ug⟩).2)],[])
 | _,_=>none
def Γ_q147:Ctx:=[(n_q133,c_q133),(n_q136,c_q136),(n_q137,c_q137)]
theorem ok_q147:Ok Tryz.prog tab Γ_q147:=(((ok_nil.c hg_q137 sound_q137).c hg_q136 sound_q136).c hg_q133 sound_q133)
theorem q147_vc (ws:List Int) (fu:Int) (up:Bool) (un ug:Int) (rec:RK) (K:KK) v0 (hv0:v0=z14 ⟨⟨ws,fu⟩,up,un,ug⟩):segD Γ_q147 tab fn_q147 0 K rec [.code (z05 fn_q147)] (z07 [.agg [dL ws,dI fu,dB up,dI un,dI ug]] [])=(
 br (!(eqi v0 0))
 (K (.tup [.agg [dL [],dI (0:Int),dB false,dI (0:Int),dI (0:Int)],.one (dI v0)]) [])
 (len ws*8≤140737488355328 ∧
 K (.tup [.agg [dL ws,dI (-1),dB true,dI (0:Int),dI (0:Int)],.one (dI 0)]) [])):=by subst_vars; kernel_rfl

theorem run_q147 (K:KK) (hK:K (.tup [.agg (cU (z4l ⟨⟨ws,fu⟩,up,un,ug⟩).1),.one (dI (z4l ⟨⟨ws,fu⟩,up,un,ug⟩).2)]) []):GD Γ_q147 fn_q147 0 K [.agg [dL ws,dI fu,dB up,dI un,dI ug]] []:=by
 refine ⟨1,?_⟩
 rw [z02,q147_vc _ _ _ _ _ _ _ _ rfl]
 unfold z4l at hK
 refine z1c (fun h=>?_) (fun h=>⟨?_,?_⟩)
 ·rw [if_neg h] at hK; exact hK
 ·have:=(z3a h).2.1
  simp only at this; simp only [len]; omega
 ·rw [if_pos h] at hK; exact hK
theorem sound_q147:z03 Tryz.prog tab n_q147 c_q147:=z01 ok_q147 hg_q147 (by
 intro vs bs p v bs' h hp
 unfold c_q147 at h
 split at h
 ·cases h
  exact ⟨by kernel_rfl,rfl,.inl (run_q147 _ _ _ _ _ _ ⟨rfl,rfl⟩)⟩
 ·cases h)

def c_q235:z00:=fun vs bs=>match vs,bs with
 | [.one (.ptr 0 0),.agg [.dat .int hk,.dat .int hu,.dat .int hn,.dat (.list .root) _,.dat (.list (.list .int)) _,.dat .int _,.dat .int _,.dat (.list .target) _,.dat (.list .int) _,.dat (.list (.list .int)) _]],[.box [.dat (.list .str) vb,.dat (.list .signed) vs,.dat (.list .int) ws,.dat .int fu,.dat .bool up,.dat .int tv,.dat (.list .int) tk,.dat .int tt,.dat .int tn,.dat (.list .bool) vo,.dat (.list .bool) di,.own 1,.own 2,.own 3,.dat .int now],.arr .unitd us,.arr .campaign cs,.arr .message net]=>some (some (okW ⟨vb,vs,⟨⟨ws,fu⟩,up,⟨⟨tv,tk,tt⟩,tn⟩,vo,di⟩,us,cs,net,now⟩=true),.one (dI (powerV ⟨vb,vs,⟨⟨ws,fu⟩,up,⟨⟨tv,tk,tt⟩,tn⟩,vo,di⟩,us,cs,net,now⟩ hk hu hn).2),[.box (cV (powerV ⟨vb,vs,⟨⟨ws,fu⟩,up,⟨⟨tv,tk,tt⟩,tn⟩,vo,di⟩,us,cs,net,now⟩ hk hu hn).1 (.own 4) (.own 5) (.own 6)),.dead,.dead,.dead,.arr .unitd (powerV ⟨vb,vs,⟨⟨ws,fu⟩,up,⟨⟨tv,tk,tt⟩,tn⟩,vo,di⟩,us,cs,net,now⟩ hk hu hn).1.units,.arr .campaign (powerV ⟨vb,vs,⟨⟨ws,fu⟩,up,⟨⟨tv,tk,tt⟩,tn⟩,vo,di⟩,us,cs,net,now⟩ hk hu hn).1.campaigns,.arr .message (powerV ⟨vb,vs,⟨⟨ws,fu⟩,up,⟨⟨tv,tk,tt⟩,tn⟩,vo,di⟩,us,cs,net,now⟩ hk hu hn).1.net])
 | _,_=>none
def Γ_q235:Ctx:=[(n_q179,c_q179),(n_q147,c_q147)]
theorem ok_q235:Ok Tryz.prog tab Γ_q235:=((ok_nil.c hg_q147 sound_q147).c hg_q179 sound_q179)
theorem q235_vc (vb:List (List UInt8)) (vs:List Signed) (ws:List Int) (fu:Int) (up:Bool) (tv:Int) (tk:List Int) (tt tn:Int) (vo di:List Bool) (us:List UnitD) (cs:List Campaign) (net:List Message) (now hk hu hn:Int) (rs:List Root) (rg:List (List Int)) (ov ou:Int) (ts:List Vm.Target) (sg:List Int) (im:List (List Int)) (rec:RK) (K:KK) v0 (hv0:v0=bootG ⟨⟨ws,fu⟩,up,⟨⟨tv,tk,tt⟩,tn⟩,vo,di⟩) v1 (hv1:v1=z4l ⟨⟨((nth us (Int.toNat hu) (Ty.dflt Ty.unitd)).f).words,((nth us (Int.toNat hu) (Ty.dflt Ty.unitd)).f).fuel⟩,(nth us (Int.toNat hu) (Ty.dflt Ty.unitd)).up,(nth us (Int.toNat hu) (Ty.dflt Ty.unitd)).n,(nth us (Int.toNat hu) (Ty.dflt Ty.unitd)).got⟩) v3 (hv3:v3=K (.one (dI 5)) [.box (aV vb vs ws fu up tv tk tt tn vo di (.own 4) (.own 5) (.own 6) now),.dead,.dead,.dead,.arr Ty.unitd us,.arr Ty.campaign cs,.arr Ty.message net]) v4 (hv4:v4=K (.one (dI 3)) [.box (aV vb vs ws fu up tv tk tt tn vo di (.own 4) (.own 5) (.own 6) now),.dead,.dead,.dead,.arr Ty.unitd us,.arr Ty.campaign cs,.arr Ty.message net]) v5 (hv5:v5=br (eqi hk 6)
 (((0:Int)≤hu∧hu<(len us:Int)) ∧
 Int.toNat hu<len us ∧
 K (.one (dI 0)) [.box (aV vb vs ws fu up tv tk tt tn vo di (.own 4) (.own 5) (.own 6) now),.dead,.dead,.dead,.arr Ty.unitd (setAt us (Int.toNat hu) ⟨⟨((nth us (Int.toNat hu) (Ty.dflt Ty.unitd)).f).words,hn⟩,(nth us (Int.toNat hu) (Ty.dflt Ty.unitd)).up,(nth us (Int.toNat hu) (Ty.dflt Ty.unitd)).n,(nth us (Int.toNat hu) (Ty.dflt Ty.unitd)).got⟩),.arr Ty.campaign cs,.arr Ty.message net])
 (br (lti hu 0)
 (K (.one (dI 0)) [.box [.dat (Ty.list Ty.str) vb,.dat (Ty.list Ty.signed) vs,dL v0.fst.f.words,dI v0.fst.f.fuel,dB v0.fst.up,dI v0.fst.t.r.version,dL v0.fst.t.r.keys,dI v0.fst.t.r.thr,dI v0.fst.t.version,dLb v0.fst.voted,dLb v0.fst.did,.own 4,.own 5,.own 6,dI now],.dead,.dead,.dead,.arr Ty.unitd us,.arr Ty.campaign cs,.arr Ty.message net])
 (((0:Int)≤hu∧hu<(len us:Int)) ∧
 Int.toNat hu<len us ∧
 ((0:Int)≤hu∧hu<(len us:Int)) ∧
 Int.toNat hu<len us ∧
 K (.one (dI 0)) [.box (aV vb vs ws fu up tv tk tt tn vo di (.own 4) (.own 5) (.own 6) now),.dead,.dead,.dead,.arr Ty.unitd (setAt us (Int.toNat hu) ⟨⟨v1.fst.f.words,v1.fst.f.fuel⟩,v1.fst.up,v1.fst.n,v1.fst.got⟩),.arr Ty.campaign cs,.arr Ty.message net]))) v2 (hv2:v2=br (eqi hk 6)
 (br (lti hu 0)
 (K (.one (dI 0)) [.box [.dat (Ty.list Ty.str) vb,.dat (Ty.list Ty.signed) vs,dL ws,dI hn,dB up,dI tv,dL tk,dI tt,dI tn,dLb vo,dLb di,.own 4,.own 5,.own 6,dI now],.dead,.dead,.dead,.arr Ty.unitd us,.arr Ty.campaign cs,.arr Ty.message net])
 v5)
 v5):segO Γ_q235 tab fn_q235 4 K rec [.code (z05 fn_q235)] (initN [.one (.ptr 0 0),.agg [dI hk,dI hu,dI hn,.dat (Ty.list Ty.root) rs,dR rg,dI ov,dI ou,.dat (Ty.list Ty.target) ts,dL sg,dR im]] [.box (aV vb vs ws fu up tv tk tt tn vo di (.own 1) (.own 2) (.own 3) now),.arr Ty.unitd us,.arr Ty.campaign cs,.arr Ty.message net])=(
 br (lti hu (-1))
 v3
 (br (lei (len us:Int) hu)
 v3
 (br (eqi hk 6)
 (br (lti hn 0)
 v4
 (br (lti 100000 hn)
 v4
 v2))
 v2))):=by subst_vars; kernel_rfl

theorem run_q235 (hp:okW ⟨vb,vs,⟨⟨ws,fu⟩,up,⟨⟨tv,tk,tt⟩,tn⟩,vo,di⟩,us,cs,net,now⟩=true) (K:KK) (hK:K (.one (dI (powerV ⟨vb,vs,⟨⟨ws,fu⟩,up,⟨⟨tv,tk,tt⟩,tn⟩,vo,di⟩,us,cs,net,now⟩ hk hu hn).2)) [.box (cV (powerV ⟨vb,vs,⟨⟨ws,fu⟩,up,⟨⟨tv,tk,tt⟩,tn⟩,vo,di⟩,us,cs,net,now⟩ hk hu hn).1 (.own 4) (.own 5) (.own 6)),.dead,.dead,.dead,.arr .unitd (powerV ⟨vb,vs,⟨⟨ws,fu⟩,up,⟨⟨tv,tk,tt⟩,tn⟩,vo,di⟩,us,cs,net,now⟩ hk hu hn).1.units,.arr .campaign (powerV ⟨vb,vs,⟨⟨ws,fu⟩,up,⟨⟨tv,tk,tt⟩,tn⟩,vo,di⟩,us,cs,net,now⟩ hk hu hn).1.campaigns,.arr .message (powerV ⟨vb,vs,⟨⟨ws,fu⟩,up,⟨⟨tv,tk,tt⟩,tn⟩,vo,di⟩,us,cs,net,now⟩ hk hu hn).1.net]):GN Γ_q235 fn_q235 4 K [.one (.ptr 0 0),.agg [dI hk,dI hu,dI hn,.dat (.list .root) rs,dR rg,dI ov,dI ou,.dat (.list .target) ts,dL sg,dR im]] [.box (aV vb vs ws fu up tv tk tt tn vo di (.own 1) (.own 2) (.own 3) now),.arr .unitd us,.arr .campaign cs,.arr .message net]:=by
 refine ⟨1,?_⟩
 rw [z1i,q235_vc _ _ _ _ _ _ _ _ _ _ _ _ _ _ _ _ _ _ _ _ _ _ _ _ _ _ _ _ rfl _ rfl _ rfl _ rfl _ rfl _ rfl]
 have H:=z34.1 hp
 obtain ⟨u1,u4⟩:=H.units4
 simp only at u4
 obtain ⟨v,hv⟩:∃ v:Vm.Vehicle,v=⟨vb,vs,⟨⟨ws,fu⟩,up,⟨⟨tv,tk,tt⟩,tn⟩,vo,di⟩,us,cs,net,now⟩:=⟨_,rfl⟩
 have hvl:v.units.length=us.length:=by rw [hv]
 rw [← hv] at hK
 by_cases c1:hu < -1∨(us.length:Int)≤hu
 ·have e:powerV v hk hu hn=(v,5):=if_pos (by rw [hvl]; exact c1)
  rw [e,hv] at hK
  refine z1a (fun _=>hK) (fun h=>z97 (by rw [z1u]; simp only [len]; omega) hK)
 refine z22 (by omega) (z6r (by rw [z11]; simp only [len]; omega) ?_)
 have E1:powerV v hk hu hn=_:=if_neg (by rw [hvl]; exact c1)
 have tail:¬ (hk=6∧(hn<0∨100000<hn))→powerV v hk hu hn=if hk=6 then (if hu<0 then (fuelG v hn,0) else (setU v hu (fuelU (unitAt v hu) hn),0)) else if hu<0 then (bootsG v,0) else (setU v hu (z4l (unitAt v hu)).1,0):=fun h=>E1.trans (if_neg h)
 refine z27 (fun h6=>?_) (fun h6=>?_)
 ·by_cases c2:hn<0∨100000<hn
  ·have e:=E1.trans (if_pos ⟨h6,c2⟩)
   rw [e,hv] at hK
   exact z1a (fun _=>hK) (fun h=>z2o (by omega) hK)
  have e:=(tail (fun h=>c2 h.2)).trans (if_pos h6)
  refine z22 (by omega) (z22 (by omega) (zgj h6 (z1a (fun h=>?_) (fun h=>zgj h6 ⟨⟨h,by simp only [len]; omega⟩,by simp only [len]; omega,?_⟩))))
  ·rw [e,if_pos h,hv] at hK; exact hK
  ·rw [e,if_neg (by omega),hv] at hK; exact hK
 ·have e:=(tail (fun h=>h6 h.1)).trans (if_neg h6)
  refine zfd h6 (zfd h6 (z1a (fun h=>?_) (fun h=>⟨⟨h,by simp only [len]; omega⟩,by simp only [len]; omega,⟨h,by simp only [len]; omega⟩,by simp only [len]; omega,?_⟩)))
  ·rw [e,if_pos h,hv] at hK; exact hK
  ·rw [e,if_neg (by omega),hv] at hK; exact hK
theorem sound_q235:z03 Tryz.prog tab n_q235 c_q235:=z01 ok_q235 hg_q235 (by
 intro vs bs p v bs' h hp
 unfold c_q235 at h
 split at h
 ·cases h
  exact ⟨by kernel_rfl,rfl,.inr (.inr (run_q235 _ _ _ _ _ _ _ _ _ _ _ _ _ _ _ _ _ _ _ _ _ _ _ _ _ hp.1 _ ⟨rfl,rfl⟩))⟩
 ·cases h)

def c_q181:z00:=fun vs bs=>match vs,bs with
 | [.agg [.dat (.list .int) ws,.dat .int fu,.dat .bool up,.dat .int tv,.dat (.list .int) tk,.dat .int tt,.dat .int tn,.dat (.list .bool) vo,.dat (.list .bool) di]],[]=>some (none,.tup [.agg (cG (giveG ⟨⟨ws,fu⟩,up,⟨⟨tv,tk,tt⟩,tn⟩,vo,di⟩).1),.one (dI (giveG ⟨⟨ws,fu⟩,up,⟨⟨tv,tk,tt⟩,tn⟩,vo,di⟩).2)],[])
 | _,_=>none
def Γ_q181:Ctx:=[(n_q175,c_q175),(n_q166,c_q166),(n_q171,c_q171),(n_q174,c_q174)]
theorem ok_q181:Ok Tryz.prog tab Γ_q181:=((((ok_nil.c hg_q174 sound_q174).c hg_q171 sound_q171).c hg_q166 sound_q166).c hg_q175 sound_q175)
theorem q181_vc (ws:List Int) (fu:Int) (up:Bool) (tv:Int) (tk:List Int) (tt tn:Int) (vo di:List Bool) (rec:RK) (K:KK) v0 (hv0:v0=upG ⟨⟨ws,fu⟩,up,⟨⟨tv,tk,tt⟩,tn⟩,vo,di⟩) v1 (hv1:v1=ofG ⟨ws,fu⟩) v2 (hv2:v2=z0o ⟨⟨ws,fu⟩,up,⟨⟨tv,tk,tt⟩,tn⟩,vo,di⟩ ((3:Int)::v1.n::[])) v3 (hv3:v3=K (.tup [.agg [dL [],dI (0:Int),dB false,dI (0:Int),dL [],dI (0:Int),dI (0:Int),dLb [],dLb []],.one (dI 12)]) []):segD Γ_q181 tab fn_q181 0 K rec [.code (z05 fn_q181)] (z07 [.agg [dL ws,dI fu,dB up,dI tv,dL tk,dI tt,dI tn,dLb vo,dLb di]] [])=(
 br (!(eqi v0 0))
 (K (.tup [.agg [dL [],dI (0:Int),dB false,dI (0:Int),dL [],dI (0:Int),dI (0:Int),dLb [],dLb []],.one (dI v0)]) [])
 (br (eqi v1.n 0)
 v3
 (br v1.commit
 v3
 (br v1.abort
 v3
 ((len ws*8≤140737488355328∧len tk*8≤140737488355328∧len vo≤1000∧len di≤1000) ∧
 List.length ((3:Int)::v1.n::[])≤140737488355328 ∧
 K (.tup [.agg (cG v2.fst),.one (dI 0)]) []))))):=by subst_vars; kernel_rfl

theorem run_q181 (K:KK) (hK:K (.tup [.agg (cG (giveG ⟨⟨ws,fu⟩,up,⟨⟨tv,tk,tt⟩,tn⟩,vo,di⟩).1),.one (dI (giveG ⟨⟨ws,fu⟩,up,⟨⟨tv,tk,tt⟩,tn⟩,vo,di⟩).2)]) []):GD Γ_q181 fn_q181 0 K [.agg [dL ws,dI fu,dB up,dI tv,dL tk,dI tt,dI tn,dLb vo,dLb di]] []:=by
 refine ⟨1,?_⟩
 rw [z02,q181_vc _ _ _ _ _ _ _ _ _ _ _ _ rfl _ rfl _ rfl _ rfl]
 unfold giveG giveE at hK
 simp only at hK
 obtain ⟨s,hs⟩:∃ s,ofG ⟨ws,fu⟩=s:=⟨_,rfl⟩
 rw [hs] at hK ⊢
 refine z1c (fun h=>?_) (fun h=>?_)
 ·rw [if_neg h,if_neg h] at hK; exact hK
 have hc:z0t ⟨⟨ws,fu⟩,up,⟨⟨tv,tk,tt⟩,tn⟩,vo,di⟩=0:=z47 h
 obtain ⟨s1,s2,s3,s4⟩:=z5j hc
 rw [if_pos h] at hK
 by_cases c:s.n=0∨s.commit=true∨s.abort=true
 ·rw [if_pos c,if_neg (by omega)] at hK
  refine z27 (fun _=>hK) (fun c1=>z0l (fun _=>hK) (fun c2=>z0l (fun _=>hK) (fun c3=>?_)))
  rw [c2,c3] at c
  simp [c1] at c
 ·rw [if_neg c,if_pos rfl] at hK
  simp only [not_or,Bool.not_eq_true] at c
  exact zfd c.1 (z6r c.2.1 (z6r c.2.2 ⟨⟨s1,s2,s3,s4⟩,by simp,hK⟩))
theorem sound_q181:z03 Tryz.prog tab n_q181 c_q181:=z01 ok_q181 hg_q181 (by
 intro vs bs p v bs' h hp
 unfold c_q181 at h
 split at h
 ·cases h
  exact ⟨by kernel_rfl,rfl,.inl (run_q181 _ _ _ _ _ _ _ _ _ _ ⟨rfl,rfl⟩)⟩
 ·cases h)

def c_q169:z00:=fun vs bs=>match vs,bs with
 | [.agg [.dat (.list .int) ws,.dat .int fu,.dat .bool up,.dat .int tv,.dat (.list .int) tk,.dat .int tt,.dat .int tn,.dat (.list .bool) vo,.dat (.list .bool) di]],[]=>some (none,.tup [.agg [dI (readG ⟨⟨ws,fu⟩,up,⟨⟨tv,tk,tt⟩,tn⟩,vo,di⟩).1.n,dI (readG ⟨⟨ws,fu⟩,up,⟨⟨tv,tk,tt⟩,tn⟩,vo,di⟩).1.version,dB (readG ⟨⟨ws,fu⟩,up,⟨⟨tv,tk,tt⟩,tn⟩,vo,di⟩).1.commit,dB (readG ⟨⟨ws,fu⟩,up,⟨⟨tv,tk,tt⟩,tn⟩,vo,di⟩).1.abort,dB (readG ⟨⟨ws,fu⟩,up,⟨⟨tv,tk,tt⟩,tn⟩,vo,di⟩).1.ended],.one (dI (readG ⟨⟨ws,fu⟩,up,⟨⟨tv,tk,tt⟩,tn⟩,vo,di⟩).2)],[])
 | _,_=>none
def Γ_q169:Ctx:=[(n_q168,c_q168),(n_q166,c_q166)]
theorem ok_q169:Ok Tryz.prog tab Γ_q169:=((ok_nil.c hg_q166 sound_q166).c hg_q168 sound_q168)
theorem q169_vc (ws:List Int) (fu:Int) (up:Bool) (tv:Int) (tk:List Int) (tt tn:Int) (vo di:List Bool) (rec:RK) (K:KK) v0 (hv0:v0=z0t ⟨⟨ws,fu⟩,up,⟨⟨tv,tk,tt⟩,tn⟩,vo,di⟩) v1 (hv1:v1=ofG ⟨ws,fu⟩):segD Γ_q169 tab fn_q169 0 K rec [.code (z05 fn_q169)] (z07 [.agg [dL ws,dI fu,dB up,dI tv,dL tk,dI tt,dI tn,dLb vo,dLb di]] [])=(
 br (!(eqi v0 0))
 (K (.tup [.agg [dI (0:Int),dI (0:Int),dB false,dB false,dB false],.one (dI v0)]) [])
 (K (.tup [.agg [dI v1.n,dI v1.version,dB v1.commit,dB v1.abort,dB v1.ended],.one (dI 0)]) [])):=by subst_vars; kernel_rfl

theorem run_q169 (K:KK) (hK:K (.tup [.agg [dI (readG ⟨⟨ws,fu⟩,up,⟨⟨tv,tk,tt⟩,tn⟩,vo,di⟩).1.n,dI (readG ⟨⟨ws,fu⟩,up,⟨⟨tv,tk,tt⟩,tn⟩,vo,di⟩).1.version,dB (readG ⟨⟨ws,fu⟩,up,⟨⟨tv,tk,tt⟩,tn⟩,vo,di⟩).1.commit,dB (readG ⟨⟨ws,fu⟩,up,⟨⟨tv,tk,tt⟩,tn⟩,vo,di⟩).1.abort,dB (readG ⟨⟨ws,fu⟩,up,⟨⟨tv,tk,tt⟩,tn⟩,vo,di⟩).1.ended],.one (dI (readG ⟨⟨ws,fu⟩,up,⟨⟨tv,tk,tt⟩,tn⟩,vo,di⟩).2)]) []):GD Γ_q169 fn_q169 0 K [.agg [dL ws,dI fu,dB up,dI tv,dL tk,dI tt,dI tn,dLb vo,dLb di]] []:=by
 refine ⟨1,?_⟩
 rw [z02,q169_vc _ _ _ _ _ _ _ _ _ _ _ _ rfl _ rfl]
 unfold readG at hK
 refine z1c (fun h=>?_) (fun h=>?_)
 ·rw [if_neg h] at hK; exact hK
 ·rw [if_pos h] at hK; exact hK
theorem sound_q169:z03 Tryz.prog tab n_q169 c_q169:=z01 ok_q169 hg_q169 (by
 intro vs bs p v bs' h hp
 unfold c_q169 at h
 split at h
 ·cases h
  exact ⟨by kernel_rfl,rfl,.inl (run_q169 _ _ _ _ _ _ _ _ _ _ ⟨rfl,rfl⟩)⟩
 ·cases h)

def c_q177:z00:=fun vs bs=>match vs,bs with
 | [.agg [.dat (.list .int) ws,.dat .int fu,.dat .bool up,.dat .int tv,.dat (.list .int) tk,.dat .int tt,.dat .int tn,.dat (.list .bool) vo,.dat (.list .bool) di],.agg [.dat .int cn,.dat .int cv,.dat .int cu,.dat (.list .target) ct,.dat (.list (.list .int)) ci],.one (.dat .int u)],[]=>some (some (ct.length≤140737488355328∧ci.length≤140737488355328),.tup [.one (dM (dueG ⟨⟨ws,fu⟩,up,⟨⟨tv,tk,tt⟩,tn⟩,vo,di⟩ ⟨cn,⟨cv,cu,ct⟩,ci⟩ u).1),.one (dI (dueG ⟨⟨ws,fu⟩,up,⟨⟨tv,tk,tt⟩,tn⟩,vo,di⟩ ⟨cn,⟨cv,cu,ct⟩,ci⟩ u).2)],[])
 | _,_=>none
def Γ_q177:Ctx:=[(n_q175,c_q175),(n_q166,c_q166),(n_q176,c_q176),(n_q2,c_q2)]
theorem ok_q177:Ok Tryz.prog tab Γ_q177:=((((ok_nil.c hg_q2 sound_q2).c hg_q176 sound_q176).c hg_q166 sound_q166).c hg_q175 sound_q175)
noncomputable def q177_L0:List It:=[.inLoop [12,11,10,9,7,6,4,2] (cSub fn_q177 [1,1,1,1,1,1,1,1,1,1,0,1,0,0]),.inBlock 0,.code (cSub fn_q177 [1,1,1,1,1,1,1,1,1,1,1])]
def q177_S0 (x0:Int) (x1:List Int) (x2 x3:Int) (x4:List Vm.Message) (x5 x6:Int) (x7 x8 x9:Bool) (x10:List Vm.Message) (x11 x12 x13:Int) (x14:List Vm.Target) (x15:List (List Int)):St:=⟨[(12,.one (dI x0)),(11,.one (.own 0)),(10,.one (dL x1)),(9,.one (.ptr 1 0)),(7,.one (dI x2)),(6,.one (.own 2)),(4,.one (.ptr 3 0)),(2,.one (dI x3))],[(0,.arr Ty.message x4),(1,.box [dI x5,dI x6,dB x7,dB x8,dB x9]),(2,.arr Ty.message x10),(3,.box [dI x11,dI x12,dI x13,.dat (Ty.list Ty.target) x14,dR x15])],4⟩
theorem q177_vc (ws:List Int) (fu:Int) (up:Bool) (tv:Int) (tk:List Int) (tt tn:Int) (vo di:List Bool) (cn cv cu:Int) (ct:List Vm.Target) (ci:List (List Int)) (u:Int) (rec:RK) (K:KK) v0 (hv0:v0=upG ⟨⟨ws,fu⟩,up,⟨⟨tv,tk,tt⟩,tn⟩,vo,di⟩) v1 (hv1:v1=ofG ⟨ws,fu⟩) v2 (hv2:v2=kindG ⟨v1.n,v1.version,v1.commit,v1.abort,v1.ended⟩ v1.n) v3 (hv3:v3=br (nth di (Int.toNat u) (Ty.dflt Ty.bool))
 (K (.tup [.one (dM []),.one (dI 0)]) [])
 (K (.tup [.one (dM ((⟨v2,u,v1.n,0,0,[],false⟩:Vm.Message)::[])),.one (dI 0)]) [])):segD Γ_q177 tab fn_q177 0 K rec [.code (z05 fn_q177)] (z07 [.agg [dL ws,dI fu,dB up,dI tv,dL tk,dI tt,dI tn,dLb vo,dLb di],.agg [dI cn,dI cv,dI cu,.dat (Ty.list Ty.target) ct,dR ci],.one (dI u)] [])=(
 br (!(eqi v0 0))
 (K (.tup [.one (dM []),.one (dI v0)]) [])
 (br (eqi v1.n 0)
 (K (.tup [.one (dM []),.one (dI 12)]) [])
 (br v1.ended
 (K (.tup [.one (dM []),.one (dI 12)]) [])
 (br (lti u 0)
 (K (.tup [.one (dM []),.one (dI 5)]) [])
 (br (lei (len vo:Int) u)
 (K (.tup [.one (dM []),.one (dI 5)]) [])
 (br (!(eqi cn v1.n))
 (K (.tup [.one (dM []),.one (dI 5)]) [])
 (br (lei (len ci:Int) u)
 (K (.tup [.one (dM []),.one (dI 5)]) [])
 (br (lei (len ct:Int) u)
 (K (.tup [.one (dM []),.one (dI 5)]) [])
 (br v1.commit
 (((0:Int)≤u∧u<(len di:Int)) ∧
 v3)
 (br v1.abort
 (((0:Int)≤u∧u<(len di:Int)) ∧
 v3)
 (((0:Int)≤u∧u<(len vo:Int)) ∧
 br (nth vo (Int.toNat u) (Ty.dflt Ty.bool))
 (K (.tup [.one (dM []),.one (dI 0)]) [])
 (((0:Int)≤u∧u<(len ci:Int)) ∧
 br (lti 40 (((len (nth ci (Int.toNat u) (Ty.dflt (Ty.list Ty.int)))):Nat):Int))
 (K (.tup [.one (dM []),.one (dI 2)]) [])
 (rec q177_L0 (q177_S0 0 (nth ci (Int.toNat u) (Ty.dflt (Ty.list Ty.int))) 0 u [] v1.n v1.version v1.commit v1.abort v1.ended [] cn cv cu ct ci)))))))))))))):=by subst_vars; kernel_rfl
theorem ziw (x0:Int) (x1:List Int) (x2 x3:Int) (x4:List Vm.Message) (x5 x6:Int) (x7 x8 x9:Bool) (x10:List Vm.Message) (x11 x12 x13:Int) (x14:List Vm.Target) (x15:List (List Int)) (rec:RK) (K:KK):segD Γ_q177 tab fn_q177 0 K rec (ent q177_L0) (q177_S0 x0 x1 x2 x3 x4 x5 x6 x7 x8 x9 x10 x11 x12 x13 x14 x15)=(
 br (lti x0 (len x1:Int))
 (((0:Int)≤x0∧x0≤min (w64 (x0+8)) (len x1:Int)∧min (w64 (x0+8)) (len x1:Int)≤(len x1:Int)) ∧
 len (slc x1 (Int.toNat x0) (Int.toNat (min (w64 (x0+8)) (len x1:Int))))*8≤140737488355328 ∧
 (len x4+len ((⟨1,x3,x5,x0,0,slc x1 (Int.toNat x0) (Int.toNat (min (w64 (x0+8)) (len x1:Int))),false⟩:Vm.Message)::[]))*72≤140737488355328 ∧
 rec q177_L0 (q177_S0 (w64 (x0+8)) x1 x2 x3 (cat x4 ((⟨1,x3,x5,x0,0,slc x1 (Int.toNat x0) (Int.toNat (min (w64 (x0+8)) (len x1:Int))),false⟩:Vm.Message)::[])) x5 x6 x7 x8 x9 x10 x11 x12 x13 x14 x15))
 (((0:Int)≤x3∧x3<(len x14:Int)) ∧
 (len x4+len ((⟨2,x3,x5,(len x1:Int),(nth x14 (Int.toNat x3) (Ty.dflt Ty.target)).image,[],false⟩:Vm.Message)::[]))*72≤140737488355328 ∧
 K (.tup [.one (dM (cat x4 ((⟨2,x3,x5,(len x1:Int),(nth x14 (Int.toNat x3) (Ty.dflt Ty.target)).image,[],false⟩:Vm.Message)::[]))),.one (dI 0)]) [])):=by kernel_rfl

theorem zfp (w:List Int) (u n:Int) (hw:w.length≤40) (a b:Int) (c d e:Bool) (ml:List Vm.Message) (cn cv cu:Int) (ct:List Vm.Target) (ci:List (List Int)) (hu:0≤u∧u<(ct.length:Int)) (K:KK) :
  ∀ (f k:Nat) (acc:List Vm.Message),w.length≤k+8*f→k≤48→acc.length+f≤6→K (.tup [.one (dM (acc++(z1p u n w f k++[⟨2,u,n,(w.length:Int),(nth ct u.toNat ⟨0,0,0⟩).image,[],false⟩]))),.one (dI (0:Int))]) [] →
  goD Γ_q177 tab fn_q177 0 K (f+1) q177_L0 (q177_S0 (k:Int) w a u acc n b c d e ml cn cv cu ct ci)
 | 0,k,acc,hk,h48,ha,hK=>by
  rw [z09 (L:=q177_L0),ziw _ _ _ _ _ _ _ _ _ _ _ _ _ _ _ _ _ _]
  exact z22 (by simp only [len]; omega) ⟨⟨hu.1,by simp only [len]; omega⟩,by simp only [len,List.length_cons,List.length_nil]; omega,hK⟩
 | f+1,k,acc,hk,h48,ha,hK=>by
  rw [z09 (L:=q177_L0),ziw _ _ _ _ _ _ _ _ _ _ _ _ _ _ _ _ _ _]
  by_cases c:k<w.length
  ·simp only [z1p,if_pos c] at hK
   have em:min (w64 ((k:Int)+8)) (((len w:Nat)):Int)=((min (k+8) w.length:Nat):Int):=by rw [z0e (by omega) (by omega)]; simp only [len]; omega
   rw [em,z08,z08,show w64 ((k:Int)+8)=((k+8:Nat):Int) by rw [z0e (by omega) (by omega)]; omega]
   have lp:len (slc w k (min (k+8) w.length))≤8:=by simp only [len,slc,List.length_drop,List.length_take]; omega
   refine z2o (by simp only [len]; omega) ⟨⟨by omega,by omega,by simp only [len]; omega⟩,by omega,by simp only [len,List.length_cons,List.length_nil]; omega,?_⟩
   refine zfp w u n hw a b _ d e ml cn cv cu ct ci hu K f (k+8) _ (by omega) (by omega) (by simp only [cat,List.length_append,List.length_cons,List.length_nil]; omega) ?_
   simp only [cat,List.append_assoc,List.cons_append,List.nil_append] at hK ⊢
   exact hK
  ·simp only [z1p,if_neg c] at hK
   exact z22 (by simp only [len]; omega) ⟨⟨hu.1,by simp only [len]; omega⟩,by simp only [len,List.length_cons,List.length_nil]; omega,hK⟩
theorem run_q177 (hp:ct.length≤140737488355328∧ci.length≤140737488355328) (K:KK) (hK:K (.tup [.one (dM (dueG ⟨⟨ws,fu⟩,up,⟨⟨tv,tk,tt⟩,tn⟩,vo,di⟩ ⟨cn,⟨cv,cu,ct⟩,ci⟩ u).1),.one (dI (dueG ⟨⟨ws,fu⟩,up,⟨⟨tv,tk,tt⟩,tn⟩,vo,di⟩ ⟨cn,⟨cv,cu,ct⟩,ci⟩ u).2)]) []):GD Γ_q177 fn_q177 0 K [.agg [dL ws,dI fu,dB up,dI tv,dL tk,dI tt,dI tn,dLb vo,dLb di],.agg [dI cn,dI cv,dI cu,.dat (.list .target) ct,dR ci],.one (dI u)] []:=by
 unfold dueG dueE duesG at hK
 simp only at hK
 have lv:((len vo:Nat):Int)=(vo.length:Int):=rfl
 have ld:((len di:Nat):Int)=(di.length:Int):=rfl
 have lc:((len ci:Nat):Int)=(ci.length:Int):=rfl
 have lt:((len ct:Nat):Int)=(ct.length:Int):=rfl
 obtain ⟨s,hs⟩:∃ s,ofG ⟨ws,fu⟩=s:=⟨_,rfl⟩
 rw [hs] at hK
 refine ⟨7+1,?_⟩
 rw [z02,q177_vc _ _ _ _ _ _ _ _ _ _ _ _ _ _ _ _ _ _ rfl _ rfl _ rfl _ rfl,hs,lv,ld,lc,lt]
 refine z1c (fun h=>?_) (fun h=>?_)
 ·rw [if_neg h,if_neg h] at hK; exact hK
 have hc:z0t ⟨⟨ws,fu⟩,up,⟨⟨tv,tk,tt⟩,tn⟩,vo,di⟩=0:=z47 h
 obtain ⟨_,v1,v2,v3,_⟩:=z0n hc
 simp only at v1 v2 v3
 rw [if_pos h] at hK
 by_cases c1:s.n=0∨s.ended=true
 ·rw [if_pos c1,if_neg (by decide)] at hK
  exact z27 (fun _=>hK) (fun q=>z97 (c1.resolve_left q) hK)
 rw [if_neg c1] at hK
 simp only [not_or,Bool.not_eq_true] at c1
 refine zfd c1.1 (z6r c1.2 ?_)
 by_cases c2:u<0∨(vo.length:Int)≤u∨cn≠s.n∨(ci.length:Int)≤u∨(ct.length:Int)≤u
 ·rw [if_pos c2,if_neg (by decide)] at hK
  exact z1a (fun _=>hK) (fun q1=>z0l (fun _=>hK) (fun q2=>z1c (fun _=>hK) (fun q3=>z0l (fun _=>hK) (fun q4=>z97 (z1u.2 (by rw [z11] at q2 q4; omega)) hK))))
 rw [if_neg c2,if_pos rfl] at hK
 refine z22 (by omega) (z6r (z11.2 (by omega)) (ne_f (by omega) (z6r (z11.2 (by omega)) (z6r (z11.2 (by omega)) ?_))))
 have dec:s.commit=true∨s.abort=true→br (nth di (Int.toNat u) (Ty.dflt Ty.bool)) (K (.tup [.one (dM []),.one (dI (0:Int))]) [])
   (K (.tup [.one (dM ((⟨kindG s s.n,u,s.n,(0:Int),(0:Int),[],false⟩:Vm.Message)::[])),.one (dI (0:Int))]) []):=fun hd=>by
  rw [if_pos hd] at hK
  refine z0l (fun q=>?_) (fun q=>?_)
  ·rw [if_pos (by exact q)] at hK; exact hK
  ·rw [if_neg (by exact Bool.eq_false_iff.1 q)] at hK; exact hK
 refine z0l (fun d1=>⟨⟨by omega,by omega⟩,dec (.inl d1)⟩) (fun d1=>z0l (fun d2=>⟨⟨by omega,by omega⟩,dec (.inr d2)⟩) (fun d2=>⟨⟨by omega,by omega⟩,?_⟩))
 rw [if_neg (by rw [d1,d2]; simp)] at hK
 refine z0l (fun q=>?_) (fun q=>⟨⟨by omega,by omega⟩,?_⟩)
 ·rw [if_pos (by exact q)] at hK; exact hK
 rw [if_neg (by exact Bool.eq_false_iff.1 q)] at hK
 unfold imageM at hK
 simp only at hK
 obtain ⟨w,hw⟩:∃ w,nth ci (Int.toNat u) (Ty.dflt (Ty.list Ty.int))=w:=⟨_,rfl⟩
 have hw':nth ci (Int.toNat u) []=w:=hw
 rw [hw]
 rw [hw'] at hK
 have lw:((len w:Nat):Int)=(w.length:Int):=rfl
 rw [lw]
 by_cases c3:40<w.length
 ·rw [if_pos c3] at hK
  exact z2o (by omega) hK
 ·rw [if_neg c3] at hK
  have hl:=zfp w u s.n (by omega) 0 s.version s.commit s.abort s.ended [] cn cv cu ct ci ⟨by omega,by omega⟩ K 6 0 [] (by omega) (by omega) (by simp) (by rw [List.nil_append]; exact hK)
  exact z22 (by omega) hl
theorem sound_q177:z03 Tryz.prog tab n_q177 c_q177:=z01 ok_q177 hg_q177 (by
 intro vs bs p v bs' h hp
 unfold c_q177 at h
 split at h
 ·cases h
  exact ⟨by kernel_rfl,rfl,.inl (run_q177 _ _ _ _ _ _ _ _ _ _ _ _ _ _ _ hp.1 _ ⟨rfl,rfl⟩)⟩
 ·cases h)

def c_q237:z00:=fun vs bs=>match vs,bs with
 | [.one (.ptr 0 0),.one (.dat .int k)],[.box [.dat (.list .str) vb,.dat (.list .signed) vs,.dat (.list .int) ws,.dat .int fu,.dat .bool up,.dat .int tv,.dat (.list .int) tk,.dat .int tt,.dat .int tn,.dat (.list .bool) vo,.dat (.list .bool) di,.own 1,.own 2,.own 3,.dat .int now],.arr .unitd us,.arr .campaign cs,.arr .message net]=>some (some (okW ⟨vb,vs,⟨⟨ws,fu⟩,up,⟨⟨tv,tk,tt⟩,tn⟩,vo,di⟩,us,cs,net,now⟩=true),.one (dI (pokeV ⟨vb,vs,⟨⟨ws,fu⟩,up,⟨⟨tv,tk,tt⟩,tn⟩,vo,di⟩,us,cs,net,now⟩ k).2),[.box (cV (pokeV ⟨vb,vs,⟨⟨ws,fu⟩,up,⟨⟨tv,tk,tt⟩,tn⟩,vo,di⟩,us,cs,net,now⟩ k).1 (.own 4) (.own 5) (.own 6)),.dead,.dead,.dead,.arr .unitd (pokeV ⟨vb,vs,⟨⟨ws,fu⟩,up,⟨⟨tv,tk,tt⟩,tn⟩,vo,di⟩,us,cs,net,now⟩ k).1.units,.arr .campaign (pokeV ⟨vb,vs,⟨⟨ws,fu⟩,up,⟨⟨tv,tk,tt⟩,tn⟩,vo,di⟩,us,cs,net,now⟩ k).1.campaigns,.arr .message (pokeV ⟨vb,vs,⟨⟨ws,fu⟩,up,⟨⟨tv,tk,tt⟩,tn⟩,vo,di⟩,us,cs,net,now⟩ k).1.net])
 | _,_=>none
def Γ_q237:Ctx:=[(n_q169,c_q169),(n_q177,c_q177),(n_q232,c_q232)]
theorem ok_q237:Ok Tryz.prog tab Γ_q237:=(((ok_nil.c hg_q232 sound_q232).c hg_q177 sound_q177).c hg_q169 sound_q169)
theorem q237_vc (vb:List (List UInt8)) (vs:List Signed) (ws:List Int) (fu:Int) (up:Bool) (tv:Int) (tk:List Int) (tt tn:Int) (vo di:List Bool) (us:List UnitD) (cs:List Campaign) (net:List Message) (now k:Int) (rec:RK) (K:KK) v0 (hv0:v0=readG ⟨⟨ws,fu⟩,up,⟨⟨tv,tk,tt⟩,tn⟩,vo,di⟩) v1 (hv1:v1=dueG ⟨⟨ws,fu⟩,up,⟨⟨tv,tk,tt⟩,tn⟩,vo,di⟩ ⟨(nth cs (Int.toNat (w64 (v0.fst.n-1))) (Ty.dflt Ty.campaign)).n,⟨((nth cs (Int.toNat (w64 (v0.fst.n-1))) (Ty.dflt Ty.campaign)).r).version,((nth cs (Int.toNat (w64 (v0.fst.n-1))) (Ty.dflt Ty.campaign)).r).til,((nth cs (Int.toNat (w64 (v0.fst.n-1))) (Ty.dflt Ty.campaign)).r).targets⟩,(nth cs (Int.toNat (w64 (v0.fst.n-1))) (Ty.dflt Ty.campaign)).images⟩ k) v2 (hv2:v2=smMW v1.fst) v3 (hv3:v3=sendM net v1.fst) v4 (hv4:v4=dueG ⟨⟨ws,fu⟩,up,⟨⟨tv,tk,tt⟩,tn⟩,vo,di⟩ ⟨0,⟨0,0,[]⟩,[]⟩ k) v5 (hv5:v5=smMW v4.fst) v6 (hv6:v6=sendM net v4.fst):segO Γ_q237 tab fn_q237 4 K rec [.code (z05 fn_q237)] (initN [.one (.ptr 0 0),.one (dI k)] [.box (aV vb vs ws fu up tv tk tt tn vo di (.own 1) (.own 2) (.own 3) now),.arr Ty.unitd us,.arr Ty.campaign cs,.arr Ty.message net])=(
 br (lti (len cs:Int) v0.fst.n)
 (K (.one (dI 5)) [.box (aV vb vs ws fu up tv tk tt tn vo di (.own 4) (.own 5) (.own 6) now),.dead,.dead,.dead,.arr Ty.unitd us,.arr Ty.campaign cs,.arr Ty.message net])
 (br (lti 0 v0.fst.n)
 (((0:Int)≤w64 (v0.fst.n-1)∧w64 (v0.fst.n-1)<(len cs:Int)) ∧
 Int.toNat (w64 (v0.fst.n-1))<len cs ∧
 (List.length ((nth cs (Int.toNat (w64 (v0.fst.n-1))) (Ty.dflt Ty.campaign)).r).targets≤140737488355328∧List.length (nth cs (Int.toNat (w64 (v0.fst.n-1))) (Ty.dflt Ty.campaign)).images≤140737488355328) ∧
 br (!(eqi v1.snd 0))
 (K (.one (dI v1.snd)) [.box (aV vb vs ws fu up tv tk tt tn vo di (.own 4) (.own 5) (.own 6) now),.dead,.dead,.dead,.arr Ty.unitd us,.arr Ty.campaign cs,.arr Ty.message net])
 ((List.length net≤1000∧List.length v1.fst≤1000∧v2=true) ∧
 K (.one (dI 0)) [.box (aV vb vs ws fu up tv tk tt tn vo di (.own 4) (.own 5) (.own 6) now),.dead,.dead,.dead,.arr Ty.unitd us,.arr Ty.campaign cs,.arr Ty.message v3]))
 ((List.length ([]:List Int)≤140737488355328∧List.length ([]:List Int)≤140737488355328) ∧
 br (!(eqi v4.snd 0))
 (K (.one (dI v4.snd)) [.box (aV vb vs ws fu up tv tk tt tn vo di (.own 4) (.own 5) (.own 6) now),.dead,.dead,.dead,.arr Ty.unitd us,.arr Ty.campaign cs,.arr Ty.message net])
 ((List.length net≤1000∧List.length v4.fst≤1000∧v5=true) ∧
 K (.one (dI 0)) [.box (aV vb vs ws fu up tv tk tt tn vo di (.own 4) (.own 5) (.own 6) now),.dead,.dead,.dead,.arr Ty.unitd us,.arr Ty.campaign cs,.arr Ty.message v6])))):=by subst_vars; kernel_rfl

theorem run_q237 (hp:okW ⟨vb,vs,⟨⟨ws,fu⟩,up,⟨⟨tv,tk,tt⟩,tn⟩,vo,di⟩,us,cs,net,now⟩=true) (K:KK) (hK:K (.one (dI (pokeV ⟨vb,vs,⟨⟨ws,fu⟩,up,⟨⟨tv,tk,tt⟩,tn⟩,vo,di⟩,us,cs,net,now⟩ k).2)) [.box (cV (pokeV ⟨vb,vs,⟨⟨ws,fu⟩,up,⟨⟨tv,tk,tt⟩,tn⟩,vo,di⟩,us,cs,net,now⟩ k).1 (.own 4) (.own 5) (.own 6)),.dead,.dead,.dead,.arr .unitd (pokeV ⟨vb,vs,⟨⟨ws,fu⟩,up,⟨⟨tv,tk,tt⟩,tn⟩,vo,di⟩,us,cs,net,now⟩ k).1.units,.arr .campaign (pokeV ⟨vb,vs,⟨⟨ws,fu⟩,up,⟨⟨tv,tk,tt⟩,tn⟩,vo,di⟩,us,cs,net,now⟩ k).1.campaigns,.arr .message (pokeV ⟨vb,vs,⟨⟨ws,fu⟩,up,⟨⟨tv,tk,tt⟩,tn⟩,vo,di⟩,us,cs,net,now⟩ k).1.net]):GN Γ_q237 fn_q237 4 K [.one (.ptr 0 0),.one (dI k)] [.box (aV vb vs ws fu up tv tk tt tn vo di (.own 1) (.own 2) (.own 3) now),.arr .unitd us,.arr .campaign cs,.arr .message net]:=by
 refine ⟨1,?_⟩
 rw [z1i,q237_vc _ _ _ _ _ _ _ _ _ _ _ _ _ _ _ _ _ _ _ rfl _ rfl _ rfl _ rfl _ rfl _ rfl _ rfl]
 have H:=z34.1 hp
 have h24:=H.n24
 have h8:=H.c8
 obtain ⟨u1,u4⟩:=H.units4
 have hC:=H.camp
 simp only at u4 h24 h8 hC
 obtain ⟨v,hv⟩:∃ v:Vm.Vehicle,v=⟨vb,vs,⟨⟨ws,fu⟩,up,⟨⟨tv,tk,tt⟩,tn⟩,vo,di⟩,us,cs,net,now⟩:=⟨_,rfl⟩
 rw [← hv] at hK
 have hgv:v.g=⟨⟨ws,fu⟩,up,⟨⟨tv,tk,tt⟩,tn⟩,vo,di⟩:=by rw [hv]
 have hcl:v.campaigns=cs:=by rw [hv]
 obtain ⟨n0,n8⟩:=readG_n ⟨⟨ws,fu⟩,up,⟨⟨tv,tk,tt⟩,tn⟩,vo,di⟩
 obtain ⟨n,hn⟩:∃ n,(readG ⟨⟨ws,fu⟩,up,⟨⟨tv,tk,tt⟩,tn⟩,vo,di⟩).1.n=n:=⟨_,rfl⟩
 rw [hn] at n0 n8 ⊢
 have hnv:(readG v.g).1.n=n:=by rw [hgv]; exact hn
 rw [z0e (n:=n-1) (by omega) (by omega)]
 refine z1a (fun h=>?_) (fun h=>?_)
 ·have e:pokeV v k=(v,5):=if_pos (by rw [hcl,hnv]; simp only [len] at h; omega)
  rw [e,hv] at hK; exact hK
 have E1:pokeV v k=_:=if_neg (show ¬ (v.campaigns.length:Int)<(readG v.g).1.n by rw [hcl,hnv]; simp only [len] at h; omega)
 have fin:∀ c,z0s v=c→pokeV v k=if (dueG ⟨⟨ws,fu⟩,up,⟨⟨tv,tk,tt⟩,tn⟩,vo,di⟩ c k).2=0 then (sendV v (dueG ⟨⟨ws,fu⟩,up,⟨⟨tv,tk,tt⟩,tn⟩,vo,di⟩ c k).1,0) else (v,(dueG ⟨⟨ws,fu⟩,up,⟨⟨tv,tk,tt⟩,tn⟩,vo,di⟩ c k).2):=fun c hc=>by rw [E1,hc,hgv]
 refine z1a (fun h1=>?_) (fun h1=>?_)
 ·have hc:z0s v=nth cs (n-1).toNat (Ty.dflt Ty.campaign):=by
   unfold z0s
   rw [hnv,if_pos h1,hcl]; rfl
  have E2:=fin _ hc
  have hi:(n-1).toNat<cs.length:=by simp only [len] at h; omega
  obtain ⟨c2,c3,_⟩:=hC _ (z1g hi (Ty.dflt Ty.campaign))
  obtain ⟨c,hce⟩:∃ c,nth cs (n-1).toNat (Ty.dflt Ty.campaign)=c:=⟨_,rfl⟩
  rw [hce] at E2 c2 c3 ⊢
  have hd:=zct ⟨⟨ws,fu⟩,up,⟨⟨tv,tk,tt⟩,tn⟩,vo,di⟩ c k
  refine ⟨⟨by omega,by simp only [len]; omega⟩,by simp only [len]; omega,⟨by omega,by omega⟩,z1c (fun h2=>?_) (fun h2=>⟨⟨by omega,hd.1,hd.2⟩,?_⟩)⟩
  ·have e:=E2.trans (if_neg h2)
   rw [e,hv] at hK; exact hK
  ·have e:=E2.trans (if_pos h2)
   rw [e,hv] at hK; exact hK
 ·have hc:z0s v=noCampaign:=by
   unfold z0s
   rw [hnv,if_neg (by omega)]
  have E2:=fin _ hc
  have hd:=zct ⟨⟨ws,fu⟩,up,⟨⟨tv,tk,tt⟩,tn⟩,vo,di⟩ noCampaign k
  refine ⟨⟨by simp,by simp⟩,z1c (fun h2=>?_) (fun h2=>⟨⟨by omega,hd.1,hd.2⟩,?_⟩)⟩
  ·have e:=E2.trans (if_neg h2)
   rw [e,hv] at hK; exact hK
  ·have e:=E2.trans (if_pos h2)
   rw [e,hv] at hK; exact hK
theorem sound_q237:z03 Tryz.prog tab n_q237 c_q237:=z01 ok_q237 hg_q237 (by
 intro vs bs p v bs' h hp
 unfold c_q237 at h
 split at h
 ·cases h
  exact ⟨by kernel_rfl,rfl,.inr (.inr (run_q237 _ _ _ _ _ _ _ _ _ _ _ _ _ _ _ _ hp.1 _ ⟨rfl,rfl⟩))⟩
 ·cases h)

def c_q134:z00:=fun vs bs=>match vs,bs with
 | [.agg [.dat (.list .int) ws,.dat .int fu,.dat .bool up,.dat .int un,.dat .int ug]],[]=>some (none,.tup [.agg [dI (readU ⟨⟨ws,fu⟩,up,un,ug⟩).1.slot,dI (readU ⟨⟨ws,fu⟩,up,un,ug⟩).1.by_,dI (readU ⟨⟨ws,fu⟩,up,un,ug⟩).1.ready],.one (dI (readU ⟨⟨ws,fu⟩,up,un,ug⟩).2)],[])
 | _,_=>none
def Γ_q134:Ctx:=[(n_q133,c_q133),(n_q131,c_q131)]
theorem ok_q134:Ok Tryz.prog tab Γ_q134:=((ok_nil.c hg_q131 sound_q131).c hg_q133 sound_q133)
theorem q134_vc (ws:List Int) (fu:Int) (up:Bool) (un ug:Int) (rec:RK) (K:KK) v0 (hv0:v0=z14 ⟨⟨ws,fu⟩,up,un,ug⟩) v1 (hv1:v1=ofU ⟨ws,fu⟩):segD Γ_q134 tab fn_q134 0 K rec [.code (z05 fn_q134)] (z07 [.agg [dL ws,dI fu,dB up,dI un,dI ug]] [])=(
 br (!(eqi v0 0))
 (K (.tup [.agg [dI (0:Int),dI (0:Int),dI (0:Int)],.one (dI v0)]) [])
 (K (.tup [.agg [dI v1.slot,dI v1.by_,dI v1.ready],.one (dI 0)]) [])):=by subst_vars; kernel_rfl

theorem run_q134 (K:KK) (hK:K (.tup [.agg [dI (readU ⟨⟨ws,fu⟩,up,un,ug⟩).1.slot,dI (readU ⟨⟨ws,fu⟩,up,un,ug⟩).1.by_,dI (readU ⟨⟨ws,fu⟩,up,un,ug⟩).1.ready],.one (dI (readU ⟨⟨ws,fu⟩,up,un,ug⟩).2)]) []):GD Γ_q134 fn_q134 0 K [.agg [dL ws,dI fu,dB up,dI un,dI ug]] []:=by
 refine ⟨1,?_⟩
 rw [z02,q134_vc _ _ _ _ _ _ _ _ rfl _ rfl]
 unfold readU at hK
 refine z1c (fun h=>?_) (fun h=>?_)
 ·rw [if_neg h] at hK; exact hK
 ·rw [if_pos h] at hK; exact hK
theorem sound_q134:z03 Tryz.prog tab n_q134 c_q134:=z01 ok_q134 hg_q134 (by
 intro vs bs p v bs' h hp
 unfold c_q134 at h
 split at h
 ·cases h
  exact ⟨by kernel_rfl,rfl,.inl (run_q134 _ _ _ _ _ _ ⟨rfl,rfl⟩)⟩
 ·cases h)

def c_q236:z00:=fun vs bs=>match vs,bs with
 | [.one (.ptr 0 0),.one (.dat .int k)],[.box [.dat (.list .str) vb,.dat (.list .signed) vs,.dat (.list .int) ws,.dat .int fu,.dat .bool up,.dat .int tv,.dat (.list .int) tk,.dat .int tt,.dat .int tn,.dat (.list .bool) vo,.dat (.list .bool) di,.own 1,.own 2,.own 3,.dat .int now],.arr .unitd us,.arr .campaign cs,.arr .message net]=>some (some (okW ⟨vb,vs,⟨⟨ws,fu⟩,up,⟨⟨tv,tk,tt⟩,tn⟩,vo,di⟩,us,cs,net,now⟩=true∧0≤k∧k<(us.length:Int)),.one (dI (asksV ⟨vb,vs,⟨⟨ws,fu⟩,up,⟨⟨tv,tk,tt⟩,tn⟩,vo,di⟩,us,cs,net,now⟩ k).2),[.box (cV (asksV ⟨vb,vs,⟨⟨ws,fu⟩,up,⟨⟨tv,tk,tt⟩,tn⟩,vo,di⟩,us,cs,net,now⟩ k).1 (.own 4) (.own 5) (.own 6)),.dead,.dead,.dead,.arr .unitd (asksV ⟨vb,vs,⟨⟨ws,fu⟩,up,⟨⟨tv,tk,tt⟩,tn⟩,vo,di⟩,us,cs,net,now⟩ k).1.units,.arr .campaign (asksV ⟨vb,vs,⟨⟨ws,fu⟩,up,⟨⟨tv,tk,tt⟩,tn⟩,vo,di⟩,us,cs,net,now⟩ k).1.campaigns,.arr .message (asksV ⟨vb,vs,⟨⟨ws,fu⟩,up,⟨⟨tv,tk,tt⟩,tn⟩,vo,di⟩,us,cs,net,now⟩ k).1.net])
 | _,_=>none
def Γ_q236:Ctx:=[(n_q134,c_q134),(n_q232,c_q232)]
theorem ok_q236:Ok Tryz.prog tab Γ_q236:=((ok_nil.c hg_q232 sound_q232).c hg_q134 sound_q134)
theorem q236_vc (vb:List (List UInt8)) (vs:List Signed) (ws:List Int) (fu:Int) (up:Bool) (tv:Int) (tk:List Int) (tt tn:Int) (vo di:List Bool) (us:List UnitD) (cs:List Campaign) (net:List Message) (now k:Int) (rec:RK) (K:KK) v0 (hv0:v0=readU ⟨⟨((nth us (Int.toNat k) (Ty.dflt Ty.unitd)).f).words,((nth us (Int.toNat k) (Ty.dflt Ty.unitd)).f).fuel⟩,(nth us (Int.toNat k) (Ty.dflt Ty.unitd)).up,(nth us (Int.toNat k) (Ty.dflt Ty.unitd)).n,(nth us (Int.toNat k) (Ty.dflt Ty.unitd)).got⟩) v1 (hv1:v1=smMW ((⟨7,k,v0.fst.ready,0,0,[],false⟩:Vm.Message)::[])) v2 (hv2:v2=sendM net ((⟨7,k,v0.fst.ready,0,0,[],false⟩:Vm.Message)::[])) v3 (hv3:v3=K (.one (dI 12)) [.box (aV vb vs ws fu up tv tk tt tn vo di (.own 4) (.own 5) (.own 6) now),.dead,.dead,.dead,.arr Ty.unitd us,.arr Ty.campaign cs,.arr Ty.message net]):segO Γ_q236 tab fn_q236 4 K rec [.code (z05 fn_q236)] (initN [.one (.ptr 0 0),.one (dI k)] [.box (aV vb vs ws fu up tv tk tt tn vo di (.own 1) (.own 2) (.own 3) now),.arr Ty.unitd us,.arr Ty.campaign cs,.arr Ty.message net])=(
 ((0:Int)≤k∧k<(len us:Int)) ∧
 Int.toNat k<len us ∧
 br (!(nth us (Int.toNat k) (Ty.dflt Ty.unitd)).up)
 (K (.one (dI 7)) [.box (aV vb vs ws fu up tv tk tt tn vo di (.own 4) (.own 5) (.own 6) now),.dead,.dead,.dead,.arr Ty.unitd us,.arr Ty.campaign cs,.arr Ty.message net])
 (br (lti v0.fst.ready 1)
 v3
 (br (lti 8 v0.fst.ready)
 v3
 ((List.length net≤1000∧List.length ((⟨7,k,v0.fst.ready,0,0,[],false⟩:Vm.Message)::[])≤1000∧v1=true) ∧
 K (.one (dI 0)) [.box (aV vb vs ws fu up tv tk tt tn vo di (.own 4) (.own 5) (.own 6) now),.dead,.dead,.dead,.arr Ty.unitd us,.arr Ty.campaign cs,.arr Ty.message v2])))):=by subst_vars; kernel_rfl

theorem run_q236 (hp:okW ⟨vb,vs,⟨⟨ws,fu⟩,up,⟨⟨tv,tk,tt⟩,tn⟩,vo,di⟩,us,cs,net,now⟩=true∧0≤k∧k<(us.length:Int)) (K:KK) (hK:K (.one (dI (asksV ⟨vb,vs,⟨⟨ws,fu⟩,up,⟨⟨tv,tk,tt⟩,tn⟩,vo,di⟩,us,cs,net,now⟩ k).2)) [.box (cV (asksV ⟨vb,vs,⟨⟨ws,fu⟩,up,⟨⟨tv,tk,tt⟩,tn⟩,vo,di⟩,us,cs,net,now⟩ k).1 (.own 4) (.own 5) (.own 6)),.dead,.dead,.dead,.arr .unitd (asksV ⟨vb,vs,⟨⟨ws,fu⟩,up,⟨⟨tv,tk,tt⟩,tn⟩,vo,di⟩,us,cs,net,now⟩ k).1.units,.arr .campaign (asksV ⟨vb,vs,⟨⟨ws,fu⟩,up,⟨⟨tv,tk,tt⟩,tn⟩,vo,di⟩,us,cs,net,now⟩ k).1.campaigns,.arr .message (asksV ⟨vb,vs,⟨⟨ws,fu⟩,up,⟨⟨tv,tk,tt⟩,tn⟩,vo,di⟩,us,cs,net,now⟩ k).1.net]):GN Γ_q236 fn_q236 4 K [.one (.ptr 0 0),.one (dI k)] [.box (aV vb vs ws fu up tv tk tt tn vo di (.own 1) (.own 2) (.own 3) now),.arr .unitd us,.arr .campaign cs,.arr .message net]:=by
 obtain ⟨p1,p2,p3⟩:=hp
 refine ⟨1,?_⟩
 rw [z1i,q236_vc _ _ _ _ _ _ _ _ _ _ _ _ _ _ _ _ _ _ _ rfl _ rfl _ rfl _ rfl]
 have H:=z34.1 p1
 have h24:=H.n24
 obtain ⟨u1,u4⟩:=H.units4
 simp only at u4 h24
 obtain ⟨v,hv⟩:∃ v:Vm.Vehicle,v=⟨vb,vs,⟨⟨ws,fu⟩,up,⟨⟨tv,tk,tt⟩,tn⟩,vo,di⟩,us,cs,net,now⟩:=⟨_,rfl⟩
 rw [← hv] at hK
 have hu:unitAt v k=nth us k.toNat (Ty.dflt Ty.unitd):=by rw [hv]; rfl
 obtain ⟨u,hue⟩:∃ u,nth us k.toNat (Ty.dflt Ty.unitd)=u:=⟨_,rfl⟩
 rw [hue] at hu ⊢
 refine ⟨⟨p2,by simp only [len]; omega⟩,by simp only [len]; omega,z4n (fun h=>?_) (fun h=>?_)⟩
 ·have e:asksV v k=(v,7):=if_neg (by rw [hu,h]; simp)
  rw [e,hv] at hK; exact hK
 have E1:asksV v k=_:=if_pos (by rw [hu]; exact h)
 rw [hu] at E1
 refine z1a (fun h1=>?_) (fun h1=>z1a (fun h2=>?_) (fun h2=>⟨⟨by omega,by simp,rfl⟩,?_⟩))
 ·have e:=E1.trans (if_pos (.inl h1))
  rw [e,hv] at hK; exact hK
 ·have e:=E1.trans (if_pos (.inr h2))
  rw [e,hv] at hK; exact hK
 ·have e:=E1.trans (if_neg (show ¬ ((readU u).1.ready<1∨8<(readU u).1.ready) from fun q=>by
   have h1':(1:Int)≤(readU u).1.ready:=h1
   have h2':(readU u).1.ready≤8:=h2
   omega))
  rw [e,hv] at hK; exact hK
theorem sound_q236:z03 Tryz.prog tab n_q236 c_q236:=z01 ok_q236 hg_q236 (by
 intro vs bs p v bs' h hp
 unfold c_q236 at h
 split at h
 ·cases h
  exact ⟨by kernel_rfl,rfl,.inr (.inr (run_q236 _ _ _ _ _ _ _ _ _ _ _ _ _ _ _ _ hp.1 _ ⟨rfl,rfl⟩))⟩
 ·cases h)

def c_q239:z00:=fun vs bs=>match vs,bs with
 | [.one (.ptr 0 0),.agg [.dat .int hk,.dat .int hu,.dat .int hn,.dat (.list .root) rs,.dat (.list (.list .int)) rg,.dat .int ov,.dat .int ou,.dat (.list .target) ts,.dat (.list .int) sg,.dat (.list (.list .int)) im]],[.box [.dat (.list .str) vb,.dat (.list .signed) vs,.dat (.list .int) ws,.dat .int fu,.dat .bool up,.dat .int tv,.dat (.list .int) tk,.dat .int tt,.dat .int tn,.dat (.list .bool) vo,.dat (.list .bool) di,.own 1,.own 2,.own 3,.dat .int now],.arr .unitd us,.arr .campaign cs,.arr .message net]=>some (some (okW ⟨vb,vs,⟨⟨ws,fu⟩,up,⟨⟨tv,tk,tt⟩,tn⟩,vo,di⟩,us,cs,net,now⟩=true),.one (dI (z0y ⟨vb,vs,⟨⟨ws,fu⟩,up,⟨⟨tv,tk,tt⟩,tn⟩,vo,di⟩,us,cs,net,now⟩ ⟨hk,hu,hn,⟨rs,rg,⟨ov,ou,ts⟩,sg,im⟩⟩).2),[.box (cV (z0y ⟨vb,vs,⟨⟨ws,fu⟩,up,⟨⟨tv,tk,tt⟩,tn⟩,vo,di⟩,us,cs,net,now⟩ ⟨hk,hu,hn,⟨rs,rg,⟨ov,ou,ts⟩,sg,im⟩⟩).1 (.own 4) (.own 5) (.own 6)),.dead,.dead,.dead,.arr .unitd (z0y ⟨vb,vs,⟨⟨ws,fu⟩,up,⟨⟨tv,tk,tt⟩,tn⟩,vo,di⟩,us,cs,net,now⟩ ⟨hk,hu,hn,⟨rs,rg,⟨ov,ou,ts⟩,sg,im⟩⟩).1.units,.arr .campaign (z0y ⟨vb,vs,⟨⟨ws,fu⟩,up,⟨⟨tv,tk,tt⟩,tn⟩,vo,di⟩,us,cs,net,now⟩ ⟨hk,hu,hn,⟨rs,rg,⟨ov,ou,ts⟩,sg,im⟩⟩).1.campaigns,.arr .message (z0y ⟨vb,vs,⟨⟨ws,fu⟩,up,⟨⟨tv,tk,tt⟩,tn⟩,vo,di⟩,us,cs,net,now⟩ ⟨hk,hu,hn,⟨rs,rg,⟨ov,ou,ts⟩,sg,im⟩⟩).1.net])
 | _,_=>none
def Γ_q239:Ctx:=[(n_q233,c_q233),(n_q238,c_q238),(n_q235,c_q235),(n_q181,c_q181),(n_q237,c_q237),(n_q236,c_q236)]
theorem ok_q239:Ok Tryz.prog tab Γ_q239:=((((((ok_nil.c hg_q236 sound_q236).c hg_q237 sound_q237).c hg_q181 sound_q181).c hg_q235 sound_q235).c hg_q238 sound_q238).c hg_q233 sound_q233)
theorem q239_vc (vb:List (List UInt8)) (vs:List Signed) (ws:List Int) (fu:Int) (up:Bool) (tv:Int) (tk:List Int) (tt tn:Int) (vo di:List Bool) (us:List UnitD) (cs:List Campaign) (net:List Message) (now hk hu hn:Int) (rs:List Root) (rg:List (List Int)) (ov ou:Int) (ts:List Vm.Target) (sg:List Int) (im:List (List Int)) (rec:RK) (K:KK) v0 (hv0:v0=okW ⟨vb,vs,⟨⟨ws,fu⟩,up,⟨⟨tv,tk,tt⟩,tn⟩,vo,di⟩,us,cs,net,now⟩) v1 (hv1:v1=z0w ⟨vb,vs,⟨⟨ws,fu⟩,up,⟨⟨tv,tk,tt⟩,tn⟩,vo,di⟩,us,cs,net,now⟩ ⟨rs,rg,⟨ov,ou,ts⟩,sg,im⟩) v2 (hv2:v2=netV ⟨vb,vs,⟨⟨ws,fu⟩,up,⟨⟨tv,tk,tt⟩,tn⟩,vo,di⟩,us,cs,net,now⟩ hk hn) v3 (hv3:v3=powerV ⟨vb,vs,⟨⟨ws,fu⟩,up,⟨⟨tv,tk,tt⟩,tn⟩,vo,di⟩,us,cs,net,now⟩ hk hu hn) v4 (hv4:v4=giveG ⟨⟨ws,fu⟩,up,⟨⟨tv,tk,tt⟩,tn⟩,vo,di⟩) v5 (hv5:v5=pokeV ⟨vb,vs,⟨⟨ws,fu⟩,up,⟨⟨tv,tk,tt⟩,tn⟩,vo,di⟩,us,cs,net,now⟩ hu) v6 (hv6:v6=asksV ⟨vb,vs,⟨⟨ws,fu⟩,up,⟨⟨tv,tk,tt⟩,tn⟩,vo,di⟩,us,cs,net,now⟩ hu) v8 (hv8:v8=K (.one (dI v2.snd)) [.box (cV v2.fst (.own 4) (.own 5) (.own 6)),.dead,.dead,.dead,.arr Ty.unitd v2.fst.units,.arr Ty.campaign v2.fst.campaigns,.arr Ty.message v2.fst.net]) v11 (hv11:v11=br (eqi hk 10)
 (br (eqi now 100000)
 (K (.one (dI 8)) [.box (aV vb vs ws fu up tv tk tt tn vo di (.own 4) (.own 5) (.own 6) now),.dead,.dead,.dead,.arr Ty.unitd us,.arr Ty.campaign cs,.arr Ty.message net])
 (K (.one (dI 0)) [.box [.dat (Ty.list Ty.str) vb,.dat (Ty.list Ty.signed) vs,dL ws,dI fu,dB up,dI tv,dL tk,dI tt,dI tn,dLb vo,dLb di,.own 4,.own 5,.own 6,dI (w64 (now+1))],.dead,.dead,.dead,.arr Ty.unitd us,.arr Ty.campaign cs,.arr Ty.message net]))
 (K (.one (dI 4)) [.box (aV vb vs ws fu up tv tk tt tn vo di (.own 4) (.own 5) (.own 6) now),.dead,.dead,.dead,.arr Ty.unitd us,.arr Ty.campaign cs,.arr Ty.message net])) v12 (hv12:v12=K (.one (dI 5)) [.box (aV vb vs ws fu up tv tk tt tn vo di (.own 4) (.own 5) (.own 6) now),.dead,.dead,.dead,.arr Ty.unitd us,.arr Ty.campaign cs,.arr Ty.message net]) v10 (hv10:v10=br (lti hu 0)
 v12
 (br (lei (len us:Int) hu)
 v12
 (br (eqi hk 2)
 (v0=true ∧
 K (.one (dI v5.snd)) [.box (cV v5.fst (.own 4) (.own 5) (.own 6)),.dead,.dead,.dead,.arr Ty.unitd v5.fst.units,.arr Ty.campaign v5.fst.campaigns,.arr Ty.message v5.fst.net])
 ((v0=true∧(0:Int)≤hu∧hu<(((List.length us):Nat):Int)) ∧
 K (.one (dI v6.snd)) [.box (cV v6.fst (.own 4) (.own 5) (.own 6)),.dead,.dead,.dead,.arr Ty.unitd v6.fst.units,.arr Ty.campaign v6.fst.campaigns,.arr Ty.message v6.fst.net])))) v9 (hv9:v9=br (eqi hk 8)
 (br (eqi v4.snd 0)
 (K (.one (dI v4.snd)) [.box [.dat (Ty.list Ty.str) vb,.dat (Ty.list Ty.signed) vs,dL v4.fst.f.words,dI v4.fst.f.fuel,dB v4.fst.up,dI v4.fst.t.r.version,dL v4.fst.t.r.keys,dI v4.fst.t.r.thr,dI v4.fst.t.version,dLb v4.fst.voted,dLb v4.fst.did,.own 4,.own 5,.own 6,dI now],.dead,.dead,.dead,.arr Ty.unitd us,.arr Ty.campaign cs,.arr Ty.message net])
 (K (.one (dI v4.snd)) [.box (aV vb vs ws fu up tv tk tt tn vo di (.own 4) (.own 5) (.own 6) now),.dead,.dead,.dead,.arr Ty.unitd us,.arr Ty.campaign cs,.arr Ty.message net]))
 (br (eqi hk 2)
 (br (eqi hk 2)
 v10
 v11)
 (br (eqi hk 9)
 v10
 v11))) v13 (hv13:v13=K (.one (dI v3.snd)) [.box (cV v3.fst (.own 4) (.own 5) (.own 6)),.dead,.dead,.dead,.arr Ty.unitd v3.fst.units,.arr Ty.campaign v3.fst.campaigns,.arr Ty.message v3.fst.net]) v7 (hv7:v7=br (eqi hk 6)
 (br (eqi hk 6)
 (v0=true ∧
 v13)
 v9)
 (br (eqi hk 7)
 (v0=true ∧
 v13)
 v9)):segO Γ_q239 tab fn_q239 4 K rec [.code (z05 fn_q239)] (initN [.one (.ptr 0 0),.agg [dI hk,dI hu,dI hn,.dat (Ty.list Ty.root) rs,dR rg,dI ov,dI ou,.dat (Ty.list Ty.target) ts,dL sg,dR im]] [.box (aV vb vs ws fu up tv tk tt tn vo di (.own 1) (.own 2) (.own 3) now),.arr Ty.unitd us,.arr Ty.campaign cs,.arr Ty.message net])=(
 br (eqi hk 1)
 (v0=true ∧
 K (.one (dI v1.snd)) [.box (cV v1.fst (.own 4) (.own 5) (.own 6)),.dead,.dead,.dead,.arr Ty.unitd v1.fst.units,.arr Ty.campaign v1.fst.campaigns,.arr Ty.message v1.fst.net])
 (br (eqi hk 3)
 (br (eqi hk 3)
 (v0=true ∧
 v8)
 v7)
 (br (eqi hk 4)
 (br (eqi hk 4)
 (v0=true ∧
 v8)
 v7)
 (br (eqi hk 5)
 (v0=true ∧
 v8)
 v7)))):=by subst_vars; kernel_rfl

theorem run_q239 (hp:okW ⟨vb,vs,⟨⟨ws,fu⟩,up,⟨⟨tv,tk,tt⟩,tn⟩,vo,di⟩,us,cs,net,now⟩=true) (K:KK) (hK:K (.one (dI (z0y ⟨vb,vs,⟨⟨ws,fu⟩,up,⟨⟨tv,tk,tt⟩,tn⟩,vo,di⟩,us,cs,net,now⟩ ⟨hk,hu,hn,⟨rs,rg,⟨ov,ou,ts⟩,sg,im⟩⟩).2)) [.box (cV (z0y ⟨vb,vs,⟨⟨ws,fu⟩,up,⟨⟨tv,tk,tt⟩,tn⟩,vo,di⟩,us,cs,net,now⟩ ⟨hk,hu,hn,⟨rs,rg,⟨ov,ou,ts⟩,sg,im⟩⟩).1 (.own 4) (.own 5) (.own 6)),.dead,.dead,.dead,.arr .unitd (z0y ⟨vb,vs,⟨⟨ws,fu⟩,up,⟨⟨tv,tk,tt⟩,tn⟩,vo,di⟩,us,cs,net,now⟩ ⟨hk,hu,hn,⟨rs,rg,⟨ov,ou,ts⟩,sg,im⟩⟩).1.units,.arr .campaign (z0y ⟨vb,vs,⟨⟨ws,fu⟩,up,⟨⟨tv,tk,tt⟩,tn⟩,vo,di⟩,us,cs,net,now⟩ ⟨hk,hu,hn,⟨rs,rg,⟨ov,ou,ts⟩,sg,im⟩⟩).1.campaigns,.arr .message (z0y ⟨vb,vs,⟨⟨ws,fu⟩,up,⟨⟨tv,tk,tt⟩,tn⟩,vo,di⟩,us,cs,net,now⟩ ⟨hk,hu,hn,⟨rs,rg,⟨ov,ou,ts⟩,sg,im⟩⟩).1.net]):GN Γ_q239 fn_q239 4 K [.one (.ptr 0 0),.agg [dI hk,dI hu,dI hn,.dat (.list .root) rs,dR rg,dI ov,dI ou,.dat (.list .target) ts,dL sg,dR im]] [.box (aV vb vs ws fu up tv tk tt tn vo di (.own 1) (.own 2) (.own 3) now),.arr .unitd us,.arr .campaign cs,.arr .message net]:=by
 refine ⟨1,?_⟩
 rw [z1i,q239_vc _ _ _ _ _ _ _ _ _ _ _ _ _ _ _ _ _ _ _ _ _ _ _ _ _ _ _ _ rfl _ rfl _ rfl _ rfl _ rfl _ rfl _ rfl _ rfl _ rfl _ rfl _ rfl _ rfl _ rfl _ rfl]
 obtain ⟨v,hv⟩:∃ v:Vm.Vehicle,v=⟨vb,vs,⟨⟨ws,fu⟩,up,⟨⟨tv,tk,tt⟩,tn⟩,vo,di⟩,us,cs,net,now⟩:=⟨_,rfl⟩
 obtain ⟨o,ho⟩:∃ o:Vm.Offer,o=⟨rs,rg,⟨ov,ou,ts⟩,sg,im⟩:=⟨_,rfl⟩
 have hul:v.units.length=us.length:=by rw [hv]
 have hnow:v.now=now:=by rw [hv]
 have hgv:v.g=⟨⟨ws,fu⟩,up,⟨⟨tv,tk,tt⟩,tn⟩,vo,di⟩:=by rw [hv]
 rw [← hv,← ho] at hK
 have s1:hk=1→z0y v ⟨hk,hu,hn,o⟩=z0w v o:=fun h=>if_pos h
 have s3:hk=3∨hk=4∨hk=5→z0y v ⟨hk,hu,hn,o⟩=netV v hk hn:=fun h=>(if_neg (show ¬ hk=1 by omega)).trans (if_pos h)
 have s6:hk=6∨hk=7→z0y v ⟨hk,hu,hn,o⟩=powerV v hk hu hn:=fun h=>(if_neg (show ¬ hk=1 by omega)).trans ((if_neg (show ¬ (hk=3∨hk=4∨hk=5) by omega)).trans (if_pos h))
 have s8:¬ (hk=1∨hk=3∨hk=4∨hk=5∨hk=6∨hk=7)→z0y v ⟨hk,hu,hn,o⟩=if hk=8 then gaveV v
  else if hk=2∨hk=9 then (if hu<0∨(v.units.length:Int)≤hu then (v,5) else if hk=2 then pokeV v hu else asksV v hu)
  else if hk=10 then tickV v else (v,4):=fun h=>(if_neg (show ¬ hk=1 by omega)).trans ((if_neg (show ¬ (hk=3∨hk=4∨hk=5) by omega)).trans (if_neg (show ¬ (hk=6∨hk=7) by omega)))
 have two:hk=2∨hk=9→z0y v ⟨hk,hu,hn,o⟩=if hu<0∨(v.units.length:Int)≤hu then (v,5) else if hk=2 then pokeV v hu else asksV v hu:=fun h=>(s8 (by omega)).trans ((if_neg (show ¬ hk=8 by omega)).trans (if_pos h))
 refine z27 (fun h=>?_) (fun h1=>?_)
 ·rw [s1 h,hv,ho] at hK; exact ⟨hp,hK⟩
 refine z27 (fun h=>zgj h ?_) (fun h3=>z27 (fun h=>zgj h ?_) (fun h4=>z27 (fun h=>?_) (fun h5=>z27 (fun h=>zgj h ?_) (fun h6=>z27 (fun h=>?_) (fun h7=>z27 (fun h=>?_) (fun h8=>?_))))))
 ·rw [s3 (by omega),hv] at hK; exact ⟨hp,hK⟩
 ·rw [s3 (by omega),hv] at hK; exact ⟨hp,hK⟩
 ·rw [s3 (by omega),hv] at hK; exact ⟨hp,hK⟩
 ·rw [s6 (by omega),hv] at hK; exact ⟨hp,hK⟩
 ·rw [s6 (by omega),hv] at hK; exact ⟨hp,hK⟩
 ·have e:z0y v ⟨hk,hu,hn,o⟩=gaveV v:=(s8 (by omega)).trans (if_pos h)
  unfold gaveV at e
  rw [hgv] at e
  refine z27 (fun h0=>?_) (fun h0=>?_)
  ·rw [e,if_pos h0,hv] at hK; rw [h0]; exact hK
  ·rw [e,if_neg h0,hv] at hK; exact hK
 refine z27 (fun h=>zgj h ?_) (fun h2=>z27 (fun h=>?_) (fun h9=>?_))
 ·have E:=two (by omega)
  by_cases c:hu<0∨(us.length:Int)≤hu
  ·rw [E,if_pos (by rw [hul]; exact c),hv] at hK
   exact z1a (fun _=>hK) (fun h=>z97 (by rw [z1u]; simp only [len]; omega) hK)
  ·rw [if_neg (by rw [hul]; exact c)] at E
   refine z22 (by omega) (z6r (by rw [z11]; simp only [len]; omega) (z27 (fun h2=>?_) (fun h2=>?_)))
   ·rw [E,if_pos h2,hv] at hK; exact ⟨hp,hK⟩
   ·rw [E,if_neg h2,hv] at hK; exact ⟨⟨hp,by omega,by omega⟩,hK⟩
 ·have E:=two (by omega)
  by_cases c:hu<0∨(us.length:Int)≤hu
  ·rw [E,if_pos (by rw [hul]; exact c),hv] at hK
   exact z1a (fun _=>hK) (fun h=>z97 (by rw [z1u]; simp only [len]; omega) hK)
  ·rw [if_neg (by rw [hul]; exact c)] at E
   refine z22 (by omega) (z6r (by rw [z11]; simp only [len]; omega) (z27 (fun h2=>?_) (fun h2=>?_)))
   ·rw [E,if_pos h2,hv] at hK; exact ⟨hp,hK⟩
   ·rw [E,if_neg h2,hv] at hK; exact ⟨⟨hp,by omega,by omega⟩,hK⟩
 have E:=(s8 (by omega)).trans ((if_neg h8).trans (if_neg (show ¬ (hk=2∨hk=9) by omega)))
 refine z27 (fun h10=>?_) (fun h10=>?_)
 ·rw [if_pos h10] at E
  have G:tickV v=if now=100000 then (v,8) else (⟨v.b,v.s,v.g,v.units,v.campaigns,v.net,now+1⟩,0):=by unfold tickV; rw [hnow]
  refine z27 (fun h0=>?_) (fun h0=>?_)
  ·rw [E,G,if_pos h0,hv] at hK; exact hK
  ·have H:=z34.1 hp
   have hT0:=H.t0
   have hT1:=H.t1
   simp only at hT0 hT1
   rw [z0e (by omega) (by omega)]
   rw [E,G,if_neg h0,hv] at hK; exact hK
 ·rw [if_neg h10] at E
  rw [E,hv] at hK; exact hK
theorem sound_q239:z03 Tryz.prog tab n_q239 c_q239:=z01 ok_q239 hg_q239 (by
 intro vs bs p v bs' h hp
 unfold c_q239 at h
 split at h
 ·cases h
  exact ⟨by kernel_rfl,rfl,.inr (.inr (run_q239 _ _ _ _ _ _ _ _ _ _ _ _ _ _ _ _ _ _ _ _ _ _ _ _ _ hp.1 _ ⟨rfl,rfl⟩))⟩
 ·cases h)

def c_q259:z00:=fun vs bs=>match vs,bs with
 | [.agg [.dat (.list .str) vb,.dat (.list .signed) vs,.dat (.list .int) ws,.dat .int fu,.dat .bool up,.dat .int tv,.dat (.list .int) tk,.dat .int tt,.dat .int tn,.dat (.list .bool) vo,.dat (.list .bool) di,.dat (.list .unitd) us,.dat (.list .campaign) cs,.dat (.list .message) net,.dat .int now],.one (.dat (.list .happening) l)],[]=>some (none,.tup [.agg [.dat (Ty.list Ty.str) (runV ⟨vb,vs,⟨⟨ws,fu⟩,up,⟨⟨tv,tk,tt⟩,tn⟩,vo,di⟩,us,cs,net,now⟩ l).1.b,.dat (Ty.list Ty.signed) (runV ⟨vb,vs,⟨⟨ws,fu⟩,up,⟨⟨tv,tk,tt⟩,tn⟩,vo,di⟩,us,cs,net,now⟩ l).1.s,dL (runV ⟨vb,vs,⟨⟨ws,fu⟩,up,⟨⟨tv,tk,tt⟩,tn⟩,vo,di⟩,us,cs,net,now⟩ l).1.g.f.words,dI (runV ⟨vb,vs,⟨⟨ws,fu⟩,up,⟨⟨tv,tk,tt⟩,tn⟩,vo,di⟩,us,cs,net,now⟩ l).1.g.f.fuel,dB (runV ⟨vb,vs,⟨⟨ws,fu⟩,up,⟨⟨tv,tk,tt⟩,tn⟩,vo,di⟩,us,cs,net,now⟩ l).1.g.up,dI (runV ⟨vb,vs,⟨⟨ws,fu⟩,up,⟨⟨tv,tk,tt⟩,tn⟩,vo,di⟩,us,cs,net,now⟩ l).1.g.t.r.version,dL (runV ⟨vb,vs,⟨⟨ws,fu⟩,up,⟨⟨tv,tk,tt⟩,tn⟩,vo,di⟩,us,cs,net,now⟩ l).1.g.t.r.keys,dI (runV ⟨vb,vs,⟨⟨ws,fu⟩,up,⟨⟨tv,tk,tt⟩,tn⟩,vo,di⟩,us,cs,net,now⟩ l).1.g.t.r.thr,dI (runV ⟨vb,vs,⟨⟨ws,fu⟩,up,⟨⟨tv,tk,tt⟩,tn⟩,vo,di⟩,us,cs,net,now⟩ l).1.g.t.version,dLb (runV ⟨vb,vs,⟨⟨ws,fu⟩,up,⟨⟨tv,tk,tt⟩,tn⟩,vo,di⟩,us,cs,net,now⟩ l).1.g.voted,dLb (runV ⟨vb,vs,⟨⟨ws,fu⟩,up,⟨⟨tv,tk,tt⟩,tn⟩,vo,di⟩,us,cs,net,now⟩ l).1.g.did,.dat (Ty.list Ty.unitd) (runV ⟨vb,vs,⟨⟨ws,fu⟩,up,⟨⟨tv,tk,tt⟩,tn⟩,vo,di⟩,us,cs,net,now⟩ l).1.units,.dat (Ty.list Ty.campaign) (runV ⟨vb,vs,⟨⟨ws,fu⟩,up,⟨⟨tv,tk,tt⟩,tn⟩,vo,di⟩,us,cs,net,now⟩ l).1.campaigns,dM (runV ⟨vb,vs,⟨⟨ws,fu⟩,up,⟨⟨tv,tk,tt⟩,tn⟩,vo,di⟩,us,cs,net,now⟩ l).1.net,dI (runV ⟨vb,vs,⟨⟨ws,fu⟩,up,⟨⟨tv,tk,tt⟩,tn⟩,vo,di⟩,us,cs,net,now⟩ l).1.now],.one (dL (runV ⟨vb,vs,⟨⟨ws,fu⟩,up,⟨⟨tv,tk,tt⟩,tn⟩,vo,di⟩,us,cs,net,now⟩ l).2.1),.one (dI (runV ⟨vb,vs,⟨⟨ws,fu⟩,up,⟨⟨tv,tk,tt⟩,tn⟩,vo,di⟩,us,cs,net,now⟩ l).2.2)],[])
 | _,_=>none
def Γ_q259:Ctx:=[(n_q230,c_q230),(n_q231,c_q231),(n_q239,c_q239)]
theorem ok_q259:Ok Tryz.prog tab Γ_q259:=(((ok_nil.c hg_q239 sound_q239).c hg_q231 sound_q231).c hg_q230 sound_q230)
noncomputable def q259_L0:List It:=[.inLoop [27,26,25,8,6,5,4,2] (cSub fn_q259 [1,1,1,1,1,0,1,0,0]),.inBlock 0,.code (cSub fn_q259 [1,1,1,1,1,1])]
def q259_S0 (x0 x1:Int) (x2:List Vm.Happening) (x3:Int) (x4 x5:List Int) (x6:Int) (x7:Bool) (x8 x9 x10 x11:Int) (x12:List (List UInt8)) (x13:List Vm.Signed) (x14:List Int) (x15:Int) (x16:Bool) (x17:Int) (x18:List Int) (x19 x20:Int) (x21 x22:List Bool) (x23:Int) (x24:List (List UInt8)) (x25:List Vm.Signed) (x26 x27:List Int) (x28 x29:List Bool) (x30:List Vm.UnitD) (x31:List Vm.Campaign) (x32:List Vm.Message) (x33:List Vm.UnitD) (x34:List Vm.Campaign) (x35:List Vm.Message):St:=⟨[(27,.one (dI x0)),(26,.one (dI x1)),(25,.one (.dat (Ty.list Ty.happening) x2)),(8,.one (.own 0)),(6,.one (dI x3)),(5,.one (.own 1)),(4,.one (.ptr 2 0)),(2,.one (.ptr 3 0))],[(0,.arr Ty.int x4),(1,.arr Ty.int x5),(2,.box [.own 4,.own 5,.own 6,dI x6,dB x7,dI x8,.own 7,dI x9,dI x10,.own 8,.own 9,.own 10,.own 11,.own 12,dI x11]),(3,.box [.dat (Ty.list Ty.str) x12,.dat (Ty.list Ty.signed) x13,dL x14,dI x15,dB x16,dI x17,dL x18,dI x19,dI x20,dLb x21,dLb x22,.own 13,.own 14,.own 15,dI x23]),(4,.arr Ty.str x24),(5,.arr Ty.signed x25),(6,.arr Ty.int x26),(7,.arr Ty.int x27),(8,.arr Ty.bool x28),(9,.arr Ty.bool x29),(10,.arr Ty.unitd x30),(11,.arr Ty.campaign x31),(12,.arr Ty.message x32),(13,.arr Ty.unitd x33),(14,.arr Ty.campaign x34),(15,.arr Ty.message x35)],16⟩
noncomputable def q259_L1:List It:=[.inLoop [27,26,25,8,6,5,4,2] (cSub fn_q259 [1,1,1,1,1,0,1,0,0]),.inBlock 0,.code (cSub fn_q259 [1,1,1,1,1,1])]
def q259_S1 (x0 x1:Int) (x2:List Vm.Happening) (x3:Int) (x4 x5:List Int) (x6:Int) (x7:Bool) (x8 x9 x10 x11:Int) (x12:List (List UInt8)) (x13:List Vm.Signed) (x14:List Int) (x15:Int) (x16:Bool) (x17:Int) (x18:List Int) (x19 x20:Int) (x21 x22:List Bool) (x23:List Vm.UnitD) (x24:List Vm.Campaign) (x25:List Vm.Message) (x26:Int) (x27:List (List UInt8)) (x28:List Vm.Signed) (x29 x30:List Int) (x31 x32:List Bool) (x33:List Vm.UnitD) (x34:List Vm.Campaign) (x35:List Vm.Message):St:=⟨[(27,.one (dI x0)),(26,.one (dI x1)),(25,.one (.dat (Ty.list Ty.happening) x2)),(8,.one (.own 0)),(6,.one (dI x3)),(5,.one (.own 1)),(4,.one (.ptr 2 0)),(2,.one (.ptr 3 0))],[(0,.arr Ty.int x4),(1,.arr Ty.int x5),(2,.box [.own 4,.own 5,.own 6,dI x6,dB x7,dI x8,.own 7,dI x9,dI x10,.own 8,.own 9,.own 10,.own 11,.own 12,dI x11]),(3,.box [.dat (Ty.list Ty.str) x12,.dat (Ty.list Ty.signed) x13,dL x14,dI x15,dB x16,dI x17,dL x18,dI x19,dI x20,dLb x21,dLb x22,.dat (Ty.list Ty.unitd) x23,.dat (Ty.list Ty.campaign) x24,dM x25,dI x26]),(4,.arr Ty.str x27),(5,.arr Ty.signed x28),(6,.arr Ty.int x29),(7,.arr Ty.int x30),(8,.arr Ty.bool x31),(9,.arr Ty.bool x32),(10,.arr Ty.unitd x33),(11,.arr Ty.campaign x34),(12,.arr Ty.message x35)],13⟩
theorem q259_vc (vb:List (List UInt8)) (vs:List Signed) (ws:List Int) (fu:Int) (up:Bool) (tv:Int) (tk:List Int) (tt tn:Int) (vo di:List Bool) (us:List UnitD) (cs:List Campaign) (net:List Message) (now:Int) (l:List Happening) (rec:RK) (K:KK) v0 (hv0:v0=checkV ⟨vb,vs,⟨⟨ws,fu⟩,up,⟨⟨tv,tk,tt⟩,tn⟩,vo,di⟩,us,cs,net,now⟩) v1 (hv1:v1=okW ⟨vb,vs,⟨⟨ws,fu⟩,up,⟨⟨tv,tk,tt⟩,tn⟩,vo,di⟩,us,cs,net,now⟩):segD Γ_q259 tab fn_q259 0 K rec [.code (z05 fn_q259)] (z07 [.agg (aV vb vs ws fu up tv tk tt tn vo di (.dat (Ty.list Ty.unitd) us) (.dat (Ty.list Ty.campaign) cs) (dM net) now),.one (.dat (Ty.list Ty.happening) l)] [])=(
 br (!(eqi v0 0))
 (K (.tup [.agg zV,.one (dL []),.one (dI v0)]) [])
 (br (lti 160 (len l:Int))
 (K (.tup [.agg zV,.one (dL []),.one (dI 2)]) [])
 (v1=true ∧
 rec q259_L0 (q259_S0 0 (len l:Int) l 0 [] [] 0 false 0 0 0 0 vb vs ws fu up tv tk tt tn vo di now [] [] [] [] [] [] [] [] [] us cs net)))):=by subst_vars; kernel_rfl
theorem zhu (x0 x1:Int) (x2:List Vm.Happening) (x3:Int) (x4 x5:List Int) (x6:Int) (x7:Bool) (x8 x9 x10 x11:Int) (x12:List (List UInt8)) (x13:List Vm.Signed) (x14:List Int) (x15:Int) (x16:Bool) (x17:Int) (x18:List Int) (x19 x20:Int) (x21 x22:List Bool) (x23:Int) (x24:List (List UInt8)) (x25:List Vm.Signed) (x26 x27:List Int) (x28 x29:List Bool) (x30:List Vm.UnitD) (x31:List Vm.Campaign) (x32:List Vm.Message) (x33:List Vm.UnitD) (x34:List Vm.Campaign) (x35:List Vm.Message) (rec:RK) (K:KK) v0 (hv0:v0=okW ⟨x12,x13,⟨⟨x14,x15⟩,x16,⟨⟨x17,x18,x19⟩,x20⟩,x21,x22⟩,x33,x34,x35,x23⟩) v1 (hv1:v1=z0y ⟨x12,x13,⟨⟨x14,x15⟩,x16,⟨⟨x17,x18,x19⟩,x20⟩,x21,x22⟩,x33,x34,x35,x23⟩ ⟨(nth x2 (Int.toNat x0) (Ty.dflt Ty.happening)).kind,(nth x2 (Int.toNat x0) (Ty.dflt Ty.happening)).unit,(nth x2 (Int.toNat x0) (Ty.dflt Ty.happening)).k,⟨((nth x2 (Int.toNat x0) (Ty.dflt Ty.happening)).o).roots,((nth x2 (Int.toNat x0) (Ty.dflt Ty.happening)).o).rootSigs,⟨(((nth x2 (Int.toNat x0) (Ty.dflt Ty.happening)).o).r).version,(((nth x2 (Int.toNat x0) (Ty.dflt Ty.happening)).o).r).til,(((nth x2 (Int.toNat x0) (Ty.dflt Ty.happening)).o).r).targets⟩,((nth x2 (Int.toNat x0) (Ty.dflt Ty.happening)).o).sigs,((nth x2 (Int.toNat x0) (Ty.dflt Ty.happening)).o).images⟩⟩):segD Γ_q259 tab fn_q259 0 K rec (ent q259_L0) (q259_S0 x0 x1 x2 x3 x4 x5 x6 x7 x8 x9 x10 x11 x12 x13 x14 x15 x16 x17 x18 x19 x20 x21 x22 x23 x24 x25 x26 x27 x28 x29 x30 x31 x32 x33 x34 x35)=(
 br (lti x0 x1)
 (((0:Int)≤x0∧x0<(len x2:Int)) ∧
 v0=true ∧
 v0=true ∧
 br (eqi v1.snd 0)
 ((len x4+len (v1.snd::[]))*8≤140737488355328 ∧
 rec q259_L0 (q259_S0 (w64 (x0+1)) x1 x2 x3 (cat x4 (v1.snd::[])) x5 x6 x7 x8 x9 x10 x11 v1.fst.b v1.fst.s v1.fst.g.f.words v1.fst.g.f.fuel v1.fst.g.up v1.fst.g.t.r.version v1.fst.g.t.r.keys v1.fst.g.t.r.thr v1.fst.g.t.version v1.fst.g.voted v1.fst.g.did v1.fst.now x24 x25 x26 x27 x28 x29 x30 x31 x32 v1.fst.units v1.fst.campaigns v1.fst.net))
 ((len x4+len (v1.snd::[]))*8≤140737488355328 ∧
 rec q259_L1 (q259_S1 (w64 (x0+1)) x1 x2 x3 (cat x4 (v1.snd::[])) x5 x6 x7 x8 x9 x10 x11 x12 x13 x14 x15 x16 x17 x18 x19 x20 x21 x22 x33 x34 x35 x23 x24 x25 x26 x27 x28 x29 x30 x31 x32)))
 (K (.tup [.agg [.dat (Ty.list Ty.str) x12,.dat (Ty.list Ty.signed) x13,dL x14,dI x15,dB x16,dI x17,dL x18,dI x19,dI x20,dLb x21,dLb x22,.dat (Ty.list Ty.unitd) x33,.dat (Ty.list Ty.campaign) x34,dM x35,dI x23],.one (dL x4),.one (dI 0)]) [])):=by subst_vars; kernel_rfl
theorem zht (x0 x1:Int) (x2:List Vm.Happening) (x3:Int) (x4 x5:List Int) (x6:Int) (x7:Bool) (x8 x9 x10 x11:Int) (x12:List (List UInt8)) (x13:List Vm.Signed) (x14:List Int) (x15:Int) (x16:Bool) (x17:Int) (x18:List Int) (x19 x20:Int) (x21 x22:List Bool) (x23:List Vm.UnitD) (x24:List Vm.Campaign) (x25:List Vm.Message) (x26:Int) (x27:List (List UInt8)) (x28:List Vm.Signed) (x29 x30:List Int) (x31 x32:List Bool) (x33:List Vm.UnitD) (x34:List Vm.Campaign) (x35:List Vm.Message) (rec:RK) (K:KK) v0 (hv0:v0=okW ⟨x12,x13,⟨⟨x14,x15⟩,x16,⟨⟨x17,x18,x19⟩,x20⟩,x21,x22⟩,x23,x24,x25,x26⟩) v1 (hv1:v1=z0y ⟨x12,x13,⟨⟨x14,x15⟩,x16,⟨⟨x17,x18,x19⟩,x20⟩,x21,x22⟩,x23,x24,x25,x26⟩ ⟨(nth x2 (Int.toNat x0) (Ty.dflt Ty.happening)).kind,(nth x2 (Int.toNat x0) (Ty.dflt Ty.happening)).unit,(nth x2 (Int.toNat x0) (Ty.dflt Ty.happening)).k,⟨((nth x2 (Int.toNat x0) (Ty.dflt Ty.happening)).o).roots,((nth x2 (Int.toNat x0) (Ty.dflt Ty.happening)).o).rootSigs,⟨(((nth x2 (Int.toNat x0) (Ty.dflt Ty.happening)).o).r).version,(((nth x2 (Int.toNat x0) (Ty.dflt Ty.happening)).o).r).til,(((nth x2 (Int.toNat x0) (Ty.dflt Ty.happening)).o).r).targets⟩,((nth x2 (Int.toNat x0) (Ty.dflt Ty.happening)).o).sigs,((nth x2 (Int.toNat x0) (Ty.dflt Ty.happening)).o).images⟩⟩):segD Γ_q259 tab fn_q259 0 K rec (ent q259_L1) (q259_S1 x0 x1 x2 x3 x4 x5 x6 x7 x8 x9 x10 x11 x12 x13 x14 x15 x16 x17 x18 x19 x20 x21 x22 x23 x24 x25 x26 x27 x28 x29 x30 x31 x32 x33 x34 x35)=(
 br (lti x0 x1)
 (((0:Int)≤x0∧x0<(len x2:Int)) ∧
 v0=true ∧
 v0=true ∧
 br (eqi v1.snd 0)
 ((len x4+len (v1.snd::[]))*8≤140737488355328 ∧
 rec q259_L0 (q259_S0 (w64 (x0+1)) x1 x2 x3 (cat x4 (v1.snd::[])) x5 x6 x7 x8 x9 x10 x11 v1.fst.b v1.fst.s v1.fst.g.f.words v1.fst.g.f.fuel v1.fst.g.up v1.fst.g.t.r.version v1.fst.g.t.r.keys v1.fst.g.t.r.thr v1.fst.g.t.version v1.fst.g.voted v1.fst.g.did v1.fst.now x27 x28 x29 x30 x31 x32 x33 x34 x35 v1.fst.units v1.fst.campaigns v1.fst.net))
 ((len x4+len (v1.snd::[]))*8≤140737488355328 ∧
 rec q259_L1 (q259_S1 (w64 (x0+1)) x1 x2 x3 (cat x4 (v1.snd::[])) x5 x6 x7 x8 x9 x10 x11 x12 x13 x14 x15 x16 x17 x18 x19 x20 x21 x22 x23 x24 x25 x26 x27 x28 x29 x30 x31 x32 x33 x34 x35)))
 (K (.tup [.agg [.dat (Ty.list Ty.str) x12,.dat (Ty.list Ty.signed) x13,dL x14,dI x15,dB x16,dI x17,dL x18,dI x19,dI x20,dLb x21,dLb x22,.dat (Ty.list Ty.unitd) x23,.dat (Ty.list Ty.campaign) x24,dM x25,dI x26],.one (dL x4),.one (dI 0)]) [])):=by subst_vars; kernel_rfl

theorem zbs (l:List Happening) (hl:l.length≤160) (R:Vehicle × List Int) (K:KK) (hK:K (.tup [.agg (cV R.1 (.dat (Ty.list Ty.unitd) R.1.units) (.dat (Ty.list Ty.campaign) R.1.campaigns) (dM R.1.net)),.one (dL R.2),.one (dI 0)]) []):∀ (d k:Nat) (v:Vehicle) (acc:List Int),k+d=l.length→acc.length≤k→OkW v→(z45 v (l.drop k)).1=R.1→acc++(z45 v (l.drop k)).2=R.2 →
  goD Γ_q259 tab fn_q259 0 K (d+1) q259_L0 (q259_S0 (k:Int) (((len l):Nat):Int) l 0 acc [] 0 false 0 0 0 0 v.b v.s v.g.f.words v.g.f.fuel v.g.up v.g.t.r.version v.g.t.r.keys v.g.t.r.thr v.g.t.version v.g.voted v.g.did v.now [] [] [] [] [] [] [] [] [] v.units v.campaigns v.net)∧goD Γ_q259 tab fn_q259 0 K (d+1) q259_L1 (q259_S1 (k:Int) (((len l):Nat):Int) l 0 acc [] 0 false 0 0 0 0 v.b v.s v.g.f.words v.g.f.fuel v.g.up v.g.t.r.version v.g.t.r.keys v.g.t.r.thr v.g.t.version v.g.voted v.g.did v.units v.campaigns v.net v.now [] [] [] [] [] [] [] [] [])
 | 0,k,v,acc,hk,ha,ho,h1,h2=>by
  rw [List.drop_of_length_le (by omega)] at h1 h2
  have g1:v=R.1:=h1
  have g2:acc=R.2:=by simpa [z45] using h2
  clear h1 h2 ho
  subst g1 g2
  refine ⟨?_,?_⟩
  ·rw [z09 (L:=q259_L0),zhu _ _ _ _ _ _ _ _ _ _ _ _ _ _ _ _ _ _ _ _ _ _ _ _ _ _ _ _ _ _ _ _ _ _ _ _ _ _ _ rfl _ rfl]
   exact z22 (by simp only [len]; omega) hK
  ·rw [z09 (L:=q259_L1),zht _ _ _ _ _ _ _ _ _ _ _ _ _ _ _ _ _ _ _ _ _ _ _ _ _ _ _ _ _ _ _ _ _ _ _ _ _ _ _ rfl _ rfl]
   exact z22 (by simp only [len]; omega) hK
 | d+1,k,v,acc,hk,ha,ho,h1,h2=>by
  rw [z0q (l:=l) (by omega) (Ty.dflt .happening)] at h1 h2
  obtain ⟨x,hx⟩:∃ x,nth l k (Ty.dflt .happening)=x:=⟨_,rfl⟩
  rw [hx] at h1 h2
  have hc:okW v=true:=z34.2 ho
  have ok:(z0y v x).2=0→_:=fun h=>zbs l hl R K hK d (k+1) (z0y v x).1 (acc++[(z0y v x).2]) (by omega) (by simp; omega) (step_w ho h) (by have:=h1; simp only [z45,if_pos h] at this; exact this) (by have:=h2; simp only [z45,if_pos h] at this; rw [List.append_assoc]; exact this)
  have bad:(z0y v x).2≠0→_:=fun h=>zbs l hl R K hK d (k+1) v (acc++[(z0y v x).2]) (by omega) (by simp; omega) ho (by have:=h1; simp only [z45,if_neg h] at this; exact this) (by have:=h2; simp only [z45,if_neg h] at this; rw [List.append_assoc]; exact this)
  refine ⟨?_,?_⟩
  ·rw [z09 (L:=q259_L0),zhu _ _ _ _ _ _ _ _ _ _ _ _ _ _ _ _ _ _ _ _ _ _ _ _ _ _ _ _ _ _ _ _ _ _ _ _ _ _ _ rfl _ rfl,z08]
   rw [hx]
   exact z2o (by simp only [len]; omega) ⟨⟨by omega,by simp only [len]; omega⟩,hc,hc,z27 (fun h=>⟨by simp only [len,List.length_cons,List.length_nil]; omega,by rw [z0f (by omega)]; exact (ok h).1⟩) (fun h=>⟨by simp only [len,List.length_cons,List.length_nil]; omega,by rw [z0f (by omega)]; exact (bad h).2⟩)⟩
  ·rw [z09 (L:=q259_L1),zht _ _ _ _ _ _ _ _ _ _ _ _ _ _ _ _ _ _ _ _ _ _ _ _ _ _ _ _ _ _ _ _ _ _ _ _ _ _ _ rfl _ rfl,z08]
   rw [hx]
   exact z2o (by simp only [len]; omega) ⟨⟨by omega,by simp only [len]; omega⟩,hc,hc,z27 (fun h=>⟨by simp only [len,List.length_cons,List.length_nil]; omega,by rw [z0f (by omega)]; exact (ok h).1⟩) (fun h=>⟨by simp only [len,List.length_cons,List.length_nil]; omega,by rw [z0f (by omega)]; exact (bad h).2⟩)⟩
theorem run_q259 (K:KK) (hK:K (.tup [.agg [.dat (Ty.list Ty.str) (runV ⟨vb,vs,⟨⟨ws,fu⟩,up,⟨⟨tv,tk,tt⟩,tn⟩,vo,di⟩,us,cs,net,now⟩ l).1.b,.dat (Ty.list Ty.signed) (runV ⟨vb,vs,⟨⟨ws,fu⟩,up,⟨⟨tv,tk,tt⟩,tn⟩,vo,di⟩,us,cs,net,now⟩ l).1.s,dL (runV ⟨vb,vs,⟨⟨ws,fu⟩,up,⟨⟨tv,tk,tt⟩,tn⟩,vo,di⟩,us,cs,net,now⟩ l).1.g.f.words,dI (runV ⟨vb,vs,⟨⟨ws,fu⟩,up,⟨⟨tv,tk,tt⟩,tn⟩,vo,di⟩,us,cs,net,now⟩ l).1.g.f.fuel,dB (runV ⟨vb,vs,⟨⟨ws,fu⟩,up,⟨⟨tv,tk,tt⟩,tn⟩,vo,di⟩,us,cs,net,now⟩ l).1.g.up,dI (runV ⟨vb,vs,⟨⟨ws,fu⟩,up,⟨⟨tv,tk,tt⟩,tn⟩,vo,di⟩,us,cs,net,now⟩ l).1.g.t.r.version,dL (runV ⟨vb,vs,⟨⟨ws,fu⟩,up,⟨⟨tv,tk,tt⟩,tn⟩,vo,di⟩,us,cs,net,now⟩ l).1.g.t.r.keys,dI (runV ⟨vb,vs,⟨⟨ws,fu⟩,up,⟨⟨tv,tk,tt⟩,tn⟩,vo,di⟩,us,cs,net,now⟩ l).1.g.t.r.thr,dI (runV ⟨vb,vs,⟨⟨ws,fu⟩,up,⟨⟨tv,tk,tt⟩,tn⟩,vo,di⟩,us,cs,net,now⟩ l).1.g.t.version,dLb (runV ⟨vb,vs,⟨⟨ws,fu⟩,up,⟨⟨tv,tk,tt⟩,tn⟩,vo,di⟩,us,cs,net,now⟩ l).1.g.voted,dLb (runV ⟨vb,vs,⟨⟨ws,fu⟩,up,⟨⟨tv,tk,tt⟩,tn⟩,vo,di⟩,us,cs,net,now⟩ l).1.g.did,.dat (Ty.list Ty.unitd) (runV ⟨vb,vs,⟨⟨ws,fu⟩,up,⟨⟨tv,tk,tt⟩,tn⟩,vo,di⟩,us,cs,net,now⟩ l).1.units,.dat (Ty.list Ty.campaign) (runV ⟨vb,vs,⟨⟨ws,fu⟩,up,⟨⟨tv,tk,tt⟩,tn⟩,vo,di⟩,us,cs,net,now⟩ l).1.campaigns,dM (runV ⟨vb,vs,⟨⟨ws,fu⟩,up,⟨⟨tv,tk,tt⟩,tn⟩,vo,di⟩,us,cs,net,now⟩ l).1.net,dI (runV ⟨vb,vs,⟨⟨ws,fu⟩,up,⟨⟨tv,tk,tt⟩,tn⟩,vo,di⟩,us,cs,net,now⟩ l).1.now],.one (dL (runV ⟨vb,vs,⟨⟨ws,fu⟩,up,⟨⟨tv,tk,tt⟩,tn⟩,vo,di⟩,us,cs,net,now⟩ l).2.1),.one (dI (runV ⟨vb,vs,⟨⟨ws,fu⟩,up,⟨⟨tv,tk,tt⟩,tn⟩,vo,di⟩,us,cs,net,now⟩ l).2.2)]) []):GD Γ_q259 fn_q259 0 K [.agg (aV vb vs ws fu up tv tk tt tn vo di (.dat (Ty.list Ty.unitd) us) (.dat (Ty.list Ty.campaign) cs) (dM net) now),.one (.dat (.list .happening) l)] []:=by
 refine ⟨l.length+2,?_⟩
 rw [z02,q259_vc _ _ _ _ _ _ _ _ _ _ _ _ _ _ _ _ _ _ _ rfl _ rfl]
 obtain ⟨v,hv⟩:∃ v:Vm.Vehicle,v=⟨vb,vs,⟨⟨ws,fu⟩,up,⟨⟨tv,tk,tt⟩,tn⟩,vo,di⟩,us,cs,net,now⟩:=⟨_,rfl⟩
 rw [← hv] at hK ⊢
 unfold runV at hK
 refine z1c (fun h=>?_) (fun h=>z1a (fun h2=>?_) (fun h2=>⟨z34.2 (okV_w (z8l h)),?_⟩))
 ·rw [if_neg h] at hK
  exact hK
 ·rw [if_pos h,if_pos (show 160<l.length by simp only [len] at h2; omega)] at hK; exact hK
 ·have h3:¬ 160<l.length:=by simp only [len] at h2; omega
  rw [if_pos h,if_neg h3] at hK
  have q:=(zbs l (by omega) (z45 v l) K hK l.length 0 v [] (by omega) (Nat.le_refl _) (okV_w (z8l h)) rfl rfl).1
  rw [hv] at q
  exact q
theorem sound_q259:z03 Tryz.prog tab n_q259 c_q259:=z01 ok_q259 hg_q259 (by
 intro vs bs p v bs' h hp
 unfold c_q259 at h
 split at h
 ·cases h
  exact ⟨by kernel_rfl,rfl,.inl (run_q259 _ _ _ _ _ _ _ _ _ _ _ _ _ _ _ _ _ ⟨rfl,rfl⟩)⟩
 ·cases h)

def c_q148:z00:=fun vs bs=>match vs,bs with
 | [.agg [.dat (.list .int) ws,.dat .int fu,.dat .bool up,.dat .int un,.dat .int ug]],[]=>some (none,.tup [.one (dL (z5i ⟨⟨ws,fu⟩,up,un,ug⟩).1),.one (dI (z5i ⟨⟨ws,fu⟩,up,un,ug⟩).2.1),.one (dI (z5i ⟨⟨ws,fu⟩,up,un,ug⟩).2.2)],[])
 | _,_=>none
def Γ_q148:Ctx:=[(n_q133,c_q133),(n_q131,c_q131),(n_q47,c_q47)]
theorem ok_q148:Ok Tryz.prog tab Γ_q148:=(((ok_nil.c hg_q47 sound_q47).c hg_q131 sound_q131).c hg_q133 sound_q133)
theorem q148_vc (ws:List Int) (fu:Int) (up:Bool) (un ug:Int) (rec:RK) (K:KK) v0 (hv0:v0=z14 ⟨⟨ws,fu⟩,up,un,ug⟩) v1 (hv1:v1=ofU ⟨ws,fu⟩) v2 (hv2:v2=z1l ⟨ws,fu⟩ v1.slot):segD Γ_q148 tab fn_q148 0 K rec [.code (z05 fn_q148)] (z07 [.agg [dL ws,dI fu,dB up,dI un,dI ug]] [])=(
 br (!(eqi v0 0))
 (K (.tup [.one (dL []),.one (dI 0),.one (dI v0)]) [])
 (K (.tup [.one (dL v2.fst),.one (dI v2.snd.fst),.one (dI v2.snd.snd)]) [])):=by subst_vars; kernel_rfl

theorem run_q148 (K:KK) (hK:K (.tup [.one (dL (z5i ⟨⟨ws,fu⟩,up,un,ug⟩).1),.one (dI (z5i ⟨⟨ws,fu⟩,up,un,ug⟩).2.1),.one (dI (z5i ⟨⟨ws,fu⟩,up,un,ug⟩).2.2)]) []):GD Γ_q148 fn_q148 0 K [.agg [dL ws,dI fu,dB up,dI un,dI ug]] []:=by
 refine ⟨1,?_⟩
 rw [z02,q148_vc _ _ _ _ _ _ _ _ rfl _ rfl _ rfl]
 unfold z5i at hK
 refine z1c (fun h=>?_) (fun h=>?_)
 ·rw [if_neg h] at hK; exact hK
 ·rw [if_pos h] at hK; exact hK
theorem sound_q148:z03 Tryz.prog tab n_q148 c_q148:=z01 ok_q148 hg_q148 (by
 intro vs bs p v bs' h hp
 unfold c_q148 at h
 split at h
 ·cases h
  exact ⟨by kernel_rfl,rfl,.inl (run_q148 _ _ _ _ _ _ ⟨rfl,rfl⟩)⟩
 ·cases h)

def c_q260:z00:=fun vs bs=>match vs,bs with
 | [],[]=>some (none,.one (dB true),[])
 | _,_=>none
def Γ_q260:Ctx:=[(n_q258,c_q258),(n_q259,c_q259),(n_q148,c_q148),(n_q169,c_q169),(n_q0,c_q0)]
theorem ok_q260:Ok Tryz.prog tab Γ_q260:=(((((ok_nil.c hg_q0 sound_q0).c hg_q169 sound_q169).c hg_q148 sound_q148).c hg_q259 sound_q259).c hg_q258 sound_q258)

theorem run_q260 (K:KK) (hK:K (.one (dB true)) []):GD Γ_q260 fn_q260 0 K [] []:=by
 refine ⟨40,?_⟩
 have e:goD Γ_q260 tab fn_q260 0 K 40 [.code (z05 fn_q260)] (z07 [] [])=((((1:Int)≤(1:Int))∧(((1:Int)≤(4:Int))∧(true=true)))∧(((0:Int)≤(2:Int))∧((2:Int)<(3:Int)))∧(((0:Int)≤(0:Int))∧((0:Int)<(3:Int)))∧(640≤140737488355328)∧(800≤140737488355328)∧(960≤140737488355328)∧(1120≤140737488355328)∧(1600≤140737488355328)∧(((0:Int)≤(0:Int))∧((0:Int)<(10:Int)))∧(((0:Int)≤(1:Int))∧((1:Int)<(10:Int)))∧(((0:Int)≤(0:Int))∧((0:Int)<(1:Int)))∧(((0:Int)≤(0:Int))∧((0:Int)<(3:Int)))∧(((0:Int)≤(0:Int))∧((0:Int)<(1:Int)))∧(4≤140737488355328)∧K (.one (dB true)) []):=by kernel_rfl
 rw [e]
 exact ⟨⟨by decide,by decide,rfl⟩,⟨by decide,by decide⟩,⟨by decide,by decide⟩,by decide,by decide,by decide,by decide,by decide,⟨by decide,by decide⟩,⟨by decide,by decide⟩,⟨by decide,by decide⟩,⟨by decide,by decide⟩,⟨by decide,by decide⟩,by decide,hK⟩
theorem sound_q260:z03 Tryz.prog tab n_q260 c_q260:=z01 ok_q260 hg_q260 (by
 intro vs bs p v bs' h hp
 unfold c_q260 at h
 split at h
 ·cases h
  exact ⟨by kernel_rfl,rfl,.inl (run_q260  _ ⟨rfl,rfl⟩)⟩
 ·cases h)

def c_q262:z00:=fun vs bs=>match vs,bs with
 | [.one (.dat (.list .happening) l),.one (.dat (.list .offer) os)],[]=>some (some (os.length≤1000),.one (.dat (.list .happening) (z5z os l)),[])
 | _,_=>none
def Γ_q262:Ctx:=[(n_q20,c_q20)]
theorem ok_q262:Ok Tryz.prog tab Γ_q262:=(ok_nil.c hg_q20 sound_q20)
noncomputable def q262_L0:List It:=[.inLoop [14,13,12,5,4,1] (cSub fn_q262 [1,1,0,1,0,0]),.inBlock 0,.code (cSub fn_q262 [1,1,1])]
def q262_S0 (x0 x1:Int) (x2:List Vm.Happening) (x3:List Vm.Offer) (x4 x5:List Vm.Happening):St:=⟨[(14,.one (dI x0)),(13,.one (dI x1)),(12,.one (.dat (Ty.list Ty.happening) x2)),(5,.one (.own 0)),(4,.one (.own 1)),(1,.one (.dat (Ty.list Ty.offer) x3))],[(0,.arr Ty.happening x4),(1,.arr Ty.happening x5)],2⟩
theorem q262_vc (l:List Happening) (os:List Offer) (rec:RK) (K:KK):segD Γ_q262 tab fn_q262 0 K rec [.code (z05 fn_q262)] (z07 [.one (.dat (Ty.list Ty.happening) l),.one (.dat (Ty.list Ty.offer) os)] [])=(
 ((0:Int)≤(0:Int)∧(0:Int)≤min (len l:Int) 160∧min (len l:Int) 160≤(len l:Int)) ∧
 rec q262_L0 (q262_S0 0 (((len (slc l (Int.toNat 0) (Int.toNat (min (len l:Int) 160)))):Nat):Int) (slc l (Int.toNat 0) (Int.toNat (min (len l:Int) 160))) os [] [])):=by kernel_rfl
theorem zhm (x0 x1:Int) (x2:List Vm.Happening) (x3:List Vm.Offer) (x4 x5:List Vm.Happening) (rec:RK) (K:KK) v0 (hv0:v0=rec q262_L0 (q262_S0 (w64 (x0+1)) x1 x2 x3 (cat x4 ((⟨(nth x2 (Int.toNat x0) (Ty.dflt Ty.happening)).kind,(nth x2 (Int.toNat x0) (Ty.dflt Ty.happening)).unit,(nth x2 (Int.toNat x0) (Ty.dflt Ty.happening)).k,⟨((nth x2 (Int.toNat x0) (Ty.dflt Ty.happening)).o).roots,((nth x2 (Int.toNat x0) (Ty.dflt Ty.happening)).o).rootSigs,⟨(((nth x2 (Int.toNat x0) (Ty.dflt Ty.happening)).o).r).version,(((nth x2 (Int.toNat x0) (Ty.dflt Ty.happening)).o).r).til,(((nth x2 (Int.toNat x0) (Ty.dflt Ty.happening)).o).r).targets⟩,((nth x2 (Int.toNat x0) (Ty.dflt Ty.happening)).o).sigs,((nth x2 (Int.toNat x0) (Ty.dflt Ty.happening)).o).images⟩⟩:Vm.Happening)::[])) x5)):segD Γ_q262 tab fn_q262 0 K rec (ent q262_L0) (q262_S0 x0 x1 x2 x3 x4 x5)=(
 br (lti x0 x1)
 (((0:Int)≤x0∧x0<(len x2:Int)) ∧
 br (eqi (nth x2 (Int.toNat x0) (Ty.dflt Ty.happening)).kind 1)
 (br (lti 0 (len x3:Int))
 (((0:Int)<(len x3:Int)∧(len x3:Int)≤(1000:Int)) ∧
 ((0:Int)≤((nth x2 (Int.toNat x0) (Ty.dflt Ty.happening)).k % (len x3:Int))∧((nth x2 (Int.toNat x0) (Ty.dflt Ty.happening)).k % (len x3:Int))<(len x3:Int)) ∧
 (len x4+len ((⟨(nth x2 (Int.toNat x0) (Ty.dflt Ty.happening)).kind,(nth x2 (Int.toNat x0) (Ty.dflt Ty.happening)).unit,(nth x2 (Int.toNat x0) (Ty.dflt Ty.happening)).k,⟨(nth x3 (Int.toNat ((nth x2 (Int.toNat x0) (Ty.dflt Ty.happening)).k % (len x3:Int))) (Ty.dflt Ty.offer)).roots,(nth x3 (Int.toNat ((nth x2 (Int.toNat x0) (Ty.dflt Ty.happening)).k % (len x3:Int))) (Ty.dflt Ty.offer)).rootSigs,⟨((nth x3 (Int.toNat ((nth x2 (Int.toNat x0) (Ty.dflt Ty.happening)).k % (len x3:Int))) (Ty.dflt Ty.offer)).r).version,((nth x3 (Int.toNat ((nth x2 (Int.toNat x0) (Ty.dflt Ty.happening)).k % (len x3:Int))) (Ty.dflt Ty.offer)).r).til,((nth x3 (Int.toNat ((nth x2 (Int.toNat x0) (Ty.dflt Ty.happening)).k % (len x3:Int))) (Ty.dflt Ty.offer)).r).targets⟩,(nth x3 (Int.toNat ((nth x2 (Int.toNat x0) (Ty.dflt Ty.happening)).k % (len x3:Int))) (Ty.dflt Ty.offer)).sigs,(nth x3 (Int.toNat ((nth x2 (Int.toNat x0) (Ty.dflt Ty.happening)).k % (len x3:Int))) (Ty.dflt Ty.offer)).images⟩⟩:Vm.Happening)::[]))*160≤140737488355328 ∧
 rec q262_L0 (q262_S0 (w64 (x0+1)) x1 x2 x3 (cat x4 ((⟨(nth x2 (Int.toNat x0) (Ty.dflt Ty.happening)).kind,(nth x2 (Int.toNat x0) (Ty.dflt Ty.happening)).unit,(nth x2 (Int.toNat x0) (Ty.dflt Ty.happening)).k,⟨(nth x3 (Int.toNat ((nth x2 (Int.toNat x0) (Ty.dflt Ty.happening)).k % (len x3:Int))) (Ty.dflt Ty.offer)).roots,(nth x3 (Int.toNat ((nth x2 (Int.toNat x0) (Ty.dflt Ty.happening)).k % (len x3:Int))) (Ty.dflt Ty.offer)).rootSigs,⟨((nth x3 (Int.toNat ((nth x2 (Int.toNat x0) (Ty.dflt Ty.happening)).k % (len x3:Int))) (Ty.dflt Ty.offer)).r).version,((nth x3 (Int.toNat ((nth x2 (Int.toNat x0) (Ty.dflt Ty.happening)).k % (len x3:Int))) (Ty.dflt Ty.offer)).r).til,((nth x3 (Int.toNat ((nth x2 (Int.toNat x0) (Ty.dflt Ty.happening)).k % (len x3:Int))) (Ty.dflt Ty.offer)).r).targets⟩,(nth x3 (Int.toNat ((nth x2 (Int.toNat x0) (Ty.dflt Ty.happening)).k % (len x3:Int))) (Ty.dflt Ty.offer)).sigs,(nth x3 (Int.toNat ((nth x2 (Int.toNat x0) (Ty.dflt Ty.happening)).k % (len x3:Int))) (Ty.dflt Ty.offer)).images⟩⟩:Vm.Happening)::[])) x5))
 ((len x4+len ((⟨(nth x2 (Int.toNat x0) (Ty.dflt Ty.happening)).kind,(nth x2 (Int.toNat x0) (Ty.dflt Ty.happening)).unit,(nth x2 (Int.toNat x0) (Ty.dflt Ty.happening)).k,⟨((nth x2 (Int.toNat x0) (Ty.dflt Ty.happening)).o).roots,((nth x2 (Int.toNat x0) (Ty.dflt Ty.happening)).o).rootSigs,⟨(((nth x2 (Int.toNat x0) (Ty.dflt Ty.happening)).o).r).version,(((nth x2 (Int.toNat x0) (Ty.dflt Ty.happening)).o).r).til,(((nth x2 (Int.toNat x0) (Ty.dflt Ty.happening)).o).r).targets⟩,((nth x2 (Int.toNat x0) (Ty.dflt Ty.happening)).o).sigs,((nth x2 (Int.toNat x0) (Ty.dflt Ty.happening)).o).images⟩⟩:Vm.Happening)::[]))*160≤140737488355328 ∧
 v0))
 ((len x4+len ((⟨(nth x2 (Int.toNat x0) (Ty.dflt Ty.happening)).kind,(nth x2 (Int.toNat x0) (Ty.dflt Ty.happening)).unit,(nth x2 (Int.toNat x0) (Ty.dflt Ty.happening)).k,⟨((nth x2 (Int.toNat x0) (Ty.dflt Ty.happening)).o).roots,((nth x2 (Int.toNat x0) (Ty.dflt Ty.happening)).o).rootSigs,⟨(((nth x2 (Int.toNat x0) (Ty.dflt Ty.happening)).o).r).version,(((nth x2 (Int.toNat x0) (Ty.dflt Ty.happening)).o).r).til,(((nth x2 (Int.toNat x0) (Ty.dflt Ty.happening)).o).r).targets⟩,((nth x2 (Int.toNat x0) (Ty.dflt Ty.happening)).o).sigs,((nth x2 (Int.toNat x0) (Ty.dflt Ty.happening)).o).images⟩⟩:Vm.Happening)::[]))*160≤140737488355328 ∧
 v0))
 (K (.one (.dat (Ty.list Ty.happening) x4)) [])):=by subst_vars; kernel_rfl

theorem zg3 (l:List Happening) (os:List Offer) (hl:l.length≤160) (ho:os.length≤1000) (K:KK):∀ (d k:Nat) (acc:List Happening),k+d=l.length→acc.length≤k→K (.one (.dat (.list .happening) (acc++(l.drop k).map (offerX os)))) [] →
  goD Γ_q262 tab fn_q262 0 K (d+1) q262_L0 (q262_S0 (k:Int) (((len l):Nat):Int) l os acc [])
 | 0,k,acc,hk,ha,hK=>by
  rw [z09 (L:=q262_L0),zhm _ _ _ _ _ _ _ _ _ rfl]
  rw [List.drop_of_length_le (by omega),List.map_nil,List.append_nil] at hK
  exact z22 (by simp only [len]; omega) hK
 | d+1,k,acc,hk,ha,hK=>by
  rw [z09 (L:=q262_L0),zhm _ _ _ _ _ _ _ _ _ rfl,z08]
  rw [z0q (l:=l) (by omega) (Ty.dflt .happening),List.map_cons] at hK
  obtain ⟨x,hx⟩:∃ x,nth l k (Ty.dflt .happening)=x:=⟨_,rfl⟩
  rw [hx] at hK ⊢
  have next:∀ y,offerX os x=y→goD Γ_q262 tab fn_q262 0 K (d+1) q262_L0 (q262_S0 ((k+1:Nat):Int) (((len l):Nat):Int) l os (acc++[y]) []):=fun y hy=>zg3 l os hl ho K d (k+1) (acc++[y]) (by omega) (by simp; omega) (by rw [hy] at hK; rw [List.append_assoc]; exact hK)
  refine z2o (by simp only [len]; omega) ⟨⟨by omega,by simp only [len]; omega⟩,z27 (fun h1=>z1a (fun h2=>?_) (fun h2=>?_)) (fun h1=>?_)⟩
  ·have h2:0<os.length:=by simp only [len] at h2; omega
   have e:offerX os x=_:=if_pos ⟨h1,h2⟩
   have k0:=Int.emod_nonneg x.k (show ((os.length:Nat):Int)≠0 by omega)
   have k1:=Int.emod_lt_of_pos x.k (show 0<((os.length:Nat):Int) by omega)
   refine ⟨⟨by simp only [len]; omega,by simp only [len]; omega⟩,⟨k0,k1⟩,by simp only [len,List.length_cons,List.length_nil]; omega,?_⟩
   rw [z0f (by omega)]
   exact next _ e
  ·have e:offerX os x=x:=if_neg (fun h=>by have:=h.2; simp only [len] at h2; omega)
   refine ⟨by simp only [len,List.length_cons,List.length_nil]; omega,?_⟩
   rw [z0f (by omega)]
   exact next _ e
  ·have e:offerX os x=x:=if_neg (fun h=>h1 h.1)
   refine ⟨by simp only [len,List.length_cons,List.length_nil]; omega,?_⟩
   rw [z0f (by omega)]
   exact next _ e
theorem run_q262 (hp:os.length≤1000) (K:KK) (hK:K (.one (.dat (.list .happening) (z5z os l))) []):GD Γ_q262 fn_q262 0 K [.one (.dat (.list .happening) l),.one (.dat (.list .offer) os)] []:=by
 obtain ⟨L,hL⟩:∃ L,L=l.take 160:=⟨_,rfl⟩
 have hl:L.length≤160:=by rw [hL]; simp; omega
 have e:slc l (Int.toNat 0) (Int.toNat (min (((len l):Nat):Int) 160))=L:=by
  rw [hL]
  have:(min (((len l):Nat):Int) 160).toNat=min l.length 160:=by simp only [len]; omega
  rw [this]
  simp only [slc,Int.toNat_zero,List.drop_zero]
  by_cases h:l.length≤160
  ·rw [Nat.min_eq_left h,List.take_length,List.take_of_length_le h]
  ·rw [Nat.min_eq_right (by omega)]
 refine ⟨L.length+2,?_⟩
 rw [z02,q262_vc _ _ _ _,e]
 refine ⟨⟨by omega,by simp only [len]; omega,by omega⟩,zg3 L os hl hp K L.length 0 [] (by omega) (Nat.le_refl _) ?_⟩
 unfold z5z at hK
 rw [← hL] at hK
 exact hK
theorem sound_q262:z03 Tryz.prog tab n_q262 c_q262:=z01 ok_q262 hg_q262 (by
 intro vs bs p v bs' h hp
 unfold c_q262 at h
 split at h
 ·cases h
  exact ⟨by kernel_rfl,rfl,.inl (run_q262 _ _ hp.1 _ ⟨rfl,rfl⟩)⟩
 ·cases h)

def c_q240:z00:=fun vs bs=>match vs,bs with
 | [.agg [.dat (.list .str) vb,.dat (.list .signed) vs,.dat (.list .int) ws,.dat .int fu,.dat .bool up,.dat .int tv,.dat (.list .int) tk,.dat .int tt,.dat .int tn,.dat (.list .bool) vo,.dat (.list .bool) di,.dat (.list .unitd) us,.dat (.list .campaign) cs,.dat (.list .message) net,.dat .int now],.agg [.dat .int hk,.dat .int hu,.dat .int hn,.dat (.list .root) rs,.dat (.list (.list .int)) rg,.dat .int ov,.dat .int ou,.dat (.list .target) ts,.dat (.list .int) sg,.dat (.list (.list .int)) im]],[]=>some (none,.tup [.agg [.dat (Ty.list Ty.str) (doV ⟨vb,vs,⟨⟨ws,fu⟩,up,⟨⟨tv,tk,tt⟩,tn⟩,vo,di⟩,us,cs,net,now⟩ ⟨hk,hu,hn,⟨rs,rg,⟨ov,ou,ts⟩,sg,im⟩⟩).1.b,.dat (Ty.list Ty.signed) (doV ⟨vb,vs,⟨⟨ws,fu⟩,up,⟨⟨tv,tk,tt⟩,tn⟩,vo,di⟩,us,cs,net,now⟩ ⟨hk,hu,hn,⟨rs,rg,⟨ov,ou,ts⟩,sg,im⟩⟩).1.s,dL (doV ⟨vb,vs,⟨⟨ws,fu⟩,up,⟨⟨tv,tk,tt⟩,tn⟩,vo,di⟩,us,cs,net,now⟩ ⟨hk,hu,hn,⟨rs,rg,⟨ov,ou,ts⟩,sg,im⟩⟩).1.g.f.words,dI (doV ⟨vb,vs,⟨⟨ws,fu⟩,up,⟨⟨tv,tk,tt⟩,tn⟩,vo,di⟩,us,cs,net,now⟩ ⟨hk,hu,hn,⟨rs,rg,⟨ov,ou,ts⟩,sg,im⟩⟩).1.g.f.fuel,dB (doV ⟨vb,vs,⟨⟨ws,fu⟩,up,⟨⟨tv,tk,tt⟩,tn⟩,vo,di⟩,us,cs,net,now⟩ ⟨hk,hu,hn,⟨rs,rg,⟨ov,ou,ts⟩,sg,im⟩⟩).1.g.up,dI (doV ⟨vb,vs,⟨⟨ws,fu⟩,up,⟨⟨tv,tk,tt⟩,tn⟩,vo,di⟩,us,cs,net,now⟩ ⟨hk,hu,hn,⟨rs,rg,⟨ov,ou,ts⟩,sg,im⟩⟩).1.g.t.r.version,dL (doV ⟨vb,vs,⟨⟨ws,fu⟩,up,⟨⟨tv,tk,tt⟩,tn⟩,vo,di⟩,us,cs,net,now⟩ ⟨hk,hu,hn,⟨rs,rg,⟨ov,ou,ts⟩,sg,im⟩⟩).1.g.t.r.keys,dI (doV ⟨vb,vs,⟨⟨ws,fu⟩,up,⟨⟨tv,tk,tt⟩,tn⟩,vo,di⟩,us,cs,net,now⟩ ⟨hk,hu,hn,⟨rs,rg,⟨ov,ou,ts⟩,sg,im⟩⟩).1.g.t.r.thr,dI (doV ⟨vb,vs,⟨⟨ws,fu⟩,up,⟨⟨tv,tk,tt⟩,tn⟩,vo,di⟩,us,cs,net,now⟩ ⟨hk,hu,hn,⟨rs,rg,⟨ov,ou,ts⟩,sg,im⟩⟩).1.g.t.version,dLb (doV ⟨vb,vs,⟨⟨ws,fu⟩,up,⟨⟨tv,tk,tt⟩,tn⟩,vo,di⟩,us,cs,net,now⟩ ⟨hk,hu,hn,⟨rs,rg,⟨ov,ou,ts⟩,sg,im⟩⟩).1.g.voted,dLb (doV ⟨vb,vs,⟨⟨ws,fu⟩,up,⟨⟨tv,tk,tt⟩,tn⟩,vo,di⟩,us,cs,net,now⟩ ⟨hk,hu,hn,⟨rs,rg,⟨ov,ou,ts⟩,sg,im⟩⟩).1.g.did,.dat (Ty.list Ty.unitd) (doV ⟨vb,vs,⟨⟨ws,fu⟩,up,⟨⟨tv,tk,tt⟩,tn⟩,vo,di⟩,us,cs,net,now⟩ ⟨hk,hu,hn,⟨rs,rg,⟨ov,ou,ts⟩,sg,im⟩⟩).1.units,.dat (Ty.list Ty.campaign) (doV ⟨vb,vs,⟨⟨ws,fu⟩,up,⟨⟨tv,tk,tt⟩,tn⟩,vo,di⟩,us,cs,net,now⟩ ⟨hk,hu,hn,⟨rs,rg,⟨ov,ou,ts⟩,sg,im⟩⟩).1.campaigns,dM (doV ⟨vb,vs,⟨⟨ws,fu⟩,up,⟨⟨tv,tk,tt⟩,tn⟩,vo,di⟩,us,cs,net,now⟩ ⟨hk,hu,hn,⟨rs,rg,⟨ov,ou,ts⟩,sg,im⟩⟩).1.net,dI (doV ⟨vb,vs,⟨⟨ws,fu⟩,up,⟨⟨tv,tk,tt⟩,tn⟩,vo,di⟩,us,cs,net,now⟩ ⟨hk,hu,hn,⟨rs,rg,⟨ov,ou,ts⟩,sg,im⟩⟩).1.now],.one (dI (doV ⟨vb,vs,⟨⟨ws,fu⟩,up,⟨⟨tv,tk,tt⟩,tn⟩,vo,di⟩,us,cs,net,now⟩ ⟨hk,hu,hn,⟨rs,rg,⟨ov,ou,ts⟩,sg,im⟩⟩).2)],[])
 | _,_=>none
def Γ_q240:Ctx:=[(n_q230,c_q230),(n_q231,c_q231),(n_q239,c_q239)]
theorem ok_q240:Ok Tryz.prog tab Γ_q240:=(((ok_nil.c hg_q239 sound_q239).c hg_q231 sound_q231).c hg_q230 sound_q230)
theorem q240_vc (vb:List (List UInt8)) (vs:List Signed) (ws:List Int) (fu:Int) (up:Bool) (tv:Int) (tk:List Int) (tt tn:Int) (vo di:List Bool) (us:List UnitD) (cs:List Campaign) (net:List Message) (now hk hu hn:Int) (rs:List Root) (rg:List (List Int)) (ov ou:Int) (ts:List Vm.Target) (sg:List Int) (im:List (List Int)) (rec:RK) (K:KK) v0 (hv0:v0=checkV ⟨vb,vs,⟨⟨ws,fu⟩,up,⟨⟨tv,tk,tt⟩,tn⟩,vo,di⟩,us,cs,net,now⟩) v1 (hv1:v1=okW ⟨vb,vs,⟨⟨ws,fu⟩,up,⟨⟨tv,tk,tt⟩,tn⟩,vo,di⟩,us,cs,net,now⟩) v2 (hv2:v2=z0y ⟨vb,vs,⟨⟨ws,fu⟩,up,⟨⟨tv,tk,tt⟩,tn⟩,vo,di⟩,us,cs,net,now⟩ ⟨hk,hu,hn,⟨rs,rg,⟨ov,ou,ts⟩,sg,im⟩⟩):segD Γ_q240 tab fn_q240 0 K rec [.code (z05 fn_q240)] (z07 [.agg (aV vb vs ws fu up tv tk tt tn vo di (.dat (Ty.list Ty.unitd) us) (.dat (Ty.list Ty.campaign) cs) (dM net) now),.agg [dI hk,dI hu,dI hn,.dat (Ty.list Ty.root) rs,dR rg,dI ov,dI ou,.dat (Ty.list Ty.target) ts,dL sg,dR im]] [])=(
 br (!(eqi v0 0))
 (K (.tup [.agg zV,.one (dI v0)]) [])
 (v1=true ∧
 v1=true ∧
 br (!(eqi v2.snd 0))
 (K (.tup [.agg zV,.one (dI v2.snd)]) [])
 (K (.tup [.agg (cV v2.fst (.dat (Ty.list Ty.unitd) v2.fst.units) (.dat (Ty.list Ty.campaign) v2.fst.campaigns) (dM v2.fst.net)),.one (dI 0)]) []))):=by subst_vars; kernel_rfl

theorem run_q240 (K:KK) (hK:K (.tup [.agg [.dat (Ty.list Ty.str) (doV ⟨vb,vs,⟨⟨ws,fu⟩,up,⟨⟨tv,tk,tt⟩,tn⟩,vo,di⟩,us,cs,net,now⟩ ⟨hk,hu,hn,⟨rs,rg,⟨ov,ou,ts⟩,sg,im⟩⟩).1.b,.dat (Ty.list Ty.signed) (doV ⟨vb,vs,⟨⟨ws,fu⟩,up,⟨⟨tv,tk,tt⟩,tn⟩,vo,di⟩,us,cs,net,now⟩ ⟨hk,hu,hn,⟨rs,rg,⟨ov,ou,ts⟩,sg,im⟩⟩).1.s,dL (doV ⟨vb,vs,⟨⟨ws,fu⟩,up,⟨⟨tv,tk,tt⟩,tn⟩,vo,di⟩,us,cs,net,now⟩ ⟨hk,hu,hn,⟨rs,rg,⟨ov,ou,ts⟩,sg,im⟩⟩).1.g.f.words,dI (doV ⟨vb,vs,⟨⟨ws,fu⟩,up,⟨⟨tv,tk,tt⟩,tn⟩,vo,di⟩,us,cs,net,now⟩ ⟨hk,hu,hn,⟨rs,rg,⟨ov,ou,ts⟩,sg,im⟩⟩).1.g.f.fuel,dB (doV ⟨vb,vs,⟨⟨ws,fu⟩,up,⟨⟨tv,tk,tt⟩,tn⟩,vo,di⟩,us,cs,net,now⟩ ⟨hk,hu,hn,⟨rs,rg,⟨ov,ou,ts⟩,sg,im⟩⟩).1.g.up,dI (doV ⟨vb,vs,⟨⟨ws,fu⟩,up,⟨⟨tv,tk,tt⟩,tn⟩,vo,di⟩,us,cs,net,now⟩ ⟨hk,hu,hn,⟨rs,rg,⟨ov,ou,ts⟩,sg,im⟩⟩).1.g.t.r.version,dL (doV ⟨vb,vs,⟨⟨ws,fu⟩,up,⟨⟨tv,tk,tt⟩,tn⟩,vo,di⟩,us,cs,net,now⟩ ⟨hk,hu,hn,⟨rs,rg,⟨ov,ou,ts⟩,sg,im⟩⟩).1.g.t.r.keys,dI (doV ⟨vb,vs,⟨⟨ws,fu⟩,up,⟨⟨tv,tk,tt⟩,tn⟩,vo,di⟩,us,cs,net,now⟩ ⟨hk,hu,hn,⟨rs,rg,⟨ov,ou,ts⟩,sg,im⟩⟩).1.g.t.r.thr,dI (doV ⟨vb,vs,⟨⟨ws,fu⟩,up,⟨⟨tv,tk,tt⟩,tn⟩,vo,di⟩,us,cs,net,now⟩ ⟨hk,hu,hn,⟨rs,rg,⟨ov,ou,ts⟩,sg,im⟩⟩).1.g.t.version,dLb (doV ⟨vb,vs,⟨⟨ws,fu⟩,up,⟨⟨tv,tk,tt⟩,tn⟩,vo,di⟩,us,cs,net,now⟩ ⟨hk,hu,hn,⟨rs,rg,⟨ov,ou,ts⟩,sg,im⟩⟩).1.g.voted,dLb (doV ⟨vb,vs,⟨⟨ws,fu⟩,up,⟨⟨tv,tk,tt⟩,tn⟩,vo,di⟩,us,cs,net,now⟩ ⟨hk,hu,hn,⟨rs,rg,⟨ov,ou,ts⟩,sg,im⟩⟩).1.g.did,.dat (Ty.list Ty.unitd) (doV ⟨vb,vs,⟨⟨ws,fu⟩,up,⟨⟨tv,tk,tt⟩,tn⟩,vo,di⟩,us,cs,net,now⟩ ⟨hk,hu,hn,⟨rs,rg,⟨ov,ou,ts⟩,sg,im⟩⟩).1.units,.dat (Ty.list Ty.campaign) (doV ⟨vb,vs,⟨⟨ws,fu⟩,up,⟨⟨tv,tk,tt⟩,tn⟩,vo,di⟩,us,cs,net,now⟩ ⟨hk,hu,hn,⟨rs,rg,⟨ov,ou,ts⟩,sg,im⟩⟩).1.campaigns,dM (doV ⟨vb,vs,⟨⟨ws,fu⟩,up,⟨⟨tv,tk,tt⟩,tn⟩,vo,di⟩,us,cs,net,now⟩ ⟨hk,hu,hn,⟨rs,rg,⟨ov,ou,ts⟩,sg,im⟩⟩).1.net,dI (doV ⟨vb,vs,⟨⟨ws,fu⟩,up,⟨⟨tv,tk,tt⟩,tn⟩,vo,di⟩,us,cs,net,now⟩ ⟨hk,hu,hn,⟨rs,rg,⟨ov,ou,ts⟩,sg,im⟩⟩).1.now],.one (dI (doV ⟨vb,vs,⟨⟨ws,fu⟩,up,⟨⟨tv,tk,tt⟩,tn⟩,vo,di⟩,us,cs,net,now⟩ ⟨hk,hu,hn,⟨rs,rg,⟨ov,ou,ts⟩,sg,im⟩⟩).2)]) []):GD Γ_q240 fn_q240 0 K [.agg (aV vb vs ws fu up tv tk tt tn vo di (.dat (Ty.list Ty.unitd) us) (.dat (Ty.list Ty.campaign) cs) (dM net) now),.agg [dI hk,dI hu,dI hn,.dat (.list .root) rs,dR rg,dI ov,dI ou,.dat (.list .target) ts,dL sg,dR im]] []:=by
 refine ⟨1,?_⟩
 rw [z02,q240_vc _ _ _ _ _ _ _ _ _ _ _ _ _ _ _ _ _ _ _ _ _ _ _ _ _ _ _ _ rfl _ rfl _ rfl]
 unfold doV at hK
 refine z1c (fun h=>?_) (fun h=>⟨z34.2 (okV_w (z8l h)),z34.2 (okV_w (z8l h)),z1c (fun h2=>?_) (fun h2=>?_)⟩)
 ·rw [if_neg h] at hK; exact hK
 ·rw [if_pos h,if_neg h2] at hK; exact hK
 ·rw [if_pos h,if_pos h2] at hK; exact hK
theorem sound_q240:z03 Tryz.prog tab n_q240 c_q240:=z01 ok_q240 hg_q240 (by
 intro vs bs p v bs' h hp
 unfold c_q240 at h
 split at h
 ·cases h
  exact ⟨by kernel_rfl,rfl,.inl (run_q240 _ _ _ _ _ _ _ _ _ _ _ _ _ _ _ _ _ _ _ _ _ _ _ _ _ _ ⟨rfl,rfl⟩)⟩
 ·cases h)

def c_q263:z00:=fun vs bs=>match vs,bs with
 | [.agg [.dat .int hk,.dat .int hu,.dat .int hn,.dat (.list .root) rs,.dat (.list (.list .int)) rg,.dat .int ov,.dat .int ou,.dat (.list .target) ts,.dat (.list .int) sg,.dat (.list (.list .int)) im],.one (.ptr 0 0)],[.box [.dat (.list .str) vb,.dat (.list .signed) vs,.dat (.list .int) ws,.dat .int fu,.dat .bool up,.dat .int tv,.dat (.list .int) tk,.dat .int tt,.dat .int tn,.dat (.list .bool) vo,.dat (.list .bool) di,.dat (.list .unitd) us,.dat (.list .campaign) cs,.dat (.list .message) net,.dat .int now]]=>some (none,.tup [],[.box [.dat (Ty.list Ty.str) (doneV ⟨vb,vs,⟨⟨ws,fu⟩,up,⟨⟨tv,tk,tt⟩,tn⟩,vo,di⟩,us,cs,net,now⟩ ⟨hk,hu,hn,⟨rs,rg,⟨ov,ou,ts⟩,sg,im⟩⟩).b,.dat (Ty.list Ty.signed) (doneV ⟨vb,vs,⟨⟨ws,fu⟩,up,⟨⟨tv,tk,tt⟩,tn⟩,vo,di⟩,us,cs,net,now⟩ ⟨hk,hu,hn,⟨rs,rg,⟨ov,ou,ts⟩,sg,im⟩⟩).s,dL (doneV ⟨vb,vs,⟨⟨ws,fu⟩,up,⟨⟨tv,tk,tt⟩,tn⟩,vo,di⟩,us,cs,net,now⟩ ⟨hk,hu,hn,⟨rs,rg,⟨ov,ou,ts⟩,sg,im⟩⟩).g.f.words,dI (doneV ⟨vb,vs,⟨⟨ws,fu⟩,up,⟨⟨tv,tk,tt⟩,tn⟩,vo,di⟩,us,cs,net,now⟩ ⟨hk,hu,hn,⟨rs,rg,⟨ov,ou,ts⟩,sg,im⟩⟩).g.f.fuel,dB (doneV ⟨vb,vs,⟨⟨ws,fu⟩,up,⟨⟨tv,tk,tt⟩,tn⟩,vo,di⟩,us,cs,net,now⟩ ⟨hk,hu,hn,⟨rs,rg,⟨ov,ou,ts⟩,sg,im⟩⟩).g.up,dI (doneV ⟨vb,vs,⟨⟨ws,fu⟩,up,⟨⟨tv,tk,tt⟩,tn⟩,vo,di⟩,us,cs,net,now⟩ ⟨hk,hu,hn,⟨rs,rg,⟨ov,ou,ts⟩,sg,im⟩⟩).g.t.r.version,dL (doneV ⟨vb,vs,⟨⟨ws,fu⟩,up,⟨⟨tv,tk,tt⟩,tn⟩,vo,di⟩,us,cs,net,now⟩ ⟨hk,hu,hn,⟨rs,rg,⟨ov,ou,ts⟩,sg,im⟩⟩).g.t.r.keys,dI (doneV ⟨vb,vs,⟨⟨ws,fu⟩,up,⟨⟨tv,tk,tt⟩,tn⟩,vo,di⟩,us,cs,net,now⟩ ⟨hk,hu,hn,⟨rs,rg,⟨ov,ou,ts⟩,sg,im⟩⟩).g.t.r.thr,dI (doneV ⟨vb,vs,⟨⟨ws,fu⟩,up,⟨⟨tv,tk,tt⟩,tn⟩,vo,di⟩,us,cs,net,now⟩ ⟨hk,hu,hn,⟨rs,rg,⟨ov,ou,ts⟩,sg,im⟩⟩).g.t.version,dLb (doneV ⟨vb,vs,⟨⟨ws,fu⟩,up,⟨⟨tv,tk,tt⟩,tn⟩,vo,di⟩,us,cs,net,now⟩ ⟨hk,hu,hn,⟨rs,rg,⟨ov,ou,ts⟩,sg,im⟩⟩).g.voted,dLb (doneV ⟨vb,vs,⟨⟨ws,fu⟩,up,⟨⟨tv,tk,tt⟩,tn⟩,vo,di⟩,us,cs,net,now⟩ ⟨hk,hu,hn,⟨rs,rg,⟨ov,ou,ts⟩,sg,im⟩⟩).g.did,.dat (Ty.list Ty.unitd) (doneV ⟨vb,vs,⟨⟨ws,fu⟩,up,⟨⟨tv,tk,tt⟩,tn⟩,vo,di⟩,us,cs,net,now⟩ ⟨hk,hu,hn,⟨rs,rg,⟨ov,ou,ts⟩,sg,im⟩⟩).units,.dat (Ty.list Ty.campaign) (doneV ⟨vb,vs,⟨⟨ws,fu⟩,up,⟨⟨tv,tk,tt⟩,tn⟩,vo,di⟩,us,cs,net,now⟩ ⟨hk,hu,hn,⟨rs,rg,⟨ov,ou,ts⟩,sg,im⟩⟩).campaigns,dM (doneV ⟨vb,vs,⟨⟨ws,fu⟩,up,⟨⟨tv,tk,tt⟩,tn⟩,vo,di⟩,us,cs,net,now⟩ ⟨hk,hu,hn,⟨rs,rg,⟨ov,ou,ts⟩,sg,im⟩⟩).net,dI (doneV ⟨vb,vs,⟨⟨ws,fu⟩,up,⟨⟨tv,tk,tt⟩,tn⟩,vo,di⟩,us,cs,net,now⟩ ⟨hk,hu,hn,⟨rs,rg,⟨ov,ou,ts⟩,sg,im⟩⟩).now]])
 | _,_=>none
def Γ_q263:Ctx:=[(n_q240,c_q240)]
theorem ok_q263:Ok Tryz.prog tab Γ_q263:=(ok_nil.c hg_q240 sound_q240)
theorem q263_vc (vb:List (List UInt8)) (vs:List Signed) (ws:List Int) (fu:Int) (up:Bool) (tv:Int) (tk:List Int) (tt tn:Int) (vo di:List Bool) (us:List UnitD) (cs:List Campaign) (net:List Message) (now hk hu hn:Int) (rs:List Root) (rg:List (List Int)) (ov ou:Int) (ts:List Vm.Target) (sg:List Int) (im:List (List Int)) (rec:RK) (K:KK) v0 (hv0:v0=doV ⟨vb,vs,⟨⟨ws,fu⟩,up,⟨⟨tv,tk,tt⟩,tn⟩,vo,di⟩,us,cs,net,now⟩ ⟨hk,hu,hn,⟨rs,rg,⟨ov,ou,ts⟩,sg,im⟩⟩):segD Γ_q263 tab fn_q263 1 K rec [.code (z05 fn_q263)] (z07 [.agg [dI hk,dI hu,dI hn,.dat (Ty.list Ty.root) rs,dR rg,dI ov,dI ou,.dat (Ty.list Ty.target) ts,dL sg,dR im],.one (.ptr 0 0)] [.box (aV vb vs ws fu up tv tk tt tn vo di (.dat (Ty.list Ty.unitd) us) (.dat (Ty.list Ty.campaign) cs) (dM net) now)])=(
 br (eqi v0.snd 0)
 (K (.tup []) [.box (cV v0.fst (.dat (Ty.list Ty.unitd) v0.fst.units) (.dat (Ty.list Ty.campaign) v0.fst.campaigns) (dM v0.fst.net))])
 (K (.tup []) [.box (aV vb vs ws fu up tv tk tt tn vo di (.dat (Ty.list Ty.unitd) us) (.dat (Ty.list Ty.campaign) cs) (dM net) now)])):=by subst_vars; kernel_rfl

theorem run_q263 (K:KK) (hK:K (.tup []) [.box [.dat (Ty.list Ty.str) (doneV ⟨vb,vs,⟨⟨ws,fu⟩,up,⟨⟨tv,tk,tt⟩,tn⟩,vo,di⟩,us,cs,net,now⟩ ⟨hk,hu,hn,⟨rs,rg,⟨ov,ou,ts⟩,sg,im⟩⟩).b,.dat (Ty.list Ty.signed) (doneV ⟨vb,vs,⟨⟨ws,fu⟩,up,⟨⟨tv,tk,tt⟩,tn⟩,vo,di⟩,us,cs,net,now⟩ ⟨hk,hu,hn,⟨rs,rg,⟨ov,ou,ts⟩,sg,im⟩⟩).s,dL (doneV ⟨vb,vs,⟨⟨ws,fu⟩,up,⟨⟨tv,tk,tt⟩,tn⟩,vo,di⟩,us,cs,net,now⟩ ⟨hk,hu,hn,⟨rs,rg,⟨ov,ou,ts⟩,sg,im⟩⟩).g.f.words,dI (doneV ⟨vb,vs,⟨⟨ws,fu⟩,up,⟨⟨tv,tk,tt⟩,tn⟩,vo,di⟩,us,cs,net,now⟩ ⟨hk,hu,hn,⟨rs,rg,⟨ov,ou,ts⟩,sg,im⟩⟩).g.f.fuel,dB (doneV ⟨vb,vs,⟨⟨ws,fu⟩,up,⟨⟨tv,tk,tt⟩,tn⟩,vo,di⟩,us,cs,net,now⟩ ⟨hk,hu,hn,⟨rs,rg,⟨ov,ou,ts⟩,sg,im⟩⟩).g.up,dI (doneV ⟨vb,vs,⟨⟨ws,fu⟩,up,⟨⟨tv,tk,tt⟩,tn⟩,vo,di⟩,us,cs,net,now⟩ ⟨hk,hu,hn,⟨rs,rg,⟨ov,ou,ts⟩,sg,im⟩⟩).g.t.r.version,dL (doneV ⟨vb,vs,⟨⟨ws,fu⟩,up,⟨⟨tv,tk,tt⟩,tn⟩,vo,di⟩,us,cs,net,now⟩ ⟨hk,hu,hn,⟨rs,rg,⟨ov,ou,ts⟩,sg,im⟩⟩).g.t.r.keys,dI (doneV ⟨vb,vs,⟨⟨ws,fu⟩,up,⟨⟨tv,tk,tt⟩,tn⟩,vo,di⟩,us,cs,net,now⟩ ⟨hk,hu,hn,⟨rs,rg,⟨ov,ou,ts⟩,sg,im⟩⟩).g.t.r.thr,dI (doneV ⟨vb,vs,⟨⟨ws,fu⟩,up,⟨⟨tv,tk,tt⟩,tn⟩,vo,di⟩,us,cs,net,now⟩ ⟨hk,hu,hn,⟨rs,rg,⟨ov,ou,ts⟩,sg,im⟩⟩).g.t.version,dLb (doneV ⟨vb,vs,⟨⟨ws,fu⟩,up,⟨⟨tv,tk,tt⟩,tn⟩,vo,di⟩,us,cs,net,now⟩ ⟨hk,hu,hn,⟨rs,rg,⟨ov,ou,ts⟩,sg,im⟩⟩).g.voted,dLb (doneV ⟨vb,vs,⟨⟨ws,fu⟩,up,⟨⟨tv,tk,tt⟩,tn⟩,vo,di⟩,us,cs,net,now⟩ ⟨hk,hu,hn,⟨rs,rg,⟨ov,ou,ts⟩,sg,im⟩⟩).g.did,.dat (Ty.list Ty.unitd) (doneV ⟨vb,vs,⟨⟨ws,fu⟩,up,⟨⟨tv,tk,tt⟩,tn⟩,vo,di⟩,us,cs,net,now⟩ ⟨hk,hu,hn,⟨rs,rg,⟨ov,ou,ts⟩,sg,im⟩⟩).units,.dat (Ty.list Ty.campaign) (doneV ⟨vb,vs,⟨⟨ws,fu⟩,up,⟨⟨tv,tk,tt⟩,tn⟩,vo,di⟩,us,cs,net,now⟩ ⟨hk,hu,hn,⟨rs,rg,⟨ov,ou,ts⟩,sg,im⟩⟩).campaigns,dM (doneV ⟨vb,vs,⟨⟨ws,fu⟩,up,⟨⟨tv,tk,tt⟩,tn⟩,vo,di⟩,us,cs,net,now⟩ ⟨hk,hu,hn,⟨rs,rg,⟨ov,ou,ts⟩,sg,im⟩⟩).net,dI (doneV ⟨vb,vs,⟨⟨ws,fu⟩,up,⟨⟨tv,tk,tt⟩,tn⟩,vo,di⟩,us,cs,net,now⟩ ⟨hk,hu,hn,⟨rs,rg,⟨ov,ou,ts⟩,sg,im⟩⟩).now]]):GD Γ_q263 fn_q263 1 K [.agg [dI hk,dI hu,dI hn,.dat (.list .root) rs,dR rg,dI ov,dI ou,.dat (.list .target) ts,dL sg,dR im],.one (.ptr 0 0)] [.box (aV vb vs ws fu up tv tk tt tn vo di (.dat (Ty.list Ty.unitd) us) (.dat (Ty.list Ty.campaign) cs) (dM net) now)]:=by
 refine ⟨1,?_⟩
 rw [z02,q263_vc _ _ _ _ _ _ _ _ _ _ _ _ _ _ _ _ _ _ _ _ _ _ _ _ _ _ _ _ rfl]
 unfold doneV at hK
 refine z27 (fun h=>?_) (fun h=>?_)
 ·rw [if_pos h] at hK; exact hK
 ·rw [if_neg h] at hK; exact hK
theorem sound_q263:z03 Tryz.prog tab n_q263 c_q263:=z01 ok_q263 hg_q263 (by
 intro vs bs p v bs' h hp
 unfold c_q263 at h
 split at h
 ·cases h
  exact ⟨by kernel_rfl,rfl,.inl (run_q263 _ _ _ _ _ _ _ _ _ _ _ _ _ _ _ _ _ _ _ _ _ _ _ _ _ _ ⟨rfl,rfl⟩)⟩
 ·cases h)
end Go.Proofs.YtlbppjmekiemiacGreatDoor
