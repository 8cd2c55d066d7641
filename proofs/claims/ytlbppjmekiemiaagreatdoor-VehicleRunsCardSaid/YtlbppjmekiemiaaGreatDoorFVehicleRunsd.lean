/- What the functions of VehicleRuns compute (part 4 of 5). No condition. -/
import Derived.Test.YtlbppjmekiemiaaGreatDoorFVehicleRunsc
import Derived.KernelRfl
namespace Go.Proofs.YtlbppjmekiemiaaGreatDoor
noncomputable section
open bE
set_option maxHeartbeats 4000000
variable (cy up:Bool) (fu bD cg mk ba a8 ai aj ak:Int) (aa Y:c9) (cs:List Change) (bT ah ws:aJ)
def Gc:bd
 |[.agg [.E (.list .str) b],.one (.E (.list .signed) l),.agg [.E .int v,.E (.list .int) aF,.E .int t,.E .int n],.agg [.E .int eD,.E (.list .int) eh,.E .int eL],.one (.E (.list .int) a7)],[]=>some (none,.an [.agg [A (gE b l ⟨⟨v,aF,t⟩,n⟩ ⟨eD,eh,eL⟩ a7).1.r.version,af (gE b l ⟨⟨v,aF,t⟩,n⟩ ⟨eD,eh,eL⟩ a7).1.r.keys,A (gE b l ⟨⟨v,aF,t⟩,n⟩ ⟨eD,eh,eL⟩ a7).1.r.ej,A (gE b l ⟨⟨v,aF,t⟩,n⟩ ⟨eD,eh,eL⟩ a7).1.version],.one (A (gE b l ⟨⟨v,aF,t⟩,n⟩ ⟨eD,eh,eL⟩ a7).2)],[])
 |_,_=>none
def Nf:Ctx:=[(172,Ga),(69,B1),(124,BO),(13,y3),(173,Fz),(97,BN),(141,B2)]
def vg:List cw:=[.inLoop [68,67,66,16,12,11,10,8,7,1,4] (Code.sub (bF Tryz.f140) [1,1,1,1,1,1,1,0,1,0,0]),.inBlock 0,.code (Code.sub (bF Tryz.f140) [1,1,1,1,1,1,1,1])]
def KC(F al M ae:Int)(ao:cD)(aE:aJ)(aH:hE)(aS aZ bc bn:Int)(bo:aJ)(bm bC:Int)(bJ:aJ)(bI bM:Int)(bz:aJ):bP:=⟨[(68,.one (A F)),(67,.one (A al)),(66,.one (.own 0)),(16,.one (A M)),(12,.one (.fn 172 [])),(11,.one (A ae)),(10,.one (.ptr 1 0)),(8,.one (.ptr 2 0)),(7,.one (.ptr 3 0)),(1,.one (.E (z.list z.signed) ao)),(4,.one (af aE))],[(0,.arr z.root aH),(1,.box [A aS,.own 4,A aZ,A bc]),(2,.box [A bn,af bo,A bm]),(3,.box [A bC,af bJ,A bI,A bM]),(4,.arr z.int bz)],5⟩
theorem KD{F:Int}{rec:bZ}{K:aW}{al M ae ao aE aH aS aZ bc bn bo bm bC bJ bI bM bz}{v1 v0}(cd:v1=fun a=>KC a al M ae ao aE aH aS aZ bc bn bo bm bC bJ bI bM bz)(b0:v0=ir ao (nth aH (Int.toNat F) (z.H z.root)) aE M):b7 Nf tab Tryz.f140 0 K rec (cQ vg) (v1 F)=(
 J (aN F al)
 (((0:Int)<=F/\F<(len aH:Int)) /\
 Int.toNat F<len aH /\
 J (!(au v0.snd 0))
 (K (.an [.agg [A (0:Int),af [],A (0:Int),A (0:Int)],.one (A v0.snd)]) [])
 (J (aN v0.fst (nth aH (Int.toNat F) (z.H z.root)).ej)
 (K (.an [.agg [A (0:Int),af [],A (0:Int),A (0:Int)],.one (A 9)]) [])
 (rec vg (v1 (W (F+1))))))
 (K (.an [.agg [A bn,af bo,A bm,A bM],.one (A 0)]) [])):=by subst_vars;kernel_rfl

theorem acE(l:cD)(a7:aJ)(name ae aS aZ bc eD:Int)(eh:aJ)(eL v:Int)(aF:aJ)(t n:Int)(bz:aJ)(K:aW)
  (D:∀e,(if gJ l ⟨v,aF,t⟩ a7 name=0 then gJ l ⟨eD,eh,eL⟩ a7 name else gJ l ⟨v,aF,t⟩ a7 name)=e->K (.an [.agg [A (if e=0 then eD else 0),af (if e=0 then eh else []),A (if e=0 then eL else 0),A (if e=0 then n else 0)],.one (A e)]) []) :
  cl Nf tab Tryz.f140 0 K 3 vg (KC 0 (((len ((⟨v,aF,t⟩:qi)::((⟨eD,eh,eL⟩:qi)::[]))):Nat):Int) name ae l a7 [⟨v,aF,t⟩,⟨eD,eh,eL⟩] aS aZ bc eD eh eL v aF t n bz):=by
 have one:∀(r:qi) (p q s:Prop),(gJ l r a7 name≠0->(ir l r a7 name).2≠0->gJ l r a7 name=(ir l r a7 name).2->p)->(gJ l r a7 name=9->q)->(gJ l r a7 name=0->s)->J (!(au (ir l r a7 name).2 0)) p (J (aN (ir l r a7 name).1 r.ej) q s):=fun r p q s I G ab=>by
  refine bN (fun h=>?_) (fun h=>bq (fun g=>?_) (fun g=>?_))
  ·have e:gJ l r a7 name=(ir l r a7 name).2:=if_neg h;exact I (by rw[e];exact h) h e
  ·exact G (by unfold gJ;rw[if_pos h,if_pos g])
  ·exact ab (by unfold gJ;rw[if_pos h,if_neg (by omega)])
 rw[bW (L:=vg),KD rfl rfl];refine cS (by simp[len]) ⟨⟨by simp,by simp[len]⟩,by simp[len],?_⟩;refine one ⟨v,aF,t⟩ _ _ _ (fun h I G=>?_) (fun h=>?_) (fun h=>?_)
 ·have:=D _ (if_neg h);rw[if_neg h,if_neg h,if_neg h,if_neg h,G]at this;exact this
 ·have:=D 9 (by rw[h];rfl);exact this
 have aO:W ((0:Int)+1)=1:=by decide
 rw[aO];rw[bW (L:=vg),KD rfl rfl];refine cS (by simp[len]) ⟨⟨by simp,by simp[len]⟩,by simp[len],?_⟩;refine one ⟨eD,eh,eL⟩ _ _ _ (fun g I G=>?_) (fun g=>?_) (fun g=>?_)
 ·have:=D _ (if_pos h);rw[if_neg g,if_neg g,if_neg g,if_neg g,G]at this;exact this
 ·have:=D 9 (by rw[if_pos h,g]);exact this
 have aX:W ((1:Int)+1)=2:=by decide
 rw[aX];rw[bW (L:=vg),KD rfl rfl];refine co (by simp[len]) ?_;have:=D 0 (by rw[if_pos h,g]);exact this
theorem ahE:bw 140 Gc:=b2 (Γ:=Nf) 0 (((((((bv.f Wt).f LZ).f agW).f LY).f L0).f Me).f ahC) Tryz.func140 (by kernel_rfl) fun vs ar=>by
 unfold Gc;split;rotate_left;trivial;rename_i b l v aF t n eD eh eL a7;refine⟨by kernel_rfl,fun K D=>?_⟩;refine⟨4,?_⟩;refine ck (fun rec=>(by kernel_rfl:_=(
  J (!(au (g2 ⟨⟨v,aF,t⟩,n⟩) 0))
  (K (.an [.agg [A (0:Int),af [],A (0:Int),A (0:Int)],.one (A (g2 ⟨⟨v,aF,t⟩,n⟩))]) [])
  (J (!(au (ht eD eh eL) 0))
  (K (.an [.agg [A (0:Int),af [],A (0:Int),A (0:Int)],.one (A (ht eD eh eL))]) [])
  (J (!(au (fH b) 0))
  (K (.an [.agg [A (0:Int),af [],A (0:Int),A (0:Int)],.one (A (fH b))]) [])
  (J (!(au (W (eD-1)) v))
  (K (.an [.agg [A (0:Int),af [],A (0:Int),A (0:Int)],.one (A 10)]) [])
  (ht eD eh eL=(0:Int) /\
  List.length b<=60 /\
  rec vg (KC 0 (((len ((⟨v,aF,t⟩:qi)::(⟨eD,eh,eL⟩:qi)::[])):Nat):Int) (fk (jO eD eh eL) b+1) 0 l a7 ((⟨v,aF,t⟩:qi)::(⟨eD,eh,eL⟩:qi)::[]) 0 0 0 eD eh eL v aF t n [])))))))) ?_
 have bad:∀e:Int,e≠0->q6 b l ⟨⟨v,aF,t⟩,n⟩ ⟨eD,eh,eL⟩ a7=e->K (.an [.agg [A 0,af [],A 0,A 0],.one (A e)]) []:=fun e bp h=>by
  rw[show gE b l ⟨⟨v,aF,t⟩,n⟩ ⟨eD,eh,eL⟩ a7=(lz,e)from by unfold gE;rw[if_neg (by rw[h];exact bp),h]]at D;exact D
 refine bN (fun h=>bad _ h (if_neg h)) (fun h=>?_);have em:q6 b l ⟨⟨v,aF,t⟩,n⟩ ⟨eD,eh,eL⟩ a7=_:=if_pos h;refine bN (fun G=>bad _ G (em.trans (if_neg G))) (fun G=>?_);have dL:=em.trans (if_pos G);refine bN (fun ab=>bad _ ab (dL.trans (if_neg ab))) (fun ab=>?_);have gr:=dL.trans (if_pos ab);obtain⟨gm,hy,_⟩:=qq G;rw[cc (by omega) (by omega)];refine bN (fun aV=>bad _ (by decide) (gr.trans (if_neg (by simp only;omega)))) (fun aV=>?_);have hZ:=gr.trans (if_pos (by simp only;omega));refine⟨G,rn ab,?_⟩;refine acE l a7 _ 0 0 0 0 eD eh eL v aF t n [] K (fun e bp=>?_);have mr:=hZ.trans bp
 by_cases c:e=0
 ·subst c;rw[show gE b l ⟨⟨v,aF,t⟩,n⟩ ⟨eD,eh,eL⟩ a7=(⟨⟨eD,eh,eL⟩,n⟩,0)from by unfold gE;rw[if_pos mr]]at D;exact D
 ·rw[if_neg c,if_neg c,if_neg c,if_neg c];exact bad e c mr

def FA:bd
 |[.agg [.E .int v,.E .int u,.E (.list .target) ts]],[]=>some (some (gD v u ts=0),.one (.E .str (lC v u ts)),[])
 |_,_=>none
def M3:Ctx:=[(148,Fy),(164,Cd)]
def xf:List cw:=[.inLoop [21,20,19,3,2] (Code.sub (bF Tryz.f142) [1,1,0,1,0,0]),.inBlock 0,.code (Code.sub (bF Tryz.f142) [1,1,1])]
def Kh(F al:Int)(M:LT)(ae:jx)(ao:cB):bP:=⟨[(21,.one (A F)),(20,.one (A al)),(19,.one (.E (z.list z.target) M)),(3,.one (.own 0)),(2,.one (.E z.str ae))],[(0,.arr z.str ao)],1⟩
theorem TX{F:Int}{ao:cB}{rec:bZ}{K:aW}{al M ae}{v3 v0 v1 aC}(ef:v3=fun a b=>Kh a al M ae b)(b0:v0=jL ((nth M (Int.toNat F) (z.H z.target)).unit::(nth M (Int.toNat F) (z.H z.target)).image::(nth M (Int.toNat F) (z.H z.target)).dp::[]))(cd:v1=fL ((nth M (Int.toNat F) (z.H z.target)).unit::(nth M (Int.toNat F) (z.H z.target)).image::(nth M (Int.toNat F) (z.H z.target)).dp::[]))(cR:aC=jq ((59:UInt8)::(32:UInt8)::[]) ao):b7 M3 tab Tryz.f142 0 K rec (cQ xf) (v3 F ao)=(
 J (aN F al)
 (((0:Int)<=F/\F<(len M:Int)) /\
 (len ((nth M (Int.toNat F) (z.H z.target)).unit::(nth M (Int.toNat F) (z.H z.target)).image::(nth M (Int.toNat F) (z.H z.target)).dp::[])<=1000/\v0=true) /\
 (len ao+len (v1::[]))*16<=140737488355328 /\
 rec xf (v3 (W (F+1)) (cat ao (v1::[]))))
 ((List.length ao<=140737488355328/\List.length aC<=140737488355328) /\
 K (.one (.E z.str aC)) [])):=by subst_vars;kernel_rfl

theorem Sr(ts:LT)(ax:ts.length<=4)(aq:∀t∈ts,0<=t.unit/\t.unit<=1000/\0<=t.image/\t.image<=1000/\0<=t.dp/\t.dp<=1000)(K:aW)(pre:jx)(ag:pre.length<=1000)(ae:jx)(D:K (.one (.E .str (pre++nu ts))) []):∀(d k:Nat),k+d=ts.length ->
  cl M3 tab Tryz.f142 0 K (d+1) xf (Kh (k:Int) (((len ts):Nat):Int) ts ae (pre::(ts.take k).map fun t=>fL [t.unit,t.image,t.dp]))
 |0,k,ad=>by
  rw[bW (L:=xf),TX rfl rfl rfl rfl,List.take_of_length_le (by omega),Vw];have aI:=Jl [59,32] 1000 (pre::ts.map fun t=>fL [t.unit,t.image,t.dp]) (fun x aG=>by
   rcases List.mem_cons.1 aG with rfl|aG
   ·exact ag
   ·obtain⟨t,_,rfl⟩:=List.mem_map.1 aG;have:=rZ [t.unit,t.image,t.dp];simp only[List.length_cons,List.length_nil]at this;omega)
  rw[Vw]at aI;simp only[List.length_cons,List.length_map,List.length_nil]at aI;exact co (by simp only[len];omega) ⟨⟨by simp only[List.length_cons,List.length_map];omega,by omega⟩,D⟩
 |d+1,k,ad=>by
  rw[bW (L:=xf),TX rfl rfl rfl rfl,cM];have bl:=ie (l:=ts) (k:=k) (by omega) (z.H z.target);have aB:nth ts k (z.H z.target)∈ts:=by
   have:k<ts.length:=by omega
   simp[nth,List.getD_eq_getElem?_getD,this]
  have aG:=aq _ aB;obtain⟨x,rX⟩:∃x,nth ts k (z.H z.target)=x:=⟨_,rfl⟩
  rw[rX]at aG bl |-;have hv:W ((k:Int)+1)=((k+1:Nat):Int):=di (by omega);rw[hv];refine cS (by simp only[len];omega) ⟨⟨by omega,by simp only[len];omega⟩,⟨by simp[len],?_⟩,by simp only[len,List.length_cons,List.length_map,List.length_take,List.length_nil];omega,?_⟩
  ·simp only[jL,List.all_cons,List.all_nil,Bool.and_true,Bool.and_eq_true,decide_eq_true_eq];omega
  ·rw[show cat (pre::(ts.take k).map fun t=>fL [t.unit,t.image,t.dp]) [fL [x.unit,x.image,x.dp]]=pre::(ts.take (k+1)).map fun t=>fL [t.unit,t.image,t.dp]from by rw[bl];simp[cat]];exact Sr ts ax aq K pre ag ae D d (k+1) (by omega)
theorem agX:bw 142 FA:=b2 (Γ:=M3) 0 ((bv.f ⟨⟨_,Tryz.func164,(by kernel_rfl)⟩,WS⟩).f L1) Tryz.func142 (by kernel_rfl) fun vs ar=>by
 unfold FA;split;rotate_left;trivial;rename_i v u ts;refine⟨by kernel_rfl,fun ag K D=>?_⟩;refine⟨ts.length+2,?_⟩;refine ck (fun rec=>(by kernel_rfl:_=(
  (len (v::[])<=1000/\jL (v::[])=true) /\
  len ((114:UInt8)::(101:UInt8)::(108:UInt8)::(101:UInt8)::(97:UInt8)::(115:UInt8)::(101:UInt8)::(32:UInt8)::[])+len (fL (v::[]))<=140737488355328 /\
  len (cat ((114:UInt8)::(101:UInt8)::(108:UInt8)::(101:UInt8)::(97:UInt8)::(115:UInt8)::(101:UInt8)::(32:UInt8)::[]) (fL (v::[])))+len ((32:UInt8)::(117:UInt8)::(110:UInt8)::(116:UInt8)::(105:UInt8)::(108:UInt8)::(32:UInt8)::[])<=140737488355328 /\
  (len (u::[])<=1000/\jL (u::[])=true) /\
  len (cat (cat ((114:UInt8)::(101:UInt8)::(108:UInt8)::(101:UInt8)::(97:UInt8)::(115:UInt8)::(101:UInt8)::(32:UInt8)::[]) (fL (v::[]))) ((32:UInt8)::(117:UInt8)::(110:UInt8)::(116:UInt8)::(105:UInt8)::(108:UInt8)::(32:UInt8)::[]))+len (fL (u::[]))<=140737488355328 /\
  rec xf (Kh 0 (len ts:Int) ts [] (cat (cat (cat ((114:UInt8)::(101:UInt8)::(108:UInt8)::(101:UInt8)::(97:UInt8)::(115:UInt8)::(101:UInt8)::(32:UInt8)::[]) (fL (v::[]))) ((32:UInt8)::(117:UInt8)::(110:UInt8)::(116:UInt8)::(105:UInt8)::(108:UInt8)::(32:UInt8)::[])) (fL (u::[]))::[]))))) ?_
 obtain⟨I,G,ab,aV,br,bV,dm⟩:=zc ag;have ho:=tm v;have iX:=tm u;rw[RS,RS];refine⟨⟨by simp[len],by simp only[jL,List.all_cons,List.all_nil,Bool.and_true,Bool.and_eq_true,decide_eq_true_eq];omega⟩,by simp only[len,List.length_cons,List.length_nil];omega,by simp only[len,cat,List.length_append,List.length_cons,List.length_nil];omega,⟨by simp[len],by simp only[jL,List.all_cons,List.all_nil,Bool.and_true,Bool.and_eq_true,decide_eq_true_eq];omega⟩,by simp only[len,cat,List.length_append,List.length_cons,List.length_nil];omega,?_⟩;exact Sr ts bV dm K ([114,101,108,101,97,115,101,32]++fW v++[32,117,110,116,105,108,32]++fW u) (by simp only[List.length_append,List.length_cons,List.length_nil];omega) [] D ts.length 0 (by omega)

def FB:bd
 |[.one (.E (.list .int) l)],[]=>some (some (fY l=0),.one (.E .str (s9 l)),[])
 |_,_=>none

theorem Wc:bw 98 FB:=b2 0 (bv.f L1) Tryz.func98 (by kernel_rfl) fun vs ar=>by
 unfold FB;split;rotate_left;trivial;rename_i l;refine⟨by kernel_rfl,fun ag K D=>?_⟩;refine⟨1,?_⟩;refine ck (fun rec=>(by kernel_rfl:_=(
  (len l<=1000/\jL l=true) /\
  len ((105:UInt8)::(109:UInt8)::(97:UInt8)::(103:UInt8)::(101:UInt8)::(32:UInt8)::[])+len (fL l)<=140737488355328 /\
  K (.one (.E z.str (cat ((105:UInt8)::(109:UInt8)::(97:UInt8)::(103:UInt8)::(101:UInt8)::(32:UInt8)::[]) (fL l)))) []))) ?_
 obtain⟨I,G,ab⟩:=wi ag;have ho:=rZ l;exact⟨⟨by simp only[len];omega,To ab⟩,by simp only[len,List.length_cons,List.length_nil];omega,D⟩

def ON:bd
 |[.agg [.E (.list .str) b],.one (.E (.list .signed) l),.agg [.E .int v,.E (.list .int) aF,.E .int t,.E .int n],.agg [.E (.list .root) rs,.E (.list (.list .int)) rg,.E .int bR,.E .int b4,.E (.list .target) ts,.E (.list .int) a7,.E (.list (.list .int)) bG],.one (.E .int now),.one (.E .int aL)],[]=>some (none,.an [.agg [A (g1 b l ⟨⟨v,aF,t⟩,n⟩ ⟨rs,rg,⟨bR,b4,ts⟩,a7,bG⟩ now aL).1.r.version,af (g1 b l ⟨⟨v,aF,t⟩,n⟩ ⟨rs,rg,⟨bR,b4,ts⟩,a7,bG⟩ now aL).1.r.keys,A (g1 b l ⟨⟨v,aF,t⟩,n⟩ ⟨rs,rg,⟨bR,b4,ts⟩,a7,bG⟩ now aL).1.r.ej,A (g1 b l ⟨⟨v,aF,t⟩,n⟩ ⟨rs,rg,⟨bR,b4,ts⟩,a7,bG⟩ now aL).1.version],.one (A (g1 b l ⟨⟨v,aF,t⟩,n⟩ ⟨rs,rg,⟨bR,b4,ts⟩,a7,bG⟩ now aL).2)],[])
 |_,_=>none
def Bk:Ctx:=[(139,Gb),(69,B1),(140,Gc),(18,BP),(13,y3),(142,FA),(97,BN),(141,B2),(17,BQ),(98,FB)]
def xy:List cw:=[.inLoop [55,54,14,13,12,9,8,6,1,4,5] (Code.sub (bF Tryz.f89) [1,1,1,1,0,1,0,0]),.inBlock 0,.code (Code.sub (bF Tryz.f89) [1,1,1,1,1])]
def KE(F al M:Int)(ae:cD)(ao aE aH aS aZ:Int)(bc:hE)(bn:cu)(bo bm:Int)(bC:LT)(bJ:aJ)(bI:cu)(bM:Int)(bz:aJ)(bS bY:Int)(cq:cB)(cv:aJ):bP:=⟨[(55,.one (A F)),(54,.one (A al)),(14,.one (.fn 139 [])),(13,.one (A M)),(12,.one (.ptr 0 0)),(9,.one (.ptr 1 0)),(8,.one (.ptr 2 0)),(6,.one (.ptr 3 0)),(1,.one (.E (z.list z.signed) ae)),(4,.one (A ao)),(5,.one (A aE))],[(0,.box [A aH,.own 4,A aS,A aZ]),(1,.box [.E (z.list z.root) bc,cH bn,A bo,A bm,.E (z.list z.target) bC,af bJ,cH bI]),(2,.box [A bM,af bz,A bS,A bY]),(3,.box [.E (z.list z.str) cq]),(4,.arr z.int cv)],5⟩
def xz:List cw:=[.inLoop [173,172,171,14,13,12,9,8,6] (Code.sub (bF Tryz.f89) [1,1,1,1,1,1,1,1,1,1,1,1,1,0,1,0,0]),.inBlock 2,.code (Code.sub (bF Tryz.f89) [1,1,1,1,1,1,1,1,1,1,1,1,1,1])]
def KF(F al:Int)(M:LT)(ae ao aE aH:Int)(aS:hE)(aZ:cu)(bc bn:Int)(bo:LT)(bm:aJ)(bC:cu)(bJ:Int)(bI:aJ)(bM bz:Int)(bS:cB)(bY:aJ):bP:=⟨[(173,.one (A F)),(172,.one (A al)),(171,.one (.E (z.list z.target) M)),(14,.one (.fn 139 [])),(13,.one (A ae)),(12,.one (.ptr 0 0)),(9,.one (.ptr 1 0)),(8,.one (.ptr 2 0)),(6,.one (.ptr 3 0))],[(0,.box [A ao,.own 4,A aE,A aH]),(1,.box [.E (z.list z.root) aS,cH aZ,A bc,A bn,.E (z.list z.target) bo,af bm,cH bC]),(2,.box [A bJ,af bI,A bM,A bz]),(3,.box [.E (z.list z.str) bS]),(4,.arr z.int bY)],5⟩
theorem Uk{F bM bS bY:Int}{bz:aJ}{rec:bZ}{K:aW}{al M ae ao aE aH aS aZ bc bn bo bm bC bJ bI cq cv}{dK v0 v1 aC v3 v4 cf dF}(km:dK=fun a b c d e=>KE a al M ae ao aE aH aS aZ bc bn bo bm bC bJ bI b c d e cq cv)(b0:v0=gE cq ae ⟨⟨bM,bz,bS⟩,bY⟩ ⟨(nth bc (Int.toNat F) (z.H z.root)).version,(nth bc (Int.toNat F) (z.H z.root)).keys,(nth bc (Int.toNat F) (z.H z.root)).ej⟩ (nth bn (Int.toNat F) (z.H (z.list z.int))))(cd:v1=gD bo bm bC)(cR:aC=fH cq)(ef:v3=lC bo bm bC)(e1:v4=fk v3 cq)(g5:cf=ir ae ⟨bM,bz,bS⟩ bJ (v4+1))(iG:dF=K (.an [.agg [A (0:Int),af [],A (0:Int),A (0:Int)],.one (A 4)]) []):b7 Bk tab Tryz.f89 0 K rec (cQ xy) (dK F bM bz bS bY)=(
 J (aN F al)
 (((0:Int)<=F/\F<(len bc:Int)) /\
 ((0:Int)<=F/\F<(len bn:Int)) /\
 J (!(au v0.snd 0))
 (K (.an [.agg [A (0:Int),af [],A (0:Int),A (0:Int)],.one (A v0.snd)]) [])
 (rec xy (dK (W (F+1)) v0.fst.r.version v0.fst.r.keys v0.fst.r.ej v0.fst.version)))
 (J (!(au v1 0))
 (K (.an [.agg [A (0:Int),af [],A (0:Int),A (0:Int)],.one (A v1)]) [])
 (J (!(au aC 0))
 (K (.an [.agg [A (0:Int),af [],A (0:Int),A (0:Int)],.one (A aC)]) [])
 (v1=(0:Int) /\
 List.length cq<=60 /\
 J (!(au cf.snd 0))
 (K (.an [.agg [A (0:Int),af [],A (0:Int),A (0:Int)],.one (A cf.snd)]) [])
 (J (aN cf.fst bS)
 (K (.an [.agg [A (0:Int),af [],A (0:Int),A (0:Int)],.one (A 9)]) [])
 (J (dc bo bY)
 (K (.an [.agg [A (0:Int),af [],A (0:Int),A (0:Int)],.one (A 10)]) [])
 (J (aN bm ao)
 (K (.an [.agg [A (0:Int),af [],A (0:Int),A (0:Int)],.one (A 11)]) [])
 (J (!(au (len bC:Int) aE))
 dF
 (J (!(au (len bI:Int) aE))
 dF
 (rec xz (KF 0 (len bC:Int) bC M aH aS aZ bc bn bo bm bC bJ bI bM bz bS bY cq cv))))))))))):=by subst_vars;kernel_rfl
theorem Ul{F:Int}{rec:bZ}{K:aW}{al M ae ao aE aH aS aZ bc bn bo bm bC bJ bI bM bz bS bY}{v3 v0 v1 aC v4}(ef:v3=fun a=>KF a al M ae ao aE aH aS aZ bc bn bo bm bC bJ bI bM bz bS bY)(b0:v0=fY (nth bC (Int.toNat F) (z.H (z.list z.int))))(cd:v1=s9 (nth bC (Int.toNat F) (z.H (z.list z.int))))(cR:aC=fk v1 bS)(e1:v4=K (.an [.agg [A (0:Int),af [],A (0:Int),A (0:Int)],.one (A 5)]) []):b7 Bk tab Tryz.f89 0 K rec (cQ xz) (v3 F)=(
 J (aN F al)
 (((0:Int)<=F/\F<(len M:Int)) /\
 ((0:Int)<=F/\F<(len bC:Int)) /\
 J (!(au v0 0))
 v4
 (J (!(au (((len (nth bC (Int.toNat F) (z.H (z.list z.int)))):Nat):Int) (nth M (Int.toNat F) (z.H z.target)).dp))
 v4
 (v0=(0:Int) /\
 List.length bS<=60 /\
 J (!(au (aC+1) (nth M (Int.toNat F) (z.H z.target)).image))
 v4
 (rec xz (v3 (W (F+1)))))))
 (K (.an [.agg [A bJ,af bI,A bM,A bc],.one (A 0)]) [])):=by subst_vars;kernel_rfl

theorem Sd(b:cB)(aA:b.length<=60)(pI:fH b=0)(ts:LT)(bG:cu)(ax:ts.length<=4)(hi:bG.length=ts.length)(K:aW)(ae ao aE aH:Int)(rs:hE)(rg:cu)(bR b4:Int)(a7:aJ)(v:Int)(aF:aJ)(t n:Int)(bY:aJ):∀(d k:Nat),k+d=ts.length ->
  (nm b (ts.drop k) (bG.drop k)=true->K (.an [.agg [A v,af aF,A t,A bR],.one (A 0)]) []) ->
  (nm b (ts.drop k) (bG.drop k)=false->K (.an [.agg [A 0,af [],A 0,A 0],.one (A 5)]) []) ->
  cl Bk tab Tryz.f89 0 K (d+1) xz (KF (k:Int) (((len ts):Nat):Int) ts ae ao aE aH rs rg bR b4 ts a7 bG v aF t n b bY)
 |0,k,jn,bH,c8=>by
  rw[bW (L:=xz),Ul rfl rfl rfl rfl rfl];rw[List.drop_of_length_le (by omega)]at bH;exact co (by simp only[len];omega) (bH rfl)
 |d+1,k,jn,bH,c8=>by
  rw[bW (L:=xz),Ul rfl rfl rfl rfl rfl,cM];rw[ep (l:=ts) (by omega) (z.H z.target),ep (l:=bG) (by omega) (z.H (z.list z.int))]at bH c8;obtain⟨x,aG⟩:∃x,nth ts k (z.H z.target)=x:=⟨_,rfl⟩
  obtain⟨w,cb⟩:∃w,nth bG k (z.H (z.list z.int))=w:=⟨_,rfl⟩
  rw[aG,cb]at bH c8 |-;simp only[nm,List.headD_cons,List.tail_cons]at bH c8;have kf:nl b x w=false->K (.an [.agg [A 0,af [],A 0,A 0],.one (A 5)]) []:=fun h=>c8 (by rw[h];rfl)
  have hv:W ((k:Int)+1)=((k+1:Nat):Int):=di (by omega);rw[hv];refine cS (by simp only[len];omega) ⟨⟨by omega,by simp only[len];omega⟩,⟨by omega,by simp only[len];omega⟩,bN (fun h=>kf ?_) (fun h=>?_)⟩
  ·have:(hk b w).2=fY w:=by unfold hk;rw[if_neg h]
   simp[nl,this,h]
  have aO:hk b w=(fk (s9 w) b+1,0):=by unfold hk;rw[if_pos h];exact if_pos pI
  refine bN (fun G=>kf ?_) (fun G=>⟨h,aA,bN (fun ab=>kf ?_) (fun ab=>?_)⟩)
  ·simp only[nl,Bool.and_eq_false_iff,decide_eq_false_iff_not];exact .inr G
  ·simp[nl,aO,ab]
  ·have ok:nl b x w=true:=by
    simp only[nl,aO,Bool.and_eq_true,decide_eq_true_eq];exact⟨⟨trivial,ab⟩,G⟩
   rw[ok]at bH c8;exact Sd b aA pI ts bG ax hi K ae ao aE aH rs rg bR b4 a7 v aF t n bY d (k+1) (by omega) (fun g=>bH (by rw[g];rfl)) (fun g=>c8 (by rw[g];rfl))
theorem SI(b:cB)(l:cD)(rs:hE)(rg:cu)(bR b4:Int)(ts:LT)(a7:aJ)(bG:cu)(now aL:Int)(aw:rs.length<=6)(bs:rg.length=rs.length)(K:aW)(M aH aS aZ:Int)(cv:aJ):∀(d k:Nat) (v:Int) (aF:aJ) (t n:Int),k+d=rs.length ->
  K (.an [.agg [A (takeEnd b l ⟨rs,rg,⟨bR,b4,ts⟩,a7,bG⟩ now aL (gL b l ⟨⟨v,aF,t⟩,n⟩ (rs.drop k) (rg.drop k))).1.r.version,af (takeEnd b l ⟨rs,rg,⟨bR,b4,ts⟩,a7,bG⟩ now aL (gL b l ⟨⟨v,aF,t⟩,n⟩ (rs.drop k) (rg.drop k))).1.r.keys,A (takeEnd b l ⟨rs,rg,⟨bR,b4,ts⟩,a7,bG⟩ now aL (gL b l ⟨⟨v,aF,t⟩,n⟩ (rs.drop k) (rg.drop k))).1.r.ej,A (takeEnd b l ⟨rs,rg,⟨bR,b4,ts⟩,a7,bG⟩ now aL (gL b l ⟨⟨v,aF,t⟩,n⟩ (rs.drop k) (rg.drop k))).1.version],.one (A (takeEnd b l ⟨rs,rg,⟨bR,b4,ts⟩,a7,bG⟩ now aL (gL b l ⟨⟨v,aF,t⟩,n⟩ (rs.drop k) (rg.drop k))).2)]) [] ->
  cl Bk tab Tryz.f89 0 K ((ts.length+1)+d+1) xy (KE (k:Int) (((len rs):Nat):Int) M l now aL aH aS aZ rs rg bR b4 ts a7 bG v aF t n b cv)
 |0,k,v,aF,t,n,ad,D=>by
  rw[bW (L:=xy),Uk rfl rfl rfl rfl rfl rfl rfl rfl];rw[List.drop_of_length_le (by omega)]at D;refine co (by simp only[len];omega) ?_;have dY:takeEnd b l ⟨rs,rg,⟨bR,b4,ts⟩,a7,bG⟩ now aL (gL b l ⟨⟨v,aF,t⟩,n⟩ [] (rg.drop k))=if mg b l ⟨⟨v,aF,t⟩,n⟩ ⟨rs,rg,⟨bR,b4,ts⟩,a7,bG⟩ now aL=0 then(⟨⟨v,aF,t⟩,bR⟩,0)else(lz,mg b l ⟨⟨v,aF,t⟩,n⟩ ⟨rs,rg,⟨bR,b4,ts⟩,a7,bG⟩ now aL):=rfl
  rw[dY]at D;have bad:∀e:Int,e≠0->mg b l ⟨⟨v,aF,t⟩,n⟩ ⟨rs,rg,⟨bR,b4,ts⟩,a7,bG⟩ now aL=e->K (.an [.agg [A 0,af [],A 0,A 0],.one (A e)]) []:=fun e bp h=>by
   rw[if_neg (by rw[h];exact bp),h]at D;exact D
  have qG:mg b l ⟨⟨v,aF,t⟩,n⟩ ⟨rs,rg,⟨bR,b4,ts⟩,a7,bG⟩ now aL=0->K (.an [.agg [A v,af aF,A t,A bR],.one (A 0)]) []:=fun h=>by
   rw[if_pos h]at D;exact D
  clear D dY;refine bN (fun G=>bad _ G (if_neg G)) (fun bb=>?_);have dL:mg b l ⟨⟨v,aF,t⟩,n⟩ ⟨rs,rg,⟨bR,b4,ts⟩,a7,bG⟩ now aL=_:=if_pos bb;refine bN (fun ab=>bad _ ab (dL.trans (if_neg ab))) (fun cr=>⟨bb,rn cr,?_⟩);have gr:=dL.trans (if_pos cr);obtain⟨cJ,cE,ey,gw,np,r6,_⟩:=zc bb;refine bN (fun g=>?_) (fun g=>bq (fun bf=>?_) (fun bf=>?_))
  ·have e:gJ l ⟨v,aF,t⟩ a7 (fk (lC bR b4 ts) b+1)=(ir l ⟨v,aF,t⟩ a7 (fk (lC bR b4 ts) b+1)).2:=if_neg g;exact bad _ g ((gr.trans (if_neg (by rw[e];exact g))).trans e)
  ·have e:gJ l ⟨v,aF,t⟩ a7 (fk (lC bR b4 ts) b+1)=9:=by unfold gJ;rw[if_pos g,if_pos bf]
   exact bad _ (by decide) ((gr.trans (if_neg (by rw[e];decide))).trans e)
  have e:gJ l ⟨v,aF,t⟩ a7 (fk (lC bR b4 ts) b+1)=0:=by unfold gJ;rw[if_pos g,if_neg (by simp only;omega)]
  have hZ:=gr.trans (if_pos e);simp only at hZ;refine cn (fun br=>?_) (fun br=>?_)
  ·rw[fV]at br;exact bad _ (by decide) (hZ.trans (if_pos br))
  rw[eC]at br;have mr:=hZ.trans (if_neg (by omega));refine bq (fun bV=>bad _ (by decide) (mr.trans (if_pos bV))) (fun bV=>?_);have pe:=mr.trans (if_neg (by omega));refine bN (fun dm=>bad _ (by decide) (pe.trans (if_pos (.inl dm)))) (fun dm=>bN (fun dZ=>bad _ (by decide) (pe.trans (if_pos (.inr dZ)))) (fun dZ=>?_));have q7:=pe.trans (if_neg (by simp only[len]at dm dZ;omega));exact Sd b (rn cr) cr ts bG r6 (by simp only[len]at dm dZ;omega) K M aH aS aZ rs rg bR b4 a7 v aF t n cv ts.length 0 (by omega) (fun g=>qG (q7.trans (if_pos g))) (fun g=>bad 5 (by decide) (q7.trans (if_neg (by rw[show nm b ts bG=false from g];simp))))
 |d+1,k,v,aF,t,n,ad,D=>by
  rw[show ts.length+1+(d+1)+1=(ts.length+1+d+1)+1 by omega,bW (L:=xy),Uk rfl rfl rfl rfl rfl rfl rfl rfl,cM];rw[ep (l:=rs) (by omega) (z.H z.root),ep (l:=rg) (by omega) (z.H (z.list z.int))]at D;obtain⟨x,aG⟩:∃x,nth rs k (z.H z.root)=x:=⟨_,rfl⟩
  obtain⟨w,cb⟩:∃w,nth rg k (z.H (z.list z.int))=w:=⟨_,rfl⟩
  rw[aG,cb]at D |-;have hv:W ((k:Int)+1)=((k+1:Nat):Int):=di (by omega);rw[hv];have ex:(⟨x.version,x.keys,x.ej⟩:qi)=x:=rfl;rw[ex];refine cS (by simp only[len];omega) ⟨⟨by omega,by simp only[len];omega⟩,⟨by omega,by simp only[len];omega⟩,bN (fun h=>?_) (fun h=>?_)⟩
  ·rw[show gL b l ⟨⟨v,aF,t⟩,n⟩ (x::rs.drop (k+1)) (w::rg.drop (k+1))=(lz,(gE b l ⟨⟨v,aF,t⟩,n⟩ x w).2)from if_neg h]at D;have e:takeEnd b l ⟨rs,rg,⟨bR,b4,ts⟩,a7,bG⟩ now aL (lz,(gE b l ⟨⟨v,aF,t⟩,n⟩ x w).2)=(lz,(gE b l ⟨⟨v,aF,t⟩,n⟩ x w).2):=if_neg h;rw[e]at D;exact D
  ·rw[show gL b l ⟨⟨v,aF,t⟩,n⟩ (x::rs.drop (k+1)) (w::rg.drop (k+1))=gL b l (gE b l ⟨⟨v,aF,t⟩,n⟩ x w).1 (rs.drop (k+1)) (rg.drop (k+1))from if_pos h]at D;exact SI b l rs rg bR b4 ts a7 bG now aL aw bs K M aH aS aZ cv d (k+1) _ _ _ _ (by omega) D
theorem ahF:bw 89 ON:=b2 (Γ:=Bk) 0 ((((((((((bv.f Wc).f Wb).f Wt).f LZ).f agX).f LY).f Wa).f ahE).f Me).f ahD) Tryz.func89 (by kernel_rfl) fun vs ar=>by
 unfold ON;split;rotate_left;trivial;rename_i b l v aF t n rs rg bR b4 ts a7 bG now aL;refine⟨by kernel_rfl,fun K D=>?_⟩;refine⟨ts.length+1+rs.length+1+1,?_⟩;obtain⟨v1,cd⟩:∃v1,v1=K (.an [.agg [A (0:Int),af [],A (0:Int),A (0:Int)],.one (A 2)]) []:=⟨_,rfl⟩
 refine ck (fun rec=>(by subst cd;kernel_rfl:_=(
  J (!(au (g2 ⟨⟨v,aF,t⟩,n⟩) 0))
  (K (.an [.agg [A (0:Int),af [],A (0:Int),A (0:Int)],.one (A (g2 ⟨⟨v,aF,t⟩,n⟩))]) [])
  (J (aN 6 (len rs:Int))
  v1
  (J (!(au (len rg:Int) (len rs:Int)))
  v1
  (rec xy (KE 0 (len rs:Int) 0 l now aL 0 0 0 rs rg bR b4 ts a7 bG v aF t n b []))))))) ?_
 subst cd;unfold g1 at D;simp only at D;refine bN (fun h=>?_) (fun h=>bq (fun G=>?_) (fun G=>bN (fun ab=>?_) (fun ab=>?_)))
 ·rw[if_neg h]at D;exact D
 ·rw[if_pos h,if_pos (.inl (by simp only[len]at G;omega))]at D;exact D
 ·rw[if_pos h,if_pos (.inr (by simp only[len]at ab;omega))]at D;exact D
 ·rw[if_pos h,if_neg (by simp only[len]at G ab;omega)]at D;exact SI b l rs rg bR b4 ts a7 bG now aL (by simp only[len]at G;omega) (by simp only[len]at ab;omega) K 0 0 0 0 [] rs.length 0 v aF t n (by omega) D

def Gd:bd
 |[.agg [.E (.list .int) ws,.E .int fu,.E .bool up,.E .int ak,.E (.list .int) ah,.E .int aj,.E .int ai,.E (.list .bool) Y,.E (.list .bool) aa]],[]=>some (some (len ws*8<=140737488355328/\len ah*8<=140737488355328/\len Y<=140737488355328/\len aa<=140737488355328),.agg [af ws,A fu,ay up,A ak,.own 0,A aj,A ai,.own 1,.own 2],[.arr .int ah,.arr .bool Y,.arr .bool aa])
 |_,_=>none

theorem Mf:bw 86 Gd:=mh 0 (bv.f Ek) Tryz.func86 (by kernel_rfl) fun vs ar=>by
 unfold Gd;split;rotate_left;trivial;rename_i ws fu up ak ah aj ai Y aa;refine⟨by kernel_rfl,fun ag K D=>?_⟩;refine⟨1,?_⟩;refine kD (fun rec=>(by kernel_rfl:_=(
  len ws*8<=140737488355328 /\
  (0+len ah)*8<=140737488355328 /\
  (0+len Y)*1<=140737488355328 /\
  (0+len aa)*1<=140737488355328 /\
  K (.agg [af ws,A fu,ay up,A ak,.own 0,A aj,A ai,.own 1,.own 2]) [.arr z.int (cat [] ah),.arr z.bool (cat [] Y),.arr z.bool (cat [] aa)]))) ?_
 exact⟨ag.1,by omega,by omega,by omega,D⟩

def Hb:bd
 |[.one (.E (.list .int) l)],[]=>some (some (eQ l),.one (A (gv l)),[])
 |_,_=>none

theorem aiI:bw 174 Hb:=b2 0 (bv.f AW) Tryz.func174 (by kernel_rfl) fun vs ar=>by
 unfold Hb;split;rotate_left;trivial;rename_i l;refine⟨by kernel_rfl,fun ag K D=>?_⟩;refine⟨1,?_⟩;refine ck (fun rec=>(by kernel_rfl:_=(
  J (aN (len l:Int) 1)
  (K (.one (A 2)) [])
  (J (aN 4 (len l:Int))
  (K (.one (A 2)) [])
  (List.length l<=140737488355328 /\
  J (!(cK l))
  (K (.one (A 3)) [])
  (K (.one (A 0)) [])))))) ?_
 unfold gv at D;refine bq (fun h=>?_) (fun h=>bq (fun G=>?_) (fun G=>⟨ag,eF (fun ab=>?_) (fun ab=>?_)⟩))
 ·rw[if_neg (by simp only[len]at h;omega)]at D;exact D
 ·rw[if_neg (by simp only[len]at G;omega)]at D;exact D
 ·rw[if_pos (by simp only[len]at h G;omega),if_neg (by rw[ab];simp)]at D;exact D
 ·rw[if_pos (by simp only[len]at h G;omega),if_pos ab]at D;exact D

def GV:bd
 |[.one (.E .int at_),.one (.E (.list .int) l)],[]=>some (some (0<=at_/\at_<=1000/\len l<=1000),.one (.own 0),[.arr .change (cX at_ l)])
 |_,_=>none
def EU:Ctx:=[]
def x2:List cw:=[.inLoop [10,9,8,5,4,0] (Code.sub (bF Tryz.f175) [1,1,0,1,0,0]),.inBlock 0,.code (Code.sub (bF Tryz.f175) [1,1,1])]
def Lg(F al:Int)(M:aJ)(ae:Int)(ao aE:List Change):bP:=⟨[(10,.one (A F)),(9,.one (A al)),(8,.one (af M)),(5,.one (.own 0)),(4,.one (.own 1)),(0,.one (A ae))],[(0,.arr z.change ao),(1,.arr z.change aE)],2⟩
theorem afy(at_:Int)(l:aJ)(rec:bZ)(K:aW):jP EU tab Tryz.f175 0 K rec [.code (bF Tryz.f175)] (df [.one (A at_),.one (af l)] [])=(
 rec x2 (Lg 0 (len l:Int) l at_ [] [])):=by kernel_rfl
theorem U0{F:Int}{ao:List Change}{rec:bZ}{K:aW}{al M ae aE}{v0}(b0:v0=fun a b=>Lg a al M ae b aE):jP EU tab Tryz.f175 0 K rec (cQ x2) (v0 F ao)=(
 J (aN F al)
 (((0:Int)<=F/\F<(len M:Int)) /\
 (len ao+len ((⟨W (ae+F),some (nth M (Int.toNat F) (z.H z.int))⟩:Change)::[]))*16<=140737488355328 /\
 rec x2 (v0 (W (F+1)) (cat ao ((⟨W (ae+F),some (nth M (Int.toNat F) (z.H z.int))⟩:Change)::[]))))
 (K (.one (.own 0)) [.arr z.change ao])):=by subst_vars;kernel_rfl

theorem SY(at_:Int)(l:aJ)(a6:0<=at_)(I:at_<=1000)(G:l.length<=1000)(K:aW)(D:K (.one (.own 0)) [.arr .change (cX at_ l)]):∀(d k:Nat),k+d=l.length ->
  h5 EU tab Tryz.f175 0 K (d+1) x2 (Lg (k:Int) (((len l):Nat):Int) l at_ (cX at_ (l.take k)) [])
 |0,k,ad=>by
  rw[kh (L:=x2),U0 rfl];rw[List.take_of_length_le (by omega)];exact co (by simp only[len];omega) D
 |d+1,k,ad=>by
  rw[kh (L:=x2),U0 rfl];refine cS (by simp only[len];omega) ⟨⟨by omega,by simp only[len];omega⟩,?_,?_⟩
  ·simp only[len,lP,List.length_cons,List.length_nil,List.length_take];omega
  ·rw[cc (n:=at_+(k:Int)) (by omega) (by omega),di (by omega),cM];have:=SY at_ l a6 I G K D d (k+1) (by omega);rw[ie (by omega) (z.H z.int),N9]at this;rw[show((l.take k).length:Int)=(k:Int)by simp;omega]at this;exact this
theorem WI:bw 175 GV:=mh (Γ:=EU) 0 bv Tryz.func175 (by kernel_rfl) fun vs ar=>by
 unfold GV;split;rotate_left;trivial;rename_i at_ l;refine⟨by kernel_rfl,fun ag K D=>?_⟩;refine⟨l.length+2,?_⟩;rw[qF,afy _ _ _ _];exact SY at_ l ag.1 ag.2.1 ag.2.2 K D l.length 0 (by omega)

def GU:bd
 |[.one (.E .int dG)],[]=>some (some (0<=dG/\dG<=10),.one (.own 0),[.arr .change (eH dG)])
 |_,_=>none
def ET:Ctx:=[]
def x1:List cw:=[.inLoop [5,3,2,0] (Code.sub (bF Tryz.f146) [1,1,0,1,0,0]),.inBlock 0,.code (Code.sub (bF Tryz.f146) [1,1,1])]
def Lf(F al:Int)(M ae:List Change):bP:=⟨[(5,.one (A F)),(3,.one (.own 0)),(2,.one (.own 1)),(0,.one (A al))],[(0,.arr z.change M),(1,.arr z.change ae)],2⟩
theorem afx(dG:Int)(rec:bZ)(K:aW):jP ET tab Tryz.f146 0 K rec [.code (bF Tryz.f146)] (df [.one (A dG)] [])=(
 rec x1 (Lf 0 dG [] [])):=by kernel_rfl
theorem UZ{F:Int}{M:List Change}{rec:bZ}{K:aW}{al ae}{v0}(b0:v0=fun a b=>Lf a al b ae):jP ET tab Tryz.f146 0 K rec (cQ x1) (v0 F M)=(
 J (aN F 32)
 ((len M+len ((⟨W (W ((32:Int)*al)+F),none⟩:Change)::[]))*16<=140737488355328 /\
 rec x1 (v0 (W (F+1)) (cat M ((⟨W (W ((32:Int)*al)+F),none⟩:Change)::[]))))
 (K (.one (.own 0)) [.arr z.change M])):=by subst_vars;kernel_rfl

theorem ajo(a:Int):∀n:Nat,hb a (n+1)=hb a n++[⟨a+n,none⟩]:=by
 intro n
 induction n generalizing a with
 |zero=>simp[hb]
 |succ n dd =>
  rw[hb,dd (a+1)];simp only[hb,List.cons_append];rw[show a+1+(n:Int)=a+((n+1:Nat):Int)by omega]
theorem SX(dG:Int)(a6:0<=dG)(I:dG<=10)(K:aW)(D:K (.one (.own 0)) [.arr .change (eH dG)]):∀(d k:Nat),k+d=32 ->
  h5 ET tab Tryz.f146 0 K (d+1) x1 (Lf (k:Int) dG (hb (32*dG) k) [])
 |0,k,ad=>by
  rw[kh (L:=x1),UZ rfl];have:k=32:=by omega
  subst this;exact co (by omega) D
 |d+1,k,ad=>by
  rw[kh (L:=x1),UZ rfl];refine cS (by omega) ⟨?_,?_⟩
  ·simp only[len,A9,List.length_cons,List.length_nil];omega
  ·rw[cc (n:=32*dG) (by omega) (by omega),cc (n:=32*dG+(k:Int)) (by omega) (by omega),di (by omega)];have:=SX dG a6 I K D d (k+1) (by omega);rw[ajo]at this;exact this
theorem WH:bw 146 GU:=mh (Γ:=ET) 0 bv Tryz.func146 (by kernel_rfl) fun vs ar=>by
 unfold GU;split;rotate_left;trivial;rename_i dG;refine⟨by kernel_rfl,fun ag K D=>?_⟩;refine⟨34,?_⟩;rw[qF,afx _ _ _];exact SX dG ag.1 ag.2 K D 32 0 rfl

def G9:bd
 |[.one (.E (.list (.list .change)) xs)],[]=>some (some (xs.length<=10/\(h8 xs).length<=1000),.one (.own 0),[.arr .change (h8 xs)])
 |_,_=>none
def yI:Ctx:=[(196,G8)]
def x6:List cw:=[.inLoop [11,10,9,3,2,0] (cZ qB [1,1,0,1,0,0]),.inBlock 0,.code (cZ qB [1,1,1])]
def Lk(F al:Int)(M:List (List Change))(ae:Int)(ao:List (List Change))(aE:List Change):bP:=⟨[(11,.one (A F)),(10,.one (A al)),(9,.one (.E (z.list (z.list z.change)) M)),(3,.one (A ae)),(2,.one (.own 0)),(0,.one (.E (z.list (z.list z.change)) ao))],[(0,.arr z.change aE)],1⟩
def x7:List cw:=[.inLoop [27,26,25,6,2] (cZ qB [1,1,1,1,0,1,0,0]),.inBlock 2,.code (cZ qB [1,1,1,1,1])]
def Ll(F al:Int)(M:List (List Change))(ae ao:List Change):bP:=⟨[(27,.one (A F)),(26,.one (A al)),(25,.one (.E (z.list (z.list z.change)) M)),(6,.one (.own 0)),(2,.one (.own 1))],[(0,.arr z.change ae),(1,.arr z.change ao)],2⟩
theorem afD(xs:List (List Change))(rec:bZ)(K:aW):jP yI tab qB 0 K rec [.code (bF qB)] (df [.one (.E (z.list (z.list z.change)) xs)] [])=(
 rec x6 (Lk 0 (len xs:Int) xs 0 xs [])):=by kernel_rfl
theorem U5{F ae:Int}{rec:bZ}{K:aW}{al M ao aE}{v0}(b0:v0=fun a b=>Lk a al M b ao aE):jP yI tab qB 0 K rec (cQ x6) (v0 F ae)=(
 J (aN F al)
 (((0:Int)<=F/\F<(len M:Int)) /\
 J (aN (W (ae+(((len (nth M (Int.toNat F) (z.H (z.list z.change)))):Nat):Int))) 0)
 (False)
 (rec x6 (v0 (W (F+1)) (W (ae+(((len (nth M (Int.toNat F) (z.H (z.list z.change)))):Nat):Int))))))
 (((0:Int)<=ae/\ae<=100000) /\
 rec x7 (Ll 0 (len ao:Int) ao [] aE))):=by subst_vars;kernel_rfl
theorem U6{F:Int}{ae:List Change}{rec:bZ}{K:aW}{al M ao}{v0}(b0:v0=fun a b=>Ll a al M b ao):jP yI tab qB 0 K rec (cQ x7) (v0 F ae)=(
 J (aN F al)
 (((0:Int)<=F/\F<(len M:Int)) /\
 (len ae+len (nth M (Int.toNat F) (z.H (z.list z.change))))*16<=140737488355328 /\
 rec x7 (v0 (W (F+1)) (cat ae (nth M (Int.toNat F) (z.H (z.list z.change))))))
 (K (.one (.own 0)) [.arr z.change ae])):=by subst_vars;kernel_rfl

theorem RF{xs:List (List Change)}{k:Nat}(h:k<xs.length):h8 (xs.take (k+1))=h8 (xs.take k)++nth xs k []:=by
 rw[ie h []];have:∀(a:List (List Change)) (x:List Change),h8 (a++[x])=h8 a++x:=fun a x=>by
  induction a with
  |nil=>simp[h8]
  |cons y a dd=>simp[h8,dd]
 exact this _ _
theorem RE(xs:List (List Change))(k:Nat):(h8 (xs.take k)).length<=(h8 xs).length:=by
 induction xs generalizing k with
 |nil=>simp
 |cons x xs dd =>
  cases k with
  |zero=>simp[h8]
  |succ k=>simp only[List.take_succ_cons,h8,List.length_append];have:=dd k;omega
theorem R7(xs:List (List Change))(I:xs.length<=10)(G:(h8 xs).length<=1000)(K:aW)(D:K (.one (.own 0)) [.arr .change (h8 xs)])(y:List Change):∀(d k:Nat),k+d=xs.length ->
  h5 yI tab qB 0 K (d+1) x7 (Ll (k:Int) (((len xs):Nat):Int) xs (h8 (xs.take k)) y)
 |0,k,ad=>by
  rw[kh (L:=x7),U6 rfl,List.take_of_length_le (by omega)];exact co (by simp only[len];omega) D
 |d+1,k,ad=>by
  rw[kh (L:=x7),U6 rfl,cM];have aR:=RF (xs:=xs) (k:=k) (by omega);have ax:=RE xs (k+1);have e:nth xs k (z.H (z.list z.change))=nth xs k []:=rfl;rw[e];rw[aR,List.length_append]at ax;refine cS (by simp only[len];omega) ⟨⟨by omega,by simp only[len];omega⟩,by simp only[len];omega,?_⟩;rw[di (by omega),show cat (h8 (xs.take k)) (nth xs k [])=h8 (xs.take (k+1))from aR.symm];exact R7 xs I G K D y d (k+1) (by omega)
theorem R2(xs:List (List Change))(I:xs.length<=10)(G:(h8 xs).length<=1000)(K:aW)(D:K (.one (.own 0)) [.arr .change (h8 xs)]):∀(d k:Nat),k+d=xs.length ->
  h5 yI tab qB 0 K (d+1+(xs.length+1)) x6 (Lk (k:Int) (((len xs):Nat):Int) xs (((h8 (xs.take k)).length:Nat):Int) xs [])
 |0,k,ad=>by
  rw[show 0+1+(xs.length+1)=(xs.length+1)+1 by omega,kh (L:=x6),U5 rfl,List.take_of_length_le (by omega)];exact co (by simp only[len];omega) ⟨⟨by omega,by omega⟩,R7 xs I G K D [] xs.length 0 (by omega)⟩
 |d+1,k,ad=>by
  rw[show d+1+1+(xs.length+1)=(d+1+(xs.length+1))+1 by omega,kh (L:=x6),U5 rfl,cM];have aR:=RF (xs:=xs) (k:=k) (by omega);have ax:=RE xs (k+1);have e:nth xs k (z.H (z.list z.change))=nth xs k []:=rfl;rw[e];have rM:=congrArg List.length aR;rw[List.length_append]at rM;rw[di (by omega),cc (n:=(((h8 (xs.take k)).length:Nat):Int)+_) (by simp only[len];omega) (by simp only[len];omega)];refine cS (by simp only[len];omega) ⟨⟨by omega,by simp only[len];omega⟩,co (by simp only[len];omega) ?_⟩;rw[show(((h8 (xs.take k)).length:Nat):Int)+(((len (nth xs k [])):Nat):Int)=(((h8 (xs.take (k+1))).length:Nat):Int)by simp only[len];omega];exact R2 xs I G K D d (k+1) (by omega)
theorem aiG:bw 176 G9:=mh (Γ:=yI) 0 (bv.f ⟨⟨_,Tryz.func196,(by kernel_rfl)⟩,aiF⟩) Tryz.func176 (by kernel_rfl) fun vs ar=>by
 unfold G9;split;rotate_left;trivial;rename_i xs;refine⟨by kernel_rfl,fun ag K D=>?_⟩;refine⟨xs.length+1+(xs.length+1)+1,?_⟩;rw[qF,afD _ _ _];exact R2 xs ag.1 ag.2 K D xs.length 0 (by omega)

def GS:bd
 |[.agg [.E (.list .int) ws,.E .int fu]],[]=>some (some (len ws*8<=140737488355328),.agg [.own 0,A fu],[.arr .int ws])
 |_,_=>none

theorem ait:bw 87 GS:=mh 0 bv Tryz.func87 (by kernel_rfl) fun vs ar=>by
 unfold GS;split;rotate_left;trivial;rename_i ws fu;refine⟨by kernel_rfl,fun ag K D=>?_⟩;refine⟨1,?_⟩;refine kD (fun rec=>(by kernel_rfl:_=(
  (0+len ws)*8<=140737488355328 /\
  K (.agg [.own 0,A fu]) [.arr z.int (cat [] ws)]))) ?_
 exact⟨by omega,D⟩

def GW:bd
 |[.agg [.E (.list .int) ws,.E .int fu],.one (.E (.list .change) cs)],[]=>some (some (len ws<=192/\-1<=fu/\fu<=100000/\len cs<=1000/\k5 ws.length cs=true),.an [.agg [af (gl (b9 ⟨ws,fu⟩ cs)).1.words,A (gl (b9 ⟨ws,fu⟩ cs)).1.fuel],.one (A (gl (b9 ⟨ws,fu⟩ cs)).2)],[])
 |_,_=>none
def yH:Ctx:=[(87,GS)]
theorem adE:fz Tryz.prog tab yH:=(bv.f ait)
def q3:List cw:=[.inLoop [31,30,29,6,5,4,2] (cZ sJ [1,1,1,1,0,1,0,0]),.inBlock 0,.code (cZ sJ [1,1,1,1,1])]
def x3(F al:Int)(M:List Change)(ae ao aE aH:Int)(aS aZ:aJ):bP:=⟨[(31,.one (A F)),(30,.one (A al)),(29,.one (.E (z.list z.change) M)),(6,.one (A ae)),(5,.one (A ao)),(4,.one (.ptr 0 0)),(2,.one (.ptr 1 0))],[(0,.box [.own 2,A aE]),(1,.box [.own 3,A aH]),(2,.arr z.int aS),(3,.arr z.int aZ)],4⟩
theorem afz(ws:aJ)(fu:Int)(cs:List Change)(rec:bZ)(K:aW):b7 yH tab sJ 0 K rec [.code (bF sJ)] (df [.agg [af ws,A fu],.one (.E (z.list z.change) cs)] [])=(
 len ws*8<=140737488355328 /\
 J (dc 0 fu)
 (J (aN fu (len cs:Int))
 (((0:Int)<=(0:Int)/\(0:Int)<=fu/\fu<=(len cs:Int)) /\
 rec q3 (x3 0 (len (a2 cs (Int.toNat 0) (Int.toNat fu)):Int) (a2 cs (Int.toNat 0) (Int.toNat fu)) 7 0 0 (W (fu-(len (a2 cs (Int.toNat 0) (Int.toNat fu)):Int))) [] ws))
 (rec q3 (x3 0 (len cs:Int) cs 0 0 0 (W (fu-(len cs:Int))) [] ws)))
 (rec q3 (x3 0 (len cs:Int) cs 0 0 0 fu [] ws))):=by kernel_rfl
theorem Lh{F:Int}{aZ:aJ}{rec:bZ}{K:aW}{al M ae ao aE aH aS}{v0}(b0:v0=fun a b=>x3 a al M ae ao aE aH aS b):b7 yH tab sJ 0 K rec (cQ q3) (v0 F aZ)=(
 J (aN F al)
 (((0:Int)<=F/\F<(len M:Int)) /\
 ((0:Int)<=(nth M (Int.toNat F) (z.H z.change)).at_/\(nth M (Int.toNat F) (z.H z.change)).at_<(len aZ:Int)) /\
 Int.toNat (nth M (Int.toNat F) (z.H z.change)).at_<len aZ /\
 ((0:Int)<=(nth M (Int.toNat F) (z.H z.change)).at_/\(nth M (Int.toNat F) (z.H z.change)).at_<(len aZ:Int)) /\
 Int.toNat (nth M (Int.toNat F) (z.H z.change)).at_<len aZ /\
 rec q3 (v0 (W (F+1)) (setAt aZ (Int.toNat (nth M (Int.toNat F) (z.H z.change)).at_) (oI (nth M (Int.toNat F) (z.H z.change)).word (nth aZ (Int.toNat (nth M (Int.toNat F) (z.H z.change)).at_) (z.H z.int))))))
 (K (.an [.agg [af aZ,A aH],.one (A ae)]) [])):=by subst_vars;kernel_rfl

theorem agr(ag:len ws<=192/\-1<=fu/\fu<=100000/\len cs<=1000/\k5 ws.length cs=true)(K:aW)(D:K (.an [.agg [af (gl (b9 ⟨ws,fu⟩ cs)).1.words,A (gl (b9 ⟨ws,fu⟩ cs)).1.fuel],.one (A (gl (b9 ⟨ws,fu⟩ cs)).2)]) []):pf yH sJ 0 K [.agg [af ws,A fu],.one (.E (.list .change) cs)] []:=by
 obtain⟨I,G,ab,aV,br⟩:=ag;refine⟨cs.length+2,?_⟩;rw[eO,afz _ _ _ _ _];simp only[len]at I aV |-;have sub:∀k,k5 ws.length (cs.take k)=true:=fun k=>List.all_eq_true.2 fun c az=>List.all_eq_true.1 br c (List.mem_of_mem_take az)
 have more:∀(eK:List Change) (e f:Int),eK.length<=cs.length->k5 ws.length eK=true->K (.an [.agg [af (eI ws eK),A f],.one (A e)]) [] ->
   cl yH tab sJ 0 K (cs.length+1) q3 (x3 0 (((List.length eK):Nat):Int) eK e 0 0 f [] ws):=fun eK e f ax hi ad=>by
  have key:∀(d k:Nat) (ws:aJ),k+d ≥ eK.length->k5 ws.length eK=true->K (.an [.agg [af (eI ws (eK.drop k)),A f],.one (A e)]) []->k<=eK.length ->
    cl yH tab sJ 0 K (d+1) q3 (x3 (k:Int) (((List.length eK):Nat):Int) eK e 0 0 f [] ws):=by
   intro d
   induction d with
   |zero =>
    intro k ws ad hi D hle;rw[bW (L:=q3),Lh rfl];rw[List.drop_of_length_le (by omega)]at D;exact co (by omega) D
   |succ d dd =>
    intro k ws ad hi D hle
    by_cases c:k=eK.length
    ·subst c;rw[bW (L:=q3),Lh rfl];rw[List.drop_of_length_le (Nat.le_refl _)]at D;exact co (by omega) D
    ·rw[bW (L:=q3),Lh rfl];rw[cM];have aB:nth eK k (z.H z.change)∈eK:=by
      have:k<eK.length:=by omega
      simp[nth,List.getD_eq_getElem?_getD,this]
     have iW:=List.all_eq_true.1 hi _ aB;simp only[Bool.and_eq_true,decide_eq_true_eq]at iW;refine cS (by omega) ⟨⟨by omega,by simp only[len];omega⟩,⟨iW.1,iW.2⟩,by simp only[len];omega,⟨iW.1,iW.2⟩,by simp only[len];omega,?_⟩;rw[di (by omega)];refine dd (k+1) _ (by omega) (by simpa[setAt]using hi) ?_ (by omega);rw[ep (by omega) (z.H z.change),v6]at D;exact D
  exact key cs.length 0 ws (by omega) hi ad (by omega)
 unfold gl b9 at D;refine⟨by omega,cn (fun h=>?_) (fun h=>?_)⟩
 ·rw[fV]at h;simp only[if_neg (show ¬fu<0 by omega)]at D;refine bq (fun bV=>⟨⟨by omega,h,by omega⟩,?_⟩) (fun bV=>?_)
  ·rw[if_neg (by omega)]at D;have es:a2 cs (Int.toNat 0) (Int.toNat fu)=cs.take fu.toNat:=LW _ _;have mX:(cs.take fu.toNat).length=fu.toNat:=by simp;omega
   rw[es,mX,cc (by omega) (by omega),show fu-((fu.toNat:Nat):Int)=0 by omega];have:=more (cs.take fu.toNat) 7 0 (by simp;omega) (sub _) D;rw[mX]at this;exact this
  ·rw[if_pos (by omega)]at D;rw[cc (by omega) (by omega)];exact more cs 0 _ (Nat.le_refl _) br D
 ·rw[eC]at h;rw[if_pos h]at D;exact more cs 0 fu (Nat.le_refl _) br D
theorem Mh:bw 145 GW:=hN adE Tryz.func145 (by kernel_rfl) (by
 intro vs ar p v dB h ag;unfold GW at h;split at h
 ·cases h;exact⟨by kernel_rfl,rfl,.inl (agr _ _ _ ag.1 _ ⟨rfl,rfl⟩)⟩
 ·cases h)

def Hc:bd
 |[.agg [.E (.list .int) ws,.E .int fu],.one (.E (.list .int) r),.one (.E (.list (.list .int)) b3)],[]=>some (some (dE ⟨ws,fu⟩=0/\eQ r/\len b3*24<=140737488351232/\iJ b3=true),.an [.agg [af (fO ⟨ws,fu⟩ r b3).1.words,A (fO ⟨ws,fu⟩ r b3).1.fuel],.one (A (fO ⟨ws,fu⟩ r b3).2)],[])
 |_,_=>none
def Bt:Ctx:=[(174,Hb),(123,Cc),(91,(A8 y8)),(175,GV),(146,GU),(176,G9),(145,GW)]
def r7:List cw:=[.inLoop [10,9,7,6,3,1,2] (Code.sub (bF Tryz.f143) [1,1,1,0,1,0,0]),.inBlock 0,.code (Code.sub (bF Tryz.f143) [1,1,1,1])]
def AE(F al:Int)(M:aJ)(ae:cu)(ao:aJ)(aE:Int)(aH:aJ)(aS:Int)(aZ:aJ):bP:=⟨[(10,.one (A F)),(9,.one (.own 0)),(7,.one (A al)),(6,.one (.ptr 1 0)),(3,.one (.ptr 2 0)),(1,.one (af M)),(2,.one (cH ae))],[(0,.arr z.int ao),(1,.box [.own 3,A aE]),(2,.box [af aH,A aS]),(3,.arr z.int aZ)],4⟩
theorem U9{F:Int}{ao:aJ}{rec:bZ}{K:aW}{al M ae aE aH aS aZ}{tJ v0 v1 aC v3 v4 cf dK dF eG v9 v10 v11 mO hB oe kR si qd yz v20 MM}(abT:tJ=fun a b=>AE a al M ae b aE aH aS aZ)(b0:v0=gv (nth ae (Int.toNat F) (z.H (z.list z.int))))(cd:v1=gv M)(cR:aC=cK aH)(ef:v3=ed aH)(e1:v4=iy aH v3)(g5:cf=n5 v3 v4.snd)(km:dK=cX (W (cf+1)) M)(iG:dF=cX cf (W ((42240:Int)+(len M:Int))::[]))(kI:eG=k5 (List.length aH) (cat dK dF))(j3:v9=b9 (⟨aH,aS⟩:cm) (cat dK dF))(m9:v10=j7 v9.snd)(oR:v11=eX aH)(zV:mO=eH (W ((1:Int)-((v3:Nat):Int))))(s7:hB=cX (W (W ((32:Int)*W ((1:Int)-((v3:Nat):Int)))+1)) ao)(Q7:oe=cX (W ((32:Int)*W ((1:Int)-((v3:Nat):Int)))) (W (v11+1)::[]))(Q8:kR=h8 (mO::hB::oe::[]))(Q9:si=k5 (List.length aH) kR)(abR:qd=b9 (⟨aH,aS⟩:cm) kR)(abS:yz=j7 qd.snd)(Df:v20=J (au v11 60000)
 (K (.an [.agg [af [],A (0:Int)],.one (A 8)]) [])
 (((0:Int)<=W ((1:Int)-((v3:Nat):Int))/\W ((1:Int)-((v3:Nat):Int))<=10) /\
 ((0:Int)<=W (W ((32:Int)*W ((1:Int)-((v3:Nat):Int)))+1)/\W (W ((32:Int)*W ((1:Int)-((v3:Nat):Int)))+1)<=1000/\len ao<=1000) /\
 ((0:Int)<=W ((32:Int)*W ((1:Int)-((v3:Nat):Int)))/\W ((32:Int)*W ((1:Int)-((v3:Nat):Int)))<=1000/\len (W (v11+1)::[])<=1000) /\
 (List.length (mO::hB::oe::[])<=10/\List.length kR<=1000) /\
 (len aH<=192/\(-1)<=aS/\aS<=100000/\len kR<=1000/\si=true) /\
 K (.an [.agg [af qd.fst.words,A qd.fst.fuel],.one (A yz)]) [])) (akn:MM=K (.an [.agg [af [],A (0:Int)],.one (A 8)]) []):b7 Bt tab Tryz.f143 0 K rec (cQ r7) (tJ F ao)=(
 J (dc F (len ae:Int))
 (J (aN F (len ae:Int))
 (((0:Int)<=F/\F<(len ae:Int)) /\
 List.length (nth ae (Int.toNat F) (z.H (z.list z.int)))<=140737488355328 /\
 J (!(au v0 0))
 (K (.an [.agg [af [],A (0:Int)],.one (A v0)]) [])
 ((len ao+len (W ((42240:Int)+(((len (nth ae (Int.toNat F) (z.H (z.list z.int)))):Nat):Int))::[]))*8<=140737488355328 /\
 (len (cat ao (W ((42240:Int)+(((len (nth ae (Int.toNat F) (z.H (z.list z.int)))):Nat):Int))::[]))+len (nth ae (Int.toNat F) (z.H (z.list z.int))))*8<=140737488355328 /\
 J (aN 31 (((len (cat (cat ao (W ((42240:Int)+(((len (nth ae (Int.toNat F) (z.H (z.list z.int)))):Nat):Int))::[])) (nth ae (Int.toNat F) (z.H (z.list z.int))))):Nat):Int))
 MM
 (rec r7 (tJ (W (F+1)) (cat (cat ao (W ((42240:Int)+(((len (nth ae (Int.toNat F) (z.H (z.list z.int)))):Nat):Int))::[])) (nth ae (Int.toNat F) (z.H (z.list z.int))))))))
 (List.length M<=140737488355328 /\
 J (!(au v1 0))
 (K (.an [.agg [af [],A (0:Int)],.one (A v1)]) [])
 ((len ao+len (W ((42240:Int)+(len M:Int))::[]))*8<=140737488355328 /\
 (len (cat ao (W ((42240:Int)+(len M:Int))::[]))+len M)*8<=140737488355328 /\
 J (aN 31 (((len (cat (cat ao (W ((42240:Int)+(len M:Int))::[])) M)):Nat):Int))
 MM
 (rec r7 (tJ (W (F+1)) (cat (cat ao (W ((42240:Int)+(len M:Int))::[])) M))))))
 (64<=len aH /\
 (64<=len aH/\len aH<=192/\aC=true) /\
 J (dc 0 cf)
 (J (dc (W (W (cf+1)+(len M:Int))) (W (W ((32:Int)*((v3:Nat):Int))+32)))
 (((0:Int)<=W (cf+1)/\W (cf+1)<=1000/\len M<=1000) /\
 ((0:Int)<=cf/\cf<=1000/\len (W ((42240:Int)+(len M:Int))::[])<=1000) /\
 (len dK+len dF)*16<=140737488355328 /\
 (len aH<=192/\(-1)<=aS/\aS<=100000/\len (cat dK dF)<=1000/\eG=true) /\
 K (.an [.agg [af v9.fst.words,A v9.fst.fuel],.one (A v10)]) [])
 v20)
 v20)):=by subst_vars;kernel_rfl

theorem ac1(b3:cu)(r:aJ)(k:Nat)(d:aJ)(h:k<=b3.length):nth (b3++[r]) k d=if k<b3.length then nth b3 k d else r:=by
 unfold nth;simp only[List.getD_eq_getElem?_getD]
 by_cases c:k<b3.length
 ·rw[if_pos c,List.getElem?_append_left c]
 ·have:k=b3.length:=by omega
  subst this;rw[if_neg c];simp
theorem S5(ws r:aJ)(fu:Int)(b3:cu)(ax:b3.length<=5864062014806)(av:iJ b3=true)(aw:r.length<=140737488355328)(K:aW)
  (sT:∀e,e≠0->kg 0 (b3++[r])=e->K (.an [.agg [af [],A 0],.one (A e)]) [])
  (pJ:∀gx,kg 0 (b3++[r])=0->(dy (b3++[r])).length<=31->cl Bt tab Tryz.f143 0 K (gx+1) r7 (AE (((b3.length+1:Nat):Int)) 0 r b3 (dy (b3++[r])) 0 ws fu [])) :
  ∀(d k:Nat),b3.length+1<=k+d->k<=b3.length+1->(dy ((b3++[r]).take k)).length<=31->kg 0 (b3++[r])=kg (dy ((b3++[r]).take k)).length ((b3++[r]).drop k) ->
  cl Bt tab Tryz.f143 0 K (d+1) r7 (AE (k:Int) 0 r b3 (dy ((b3++[r]).take k)) 0 ws fu [])
 |0,k,ad,jH,bh,bs=>by
  have:k=b3.length+1:=by omega
  subst this;rw[List.take_of_length_le (by simp)]at bh bs |-;rw[List.drop_of_length_le (by simp)]at bs;exact pJ 0 bs bh
 |d+1,k,ad,jH,bh,bs=>by
  by_cases c:k=b3.length+1
  ·subst c;rw[List.take_of_length_le (by simp)]at bh bs |-;rw[List.drop_of_length_le (by simp)]at bs;exact pJ (d+1) bs bh
  have hlen:(b3++[r]).length=b3.length+1:=by simp
  have bl:=ie (l:=b3++[r]) (k:=k) (by omega) (z.H (.list .int));rw[ep (by omega) (z.H (.list .int))]at bs;have aq:=ac1 b3 r k (z.H (.list .int)) (by omega);obtain⟨x,aG⟩:∃x,nth (b3++[r]) k (z.H (.list .int))=x:=⟨_,rfl⟩
  rw[aG]at bl bs aq;simp only[kg]at bs;have hv:W ((k:Int)+1)=((k+1:Nat):Int):=di (by omega)
  -- one round, whichever record it is
  have body:((gv x≠0->K (.an [.agg [af [],A 0],.one (A (gv x))]) []))/\(gv x=0 ->
    ((((len (dy ((b3++[r]).take k)))+(len ((W ((42240:Int)+(((len x):Nat):Int)))::[])))*8)<=140737488355328) /\
    ((((len (cat (dy ((b3++[r]).take k)) ((W ((42240:Int)+(((len x):Nat):Int)))::[])))+(len x))*8)<=140737488355328) /\
    (J (aN (31:Int) (((len (cat (cat (dy ((b3++[r]).take k)) ((W ((42240:Int)+(((len x):Nat):Int)))::[])) x)):Nat):Int))
      (K (.an [.agg [af [],A (0:Int)],.one (A (8:Int))]) [])
      (cl Bt tab Tryz.f143 0 K (d+1) r7 (AE (W ((k:Int)+(1:Int))) 0 r b3 (cat (cat (dy ((b3++[r]).take k)) ((W ((42240:Int)+(((len x):Nat):Int)))::[])) x) 0 ws fu [])))):=by
   refine⟨fun I=>?_,fun I=>?_⟩
   ·rw[if_neg I]at bs;exact sT _ I bs
   ·rw[if_pos I]at bs;obtain⟨gm,hy,hM⟩:=pw I;have zl:W (42240+(((len x):Nat):Int))=42240+(x.length:Int):=cc (by simp only[len];omega) (by simp only[len];omega);rw[zl,hv];have e:cat (cat (dy ((b3++[r]).take k)) [42240+(x.length:Int)]) x=dy ((b3++[r]).take (k+1)):=by rw[bl,BB];simp[cat,me]
    have mX:(dy ((b3++[r]).take (k+1))).length=(dy ((b3++[r]).take k)).length+1+x.length:=by rw[bl,BB,List.length_append,yh];omega
    rw[e];refine⟨by simp only[len,List.length_cons,List.length_nil];omega,by simp only[len,cat,List.length_append,List.length_cons,List.length_nil];omega,bq (fun G=>?_) (fun G=>?_)⟩
    ·simp only[len]at G;rw[if_neg (by omega)]at bs;exact sT 8 (by decide) bs
    ·simp only[len]at G;rw[if_pos (by omega)]at bs;exact S5 ws r fu b3 ax av aw K sT pJ d (k+1) (by omega) (by omega) (by omega) (by rw[bs,mX])
  rw[bW (L:=r7),U9 rfl rfl rfl rfl rfl rfl rfl rfl rfl rfl rfl rfl rfl rfl rfl rfl rfl rfl rfl rfl rfl rfl,cM];refine gb (fV.2 (by simp only[len];omega)) (bq (fun a6=>?_) (fun a6=>?_))
  ·simp only[len]at a6;rw[if_pos (by omega)]at aq;have aB:nth b3 k (z.H (.list .int))∈b3:=by
    have:k<b3.length:=by omega
    simp[nth,List.getD_eq_getElem?_getD,this]
   have nV:=List.all_eq_true.1 av _ aB;simp only[decide_eq_true_eq]at nV;rw[<- aq]at nV |-;exact⟨⟨by omega,by simp only[len];omega⟩,nV,bN body.1 body.2⟩
  ·simp only[len]at a6;rw[if_neg (by omega)]at aq;rw[<- aq]at aw body sT pJ |-;exact⟨aw,bN body.1 body.2⟩
theorem WR:bw 143 Hc:=b2 (Γ:=Bt) 0 (((((((bv.f Mh).f aiG).f WH).f WI).f (kx.yC Mo)).f Mm).f aiI) Tryz.func143 (by kernel_rfl) fun vs ar=>by
 unfold Hc;split;rotate_left;trivial;rename_i ws fu r b3;refine⟨by kernel_rfl,fun ag K D=>?_⟩;obtain⟨az,aw,wN,jH⟩:=ag;have akc:b3.length*24<=140737488351232:=wN;unfold eQ at aw;refine⟨b3.length+1+1+1,?_⟩;refine ck (fun rec=>(by kernel_rfl:_=(
  List.length r<=140737488355328 /\
  J (!(au (gv r) 0))
  (K (.an [.agg [af [],A (0:Int)],.one (A (gv r))]) [])
  (rec r7 (AE 0 0 r b3 [] 0 ws fu []))))) ?_
 unfold fO lg at D;rw[if_pos az]at D;refine⟨aw,bN (fun G=>?_) (fun G=>?_)⟩
 ·rw[if_neg G,if_neg G]at D;exact D
 rw[if_pos G]at D;obtain⟨bK,bX,dh,eW⟩:=nG az;obtain⟨bA,bb,cr,du⟩:=jh bK;obtain⟨hs,gu⟩:=q1 bA;simp only at bX dh eW bb cr du hs gu;obtain⟨gm,hy,hM⟩:=pw G;have dY:dy ((b3++[r]).take 0)=[]:=by simp[dy]
 have l0:(dy ((b3++[r]).take 0)).length=0:=by rw[dY];rfl
 refine S5 ws r fu b3 (by omega) jH aw K (fun e bp bs=>?_) (fun gx bs ll=>?_) (b3.length+1) 0 (by omega) (by omega) (by omega) (by rw[l0,List.drop_zero])
 ·rw[bs,if_neg bp]at D;exact D
 obtain⟨rs,oP⟩:∃rs,b3++[r]=rs:=⟨_,rfl⟩
 simp only[oP]at bs ll D |-;rw[bs,if_pos rfl]at D;rw[bW (L:=r7),U9 rfl rfl rfl rfl rfl rfl rfl rfl rfl rfl rfl rfl rfl rfl rfl rfl rfl rfl rfl rfl rfl rfl];unfold sq at D;simp only[oP]at D;have pM:=td ws;have IG:=wE du (ed ws);have wJ:eX ws=e0 ws (ed ws):=rfl;obtain⟨s,av⟩:∃s,ed ws=s:=⟨_,rfl⟩
 rw[av]at D pM |-;obtain⟨g,IF⟩:∃g,eX ws=g:=⟨_,rfl⟩
 rw[IF]at D wJ dh eW |-;have zl:W (42240+(((len r):Nat):Int))=42240+(r.length:Int):=cc (by simp only[len];omega) (by simp only[len];omega);rw[zl,cc (n:=32*(s:Int)) (by omega) (by omega),cc (n:=32*(s:Int)+32) (by omega) (by omega),cc (n:=1-(s:Int)) (by omega) (by omega),cc (n:=32*(1-(s:Int))) (by omega) (by omega),cc (n:=32*(1-(s:Int))+1) (by omega) (by omega),cc (n:=g+1) (by omega) (by omega)];have aY:1-(s:Int)=((1-s:Nat):Int):=by omega
 rw[aY];have Zb:h8 [eH ((1-s:Nat):Int),cX (32*((1-s:Nat):Int)+1) (dy rs),cX (32*((1-s:Nat):Int)) [g+1]]=g9 (1-s) rs (g+1):=by simp[h8,g9]
 rw[Zb];have akt:(g9 (1-s) rs (g+1)).length<=64:=by
  unfold g9 eH;rw[List.length_append,List.length_append,A9,lP,lP,List.length_singleton];omega
 have ace:k5 ws.length (g9 (1-s) rs (g+1))=true:=by
  have ei:=EG ws.length 32 (32*((1-s:Nat):Int)) (by omega) (by omega);have eU:=wb ws.length (dy rs) (32*((1-s:Nat):Int)+1) (by omega) (by omega);have a3:=wb ws.length [g+1] (32*((1-s:Nat):Int)) (by omega) (by simp only[List.length_cons,List.length_nil];omega);unfold k5 g9 eH at *;rw[List.all_append,List.all_append,ei,eU,a3];rfl
 refine fa (eC.2 (by simp only[len];omega)) ⟨bX,⟨bX,gu,du⟩,?_⟩;have there:=fun(D:K (.an [.agg [af (gl (b9 ⟨ws,fu⟩ (g9 (1-s) rs (g+1)))).1.words,A (gl (b9 ⟨ws,fu⟩ (g9 (1-s) rs (g+1)))).1.fuel],.one (A (gl (b9 ⟨ws,fu⟩ (g9 (1-s) rs (g+1)))).2)]) []) =>
  show(((0:Int)<=((1-s:Nat):Int))/\(((1-s:Nat):Int)<=(10:Int)))/\((((0:Int)<=(32*((1-s:Nat):Int)+1))/\(((32*((1-s:Nat):Int)+1)<=(1000:Int))/\((len (dy rs))<=1000))) /\
   ((((0:Int)<=(32*((1-s:Nat):Int)))/\(((32*((1-s:Nat):Int))<=(1000:Int))/\((len [g+1])<=1000))) /\
   ((((List.length [eH ((1-s:Nat):Int),cX (32*((1-s:Nat):Int)+1) (dy rs),cX (32*((1-s:Nat):Int)) [g+1]])<=10)/\((List.length (g9 (1-s) rs (g+1)))<=1000)) /\
   ((((len ws)<=192)/\(((-(1:Int))<=fu)/\((fu<=(100000:Int))/\(((len (g9 (1-s) rs (g+1)))<=1000)/\(k5 ws.length (g9 (1-s) rs (g+1))=true))))) /\
   (K (.an [.agg [af (b9 ⟨ws,fu⟩ (g9 (1-s) rs (g+1))).1.words,A (b9 ⟨ws,fu⟩ (g9 (1-s) rs (g+1))).1.fuel],.one (A (j7 (b9 ⟨ws,fu⟩ (g9 (1-s) rs (g+1))).2))]) [])))))from
  ⟨by omega,⟨by omega,by omega,by simp only[len];omega⟩,⟨by omega,by omega,by simp[len]⟩,⟨by simp only[List.length_cons,List.length_nil];omega,by omega⟩,⟨gu,bb,cr,by simp only[len];omega,ace⟩,D⟩
 cases h7:(iy ws s).2 with
 |none =>
  rw[h7]at D;simp only[room,Bool.false_eq_true,if_false]at D;simp only[n5];refine fa (eC.2 (by omega)) (cz (fun br=>?_) (fun br=>?_))
  ·rw[if_pos br]at D;exact D
  ·rw[if_neg br]at D;exact there D
 |some a =>
  have bh:=VS (by omega) h7;rw[h7]at D;simp only[n5];rw[cc (n:=32*(s:Int)+1+a+1) (by omega) (by omega),cc (n:=32*(s:Int)+1+a+1+(((len r):Nat):Int)) (by simp only[len];omega) (by simp only[len];omega)];refine gb (fV.2 (by omega)) (cn (fun br=>?_) (fun br=>?_))
  ·rw[fV]at br;simp only[len]at br;rw[if_pos (show room r.length (some a)=true from by simp only[room,decide_eq_true_eq];omega)]at D;simp only[Option.getD_some,nS]at D;rw[show((32*s+1+a:Nat):Int)=32*(s:Int)+1+a by omega]at D;have ei:=wb ws.length r (32*(s:Int)+1+a+1) (by omega) (by omega);have eU:=wb ws.length [42240+(r.length:Int)] (32*(s:Int)+1+a) (by omega) (by simp only[List.length_cons,List.length_nil];omega);refine⟨⟨by omega,by omega,by simp only[len];omega⟩,⟨by omega,by omega,by simp[len]⟩,by simp only[len,lP,List.length_cons,List.length_nil];omega,⟨gu,bb,cr,by simp only[len,cat,List.length_append,lP,List.length_cons,List.length_nil];omega,?_⟩,D⟩;unfold k5 at *;rw[show cat (cX (32*(s:Int)+1+a+1) r) (cX (32*(s:Int)+1+a) [42240+(r.length:Int)])=cX (32*(s:Int)+1+a+1) r++cX (32*(s:Int)+1+a) [42240+(r.length:Int)]from rfl,List.all_append,ei,eU];rfl
  ·rw[eC]at br;simp only[len]at br;rw[if_neg (show ¬room r.length (some a)=true from by simp only[room,decide_eq_true_eq];omega)]at D;refine cz (fun bV=>?_) (fun bV=>?_)
   ·rw[if_pos bV]at D;exact D
   ·rw[if_neg bV]at D;exact there D

def Gg:bd
 |[.one (.ptr 0 0),.one (.E (.list .int) r)],[.box [.E (.list .int) ws,.E .int fu,.E .bool up,.E .int ak,.own 1,.E .int aj,.E .int ai,.own 2,.own 3],.arr .int ah,.arr .bool Y,.arr .bool aa]=>some (some (dE ⟨ws,fu⟩=0/\eQ r/\len Y<=1000/\len aa<=1000),.one (ay (dJ ⟨⟨ws,fu⟩,up,⟨⟨ak,ah,aj⟩,ai⟩,Y,aa⟩ r).2),[.box [af (dJ ⟨⟨ws,fu⟩,up,⟨⟨ak,ah,aj⟩,ai⟩,Y,aa⟩ r).1.f.words,A (dJ ⟨⟨ws,fu⟩,up,⟨⟨ak,ah,aj⟩,ai⟩,Y,aa⟩ r).1.f.fuel,ay (dJ ⟨⟨ws,fu⟩,up,⟨⟨ak,ah,aj⟩,ai⟩,Y,aa⟩ r).1.up,A (dJ ⟨⟨ws,fu⟩,up,⟨⟨ak,ah,aj⟩,ai⟩,Y,aa⟩ r).1.t.r.version,.own 4,A (dJ ⟨⟨ws,fu⟩,up,⟨⟨ak,ah,aj⟩,ai⟩,Y,aa⟩ r).1.t.r.ej,A (dJ ⟨⟨ws,fu⟩,up,⟨⟨ak,ah,aj⟩,ai⟩,Y,aa⟩ r).1.t.version,.own 5,.own 6],.dead,.dead,.dead,.arr .int (dJ ⟨⟨ws,fu⟩,up,⟨⟨ak,ah,aj⟩,ai⟩,Y,aa⟩ r).1.t.r.keys,.arr .bool (dJ ⟨⟨ws,fu⟩,up,⟨⟨ak,ah,aj⟩,ai⟩,Y,aa⟩ r).1.cF,.arr .bool (dJ ⟨⟨ws,fu⟩,up,⟨⟨ak,ah,aj⟩,ai⟩,Y,aa⟩ r).1.did])
 |_,_=>none
def yF:Ctx:=[(39,wc),(143,Hc)]
def p4:List cw:=[.inLoop [32,31,30,6,5,4,0,1] (Code.sub (bF Tryz.f90) [1,1,1,1,0,1,0,0]),.inBlock 0,.code (Code.sub (bF Tryz.f90) [1,1,1,1,1])]
def vh(F al:Int)(M:Bool)(ae ao:aJ)(aE:Int)(aH:Bool)(aS aZ bc:Int)(bn:c9)(bo:cu)(bm bC:Int)(bJ bI bM:Bool)(bz:aJ)(bS bY:c9):bP:=⟨[(32,.one (A F)),(31,.one (A al)),(30,.one (.own 4)),(6,.one (.own 5)),(5,.one (.ptr 6 0)),(4,.one (ay M)),(0,.one (.ptr 0 0)),(1,.one (af ae))],[(0,.box [af ao,A aE,ay aH,A aS,.own 7,A aZ,A bc,.own 8,.own 9]),(1,.dead),(2,.dead),(3,.dead),(4,.arr z.bool bn),(5,.arr (z.list z.int) bo),(6,.box [A bm,A bC,ay bJ,ay bI,ay bM]),(7,.arr z.int bz),(8,.arr z.bool bS),(9,.arr z.bool bY)],10⟩
theorem Uo{F:Int}{bo:cu}{rec:bZ}{K:aW}{al M ae ao aE aH aS aZ bc bn bm bC bJ bI bM bz bS bY}{v3 v0 v1 aC v4}(ef:v3=fun a b=>vh a al M ae ao aE aH aS aZ bc bn b bm bC bJ bI bM bz bS bY)(b0:v0=dE ⟨ao,aE⟩)(cd:v1=iJ bo)(cR:aC=fO ⟨ao,aE⟩ ae bo)(e1:v4=J (au aC.snd 7)
 (((0:Int)<=(len bS:Int)/\(len bS:Int)*((1:Nat):Int)<=140737488355328/\(len bS:Int)<=(140737488355328:Int)) /\
 ((0:Int)<=(len bY:Int)/\(len bY:Int)*((1:Nat):Int)<=140737488355328/\(len bY:Int)<=(140737488355328:Int)) /\
 K (.one (ay (au aC.snd 0))) [.box [af aC.fst.words,A aC.fst.fuel,ay false,A aS,.own 4,A aZ,A bc,.own 5,.own 6],.dead,.dead,.dead,.arr z.int bz,.arr z.bool (c6 (Int.toNat (len bS:Int)) (z.H z.bool)),.arr z.bool (c6 (Int.toNat (len bY:Int)) (z.H z.bool))])
 (K (.one (ay (au aC.snd 0))) [.box [af aC.fst.words,A aC.fst.fuel,ay aH,A aS,.own 4,A aZ,A bc,.own 5,.own 6],.dead,.dead,.dead,.arr z.int bz,.arr z.bool bS,.arr z.bool bY])):jP yF tab Tryz.f90 4 K rec (cQ p4) (v3 F bo)=(
 J (aN F al)
 (((0:Int)<=F/\F<(len bn:Int)) /\
 Int.toNat F<len bn /\
 J (nth bn (Int.toNat F) (z.H z.bool))
 ((len bo+len ((W (F+2)::bm::[])::[]))*24<=140737488355328 /\
 rec p4 (v3 (W (F+1)) (cat bo ((W (F+2)::bm::[])::[]))))
 (rec p4 (v3 (W (F+1)) bo)))
 ((v0=(0:Int)/\List.length ae<=140737488355328/\len bo*24<=140737488351232/\v1=true) /\
 J (au aC.snd 0)
 v4
 (J (au aC.snd 7)
 v4
 (J (au aC.snd 7)
 (((0:Int)<=(len bS:Int)/\(len bS:Int)*((1:Nat):Int)<=140737488355328/\(len bS:Int)<=(140737488355328:Int)) /\
 ((0:Int)<=(len bY:Int)/\(len bY:Int)*((1:Nat):Int)<=140737488355328/\(len bY:Int)<=(140737488355328:Int)) /\
 K (.one (ay (au aC.snd 0))) [.box [af ao,A aE,ay false,A aS,.own 4,A aZ,A bc,.own 5,.own 6],.dead,.dead,.dead,.arr z.int bz,.arr z.bool (c6 (Int.toNat (len bS:Int)) (z.H z.bool)),.arr z.bool (c6 (Int.toNat (len bY:Int)) (z.H z.bool))])
 (K (.one (ay (au aC.snd 0))) [.box [af ao,A aE,ay aH,A aS,.own 4,A aZ,A bc,.own 5,.own 6],.dead,.dead,.dead,.arr z.int bz,.arr z.bool bS,.arr z.bool bY]))))):=by subst_vars;kernel_rfl

theorem My(m:Nat)(K:aW)(r ws:aJ)(fu:Int)(up:Bool)(ak aj ai:Int)(wB:c9)(b1:wB.length=3)(n v:Int)(c a e:Bool)(ah:aJ)(Y aa:c9)(k:Nat)(ad:k<3)(b3:cu)(ax:b3.length<=10)
  (h:h5 yF tab Tryz.f90 4 K m p4 (vh ((k+1:Nat):Int) 3 false r ws fu up ak aj ai wB (b3++if nth wB k false=true then [[(k:Int)+2,n]]else []) n v c a e ah Y aa)) :
  h5 yF tab Tryz.f90 4 K (m+1) p4 (vh (k:Int) 3 false r ws fu up ak aj ai wB b3 n v c a e ah Y aa):=by
 rw[kh (L:=p4),Uo rfl rfl rfl rfl rfl,cM];rw[di (by omega),cc (n:=(k:Int)+2) (by omega) (by omega)];have dY:nth wB k (z.H z.bool)=nth wB k false:=rfl;rw[dY];refine cS (by omega) ⟨⟨by omega,by simp only[len];omega⟩,by simp only[len];omega,cn (fun aA=>⟨by simp only[len,List.length_cons,List.length_nil];omega,?_⟩) (fun aA=>?_)⟩
 ·rw[if_pos aA]at h;exact h
 ·rw[if_neg (by rw[aA];simp),List.append_nil]at h;exact h
theorem Mg:bw 90 Gg:=sc (Γ:=yF) 4 ((bv.f WR).f yr) Tryz.func90 (by kernel_rfl) fun vs ar=>by
 unfold Gg;split;rotate_left;trivial;rename_i r ws fu up ak aj ai ah Y aa;refine⟨by kernel_rfl,fun ag K D=>?_⟩;obtain⟨fg,ft,hx,oY⟩:=ag;refine⟨5,?_⟩;obtain⟨v1,cd⟩:∃v1,v1=bL ⟨ws,fu⟩:=⟨_,rfl⟩
 refine kD (fun rec=>(by subst cd;kernel_rfl:_=(
  dE ⟨ws,fu⟩=(0:Int) /\
  J (!(au v1.n 0))
  (rec p4 (vh 0 (((len (v1.dv::v1.abort::v1.ended::[])):Nat):Int) false r ws fu up ak aj ai (v1.dv::v1.abort::v1.ended::[]) (((1:Int)::v1.n::v1.version::[])::[]) v1.n v1.version v1.dv v1.abort v1.ended ah Y aa))
  (rec p4 (vh 0 (((len (v1.dv::v1.abort::v1.ended::[])):Nat):Int) false r ws fu up ak aj ai (v1.dv::v1.abort::v1.ended::[]) [] v1.n v1.version v1.dv v1.abort v1.ended ah Y aa))))) ?_
 subst cd;have aY:=q0 ⟨ws,fu⟩;obtain⟨bK,bX⟩:=RI (bL ⟨ws,fu⟩);obtain⟨Ar,Dw,Tp,ac3,ac4,ac5,Tq⟩:=aY;obtain⟨s,av⟩:∃s,bL ⟨ws,fu⟩=s:=⟨_,rfl⟩
 unfold dJ wh at D;simp only at D;rw[av]at D bK bX Ar Dw Tp ac3 ac4 ac5 Tq |-;have pJ:h5 yF tab Tryz.f90 4 K 1 p4 (vh ((3:Nat):Int) 3 false r ws fu up ak aj ai [s.dv,s.abort,s.ended] (l4 s) s.n s.version s.dv s.abort s.ended ah Y aa):=by
  rw[kh (L:=p4),Uo rfl rfl rfl rfl rfl];refine co (by omega) ⟨⟨fg,ft,by simp only[len];omega,bK⟩,?_⟩;obtain⟨hd,kE⟩:∃hd,fO ⟨ws,fu⟩ r (l4 s)=hd:=⟨_,rfl⟩
  rw[kE]at D |-;have tf:((0:Int)<=(((len Y):Nat):Int))/\((((((len Y):Nat):Int)*((1:Nat):Int))<=(140737488355328:Int))/\((((len Y):Nat):Int)<=(140737488355328:Int))):=⟨by omega,by omega,by omega⟩
  have nZ:((0:Int)<=(((len aa):Nat):Int))/\((((((len aa):Nat):Int)*((1:Nat):Int))<=(140737488355328:Int))/\((((len aa):Nat):Int)<=(140737488355328:Int))):=⟨by omega,by omega,by omega⟩
  by_cases a6:hd.2=0
  ·rw[if_pos a6]at D;rw[a6];exact D
  ·rw[if_neg a6]at D;refine iC a6 ?_;rw[show au hd.2 0=false from oy.2 a6]
   by_cases dm:hd.2=7
   ·rw[if_pos dm]at D;rw[dm];exact⟨tf,nZ,D⟩
   ·rw[if_neg dm]at D;exact iC dm (iC dm D)
 have kF:∀Dk,Dk.length<=5->((Dk++if s.dv=true then [[(2:Int),s.n]]else [])++if s.abort=true then [[(3:Int),s.n]]else [])++(if s.ended=true then [[(4:Int),s.n]]else [])=l4 s ->
   h5 yF tab Tryz.f90 4 K 4 p4 (vh (0:Int) 3 false r ws fu up ak aj ai [s.dv,s.abort,s.ended] Dk s.n s.version s.dv s.abort s.ended ah Y aa):=fun Dk ax ad=>by
  rw[<- ad]at pJ;refine My 3 K r ws fu up ak aj ai _ rfl _ _ _ _ _ _ _ _ 0 (by omega) _ (by omega) ?_;refine My 2 K r ws fu up ak aj ai _ rfl _ _ _ _ _ _ _ _ 1 (by omega) _ (by rw[List.length_append];split<;>simp<;>omega) ?_;refine My 1 K r ws fu up ak aj ai _ rfl _ _ _ _ _ _ _ _ 2 (by omega) _ (by rw[List.length_append,List.length_append];split<;>split<;>simp<;>omega) ?_;exact pJ
 have cY:(((len (s.dv::(s.abort::(s.ended::[])))):Nat):Int)=3:=rfl;rw[cY];refine⟨fg,bN (fun h=>kF _ (by simp) ?_) (fun h=>kF _ (by simp) ?_)⟩
 ·unfold l4;rw[if_neg h]
 ·have bg:=Tq h;rw[bg];rfl

def Gj:bd
 |[.agg [.E (.list .str) b],.one (.E (.list .signed) l),.agg [.E (.list .int) ws,.E .int fu,.E .bool up,.E .int ak,.E (.list .int) ah,.E .int aj,.E .int ai,.E (.list .bool) Y,.E (.list .bool) aa],.agg [.E (.list .root) rs,.E (.list (.list .int)) rg,.E .int bR,.E .int b4,.E (.list .target) ts,.E (.list .int) a7,.E (.list (.list .int)) bG],.one (.E .int now)],[]=>some (some (dM ⟨⟨ws,fu⟩,up,⟨⟨ak,ah,aj⟩,ai⟩,Y,aa⟩=0),.an [.agg (jB (iB b l ⟨⟨ws,fu⟩,up,⟨⟨ak,ah,aj⟩,ai⟩,Y,aa⟩ ⟨rs,rg,⟨bR,b4,ts⟩,a7,bG⟩ now).1),.one (A (iB b l ⟨⟨ws,fu⟩,up,⟨⟨ak,ah,aj⟩,ai⟩,Y,aa⟩ ⟨rs,rg,⟨bR,b4,ts⟩,a7,bG⟩ now).2.1),.one (A (iB b l ⟨⟨ws,fu⟩,up,⟨⟨ak,ah,aj⟩,ai⟩,Y,aa⟩ ⟨rs,rg,⟨bR,b4,ts⟩,a7,bG⟩ now).2.2)],[])
 |_,_=>none

theorem ahK:bw 38 Gj:=b2 0 ((((bv.f Mg).f Mf).f ahF).f yr) Tryz.func38 (by kernel_rfl) fun vs ar=>by
 unfold Gj;split;rotate_left;trivial;rename_i b l ws fu up ak ah aj ai Y aa rs rg bR b4 ts a7 bG now;refine⟨by kernel_rfl,fun ag K D=>?_⟩;refine⟨1,?_⟩;obtain⟨aC,cR⟩:∃aC,aC=g1 b l ⟨⟨ak,ah,aj⟩,ai⟩ ⟨rs,rg,⟨bR,b4,ts⟩,a7,bG⟩ now (len Y:Int):=⟨_,rfl⟩
 obtain⟨v3,ef⟩:∃v3,v3=dJ ⟨⟨ws,fu⟩,up,⟨⟨ak,ah,aj⟩,ai⟩,Y,aa⟩ ((1:Int)::W ((bL ⟨ws,fu⟩).n+1)::bR::[]):=⟨_,rfl⟩
 obtain⟨v4,e1⟩:∃v4,v4=J (au (bL ⟨ws,fu⟩).n 8)
  (K (.an [.agg [af [],A (0:Int),ay false,A (0:Int),af [],A (0:Int),A (0:Int),bj [],bj []],.one (A 0),.one (A 8)]) [])
  (J (!(au aC.snd 0))
  (K (.an [.agg [af [],A (0:Int),ay false,A (0:Int),af [],A (0:Int),A (0:Int),bj [],bj []],.one (A 0),.one (A aC.snd)]) [])
  ((len ws*8<=140737488355328/\len ah*8<=140737488355328/\len Y<=140737488355328/\len aa<=140737488355328) /\
  (dE ⟨ws,fu⟩=(0:Int)/\List.length ((1:Int)::W ((bL ⟨ws,fu⟩).n+1)::bR::[])<=140737488355328/\len Y<=1000/\len aa<=1000) /\
  J (!v3.snd)
  (K (.an [.agg (jB v3.fst),.one (A 0),.one (A 0)]) [])
  (((0:Int)<=(len v3.fst.cF:Int)/\(len v3.fst.cF:Int)*((1:Nat):Int)<=140737488355328/\(len v3.fst.cF:Int)<=(140737488355328:Int)) /\
  ((0:Int)<=(len v3.fst.did:Int)/\(len v3.fst.did:Int)*((1:Nat):Int)<=140737488355328/\(len v3.fst.did:Int)<=(140737488355328:Int)) /\
  K (.an [.agg [af v3.fst.f.words,A v3.fst.f.fuel,ay v3.fst.up,A aC.fst.r.version,af aC.fst.r.keys,A aC.fst.r.ej,A aC.fst.version,bj (c6 (Int.toNat (len v3.fst.cF:Int)) (z.H z.bool)),bj (c6 (Int.toNat (len v3.fst.did:Int)) (z.H z.bool))],.one (A (W ((bL ⟨ws,fu⟩).n+1))),.one (A 0)]) []))):=⟨_,rfl⟩
 refine ck (fun rec=>(by subst e1 ef cR;kernel_rfl:_=(
  dE ⟨ws,fu⟩=(0:Int) /\
  J (!up)
  (K (.an [.agg [af [],A (0:Int),ay false,A (0:Int),af [],A (0:Int),A (0:Int),bj [],bj []],.one (A 0),.one (A 7)]) [])
  (J (!(au (bL ⟨ws,fu⟩).n 0))
  (J (!(bL ⟨ws,fu⟩).ended)
  (K (.an [.agg [af [],A (0:Int),ay false,A (0:Int),af [],A (0:Int),A (0:Int),bj [],bj []],.one (A 0),.one (A 12)]) [])
  v4)
  v4)))) ?_
 subst e1 ef cR;obtain⟨bA,bb,cr,du,hs⟩:=im ag;obtain⟨ix,jb,lc,o3⟩:=rp ag;simp only at bb cr du;have aY:=q0 ⟨ws,fu⟩;obtain⟨Ar,Dw,_⟩:=aY;refine⟨bA,eF (fun h=>?_) (fun h=>?_)⟩
 ·have HS:hP ⟨⟨ws,fu⟩,up,⟨⟨ak,ah,aj⟩,ai⟩,Y,aa⟩=7:=by unfold hP;rw[if_pos ag,if_neg (by rw[h];simp)]
  unfold iB qn at D;rw[HS]at D;exact D
 have HS:hP ⟨⟨ws,fu⟩,up,⟨⟨ak,ah,aj⟩,ai⟩,Y,aa⟩=0:=by unfold hP;rw[if_pos ag,if_pos h]
 have hU:qn b l ⟨⟨ws,fu⟩,up,⟨⟨ak,ah,aj⟩,ai⟩,Y,aa⟩ ⟨rs,rg,⟨bR,b4,ts⟩,a7,bG⟩ now=if 0<(bL ⟨ws,fu⟩).n/\(bL ⟨ws,fu⟩).ended=false then 12 else if (bL ⟨ws,fu⟩).n=8 then 8 else(g1 b l ⟨⟨ak,ah,aj⟩,ai⟩ ⟨rs,rg,⟨bR,b4,ts⟩,a7,bG⟩ now (Y.length:Int)).2:=by unfold qn;rw[if_pos HS]
 unfold iB at D;rw[hU]at D;clear hU;simp only at D;have mX:(((len Y):Nat):Int)=(Y.length:Int):=rfl;rw[mX];obtain⟨T,bH⟩:∃T,g1 b l ⟨⟨ak,ah,aj⟩,ai⟩ ⟨rs,rg,⟨bR,b4,ts⟩,a7,bG⟩ now (Y.length:Int)=T:=⟨_,rfl⟩
 obtain⟨s,av⟩:∃s,bL ⟨ws,fu⟩=s:=⟨_,rfl⟩
 rw[bH,av]at D |-;rw[av]at Ar Dw;have ku:W (s.n+1)=s.n+1:=cc (by omega) (by omega);rw[ku];obtain⟨jy,Qw⟩:∃jy,dJ ⟨⟨ws,fu⟩,up,⟨⟨ak,ah,aj⟩,ai⟩,Y,aa⟩ [1,s.n+1,bR]=jy:=⟨_,rfl⟩
 have aq:=(qZ (g:=⟨⟨ws,fu⟩,up,⟨⟨ak,ah,aj⟩,ai⟩,Y,aa⟩) (r:=[1,s.n+1,bR]) bA)
 rw[Qw]at aq |-;obtain⟨_,_,aQ,bO,_⟩:=aq;simp only at aQ bO;have tf:len jy.1.cF<=4:=by simp only[len];omega
 have nZ:len jy.1.did<=4:=by simp only[len];omega
 have end_:¬(0<s.n/\s.ended=false)->J (au s.n (8:Int))
   (K (.an [.agg [af [],A (0:Int),ay false,A (0:Int),af [],A (0:Int),A (0:Int),bj [],bj []],.one (A (0:Int)),.one (A (8:Int))]) [])
   (J (!(au T.2 (0:Int)))
    (K (.an [.agg [af [],A (0:Int),ay false,A (0:Int),af [],A (0:Int),A (0:Int),bj [],bj []],.one (A (0:Int)),.one (A T.2)]) [])
    (((((len ws)*8)<=140737488355328)/\((((len ah)*8)<=140737488355328)/\(((len Y)<=140737488355328)/\((len aa)<=140737488355328)))) /\
     (((dE (⟨ws,fu⟩:tX)=(0:Int))/\(((List.length ((1:Int)::((s.n+1)::(bR::[]))))<=140737488355328)/\(((len Y)<=1000)/\((len aa)<=1000)))) /\
     (J (!jy.2)
      (K (.an [.agg (jB jy.1),.one (A (0:Int)),.one (A (0:Int))]) [])
      ((((0:Int)<=(((len jy.1.cF):Nat):Int))/\((((((len jy.1.cF):Nat):Int)*((1:Nat):Int))<=(140737488355328:Int))/\((((len jy.1.cF):Nat):Int)<=(140737488355328:Int)))) /\
       ((((0:Int)<=(((len jy.1.did):Nat):Int))/\((((((len jy.1.did):Nat):Int)*((1:Nat):Int))<=(140737488355328:Int))/\((((len jy.1.did):Nat):Int)<=(140737488355328:Int)))) /\
       (K (.an [.agg [af jy.1.f.words,A jy.1.f.fuel,ay jy.1.up,A T.1.r.version,af T.1.r.keys,A T.1.r.ej,A T.1.version,bj (c6 (Int.toNat (((len jy.1.cF):Nat):Int)) (z.H z.bool)),bj (c6 (Int.toNat (((len jy.1.did):Nat):Int)) (z.H z.bool))],.one (A (s.n+1)),.one (A (0:Int))]) []))))))):=fun c=>by
  simp only[if_neg c]at D;refine cz (fun I=>?_) (fun I=>bN (fun G=>?_) (fun G=>⟨⟨ix,jb,by omega,by omega⟩,⟨bA,by simp,lc,o3⟩,eF (fun ab=>?_) (fun ab=>⟨⟨by omega,by omega,by omega⟩,⟨by omega,by omega,by omega⟩,?_⟩)⟩))
  ·simp only[if_pos I]at D;exact D
  ·simp only[if_neg I,if_neg G]at D;exact D
  all_goals
   simp only[if_neg I,if_pos G]at D;unfold ou at D;rw[Qw]at D
  ·rw[if_neg (by rw[ab];simp)]at D;exact D
  ·rw[if_pos ab]at D;rw[cM,cM,show len jy.1.cF=Y.length from aQ,show len jy.1.did=aa.length from bO];exact D
 refine bN (fun I=>eF (fun G=>?_) (fun G=>end_ (by rw[G];simp))) (fun I=>end_ (by omega));simp only[if_pos (show 0<s.n/\s.ended=false from⟨by omega,G⟩)]at D;exact D

def Gh:bd
 |[.agg [.E (.list .int) ws,.E .int fu,.E .bool up,.E .int ak,.E (.list .int) ah,.E .int aj,.E .int ai,.E (.list .bool) Y,.E (.list .bool) aa],.agg [.E .int eJ,.E .int e4,.E .int eo,.E (.list .target) dT,.E (.list (.list .int)) cU],.one (.E .int u)],[]=>some (some (dM ⟨⟨ws,fu⟩,up,⟨⟨ak,ah,aj⟩,ai⟩,Y,aa⟩=0/\dT.length<=140737488355328/\cU.length<=140737488355328),.an [.one (bB (hj ⟨⟨ws,fu⟩,up,⟨⟨ak,ah,aj⟩,ai⟩,Y,aa⟩ ⟨eJ,⟨e4,eo,dT⟩,cU⟩ u).1),.one (A (hj ⟨⟨ws,fu⟩,up,⟨⟨ak,ah,aj⟩,ai⟩,Y,aa⟩ ⟨eJ,⟨e4,eo,dT⟩,cU⟩ u).2)],[])
 |_,_=>none
def yG:Ctx:=[(40,Td),(39,wc)]
def DP:List cw:=[.inLoop [113,112,111,10,9,8,7,6,4,2] (cZ qA [1,1,1,1,1,1,1,1,1,0,1,0,0]),.inBlock 1,.code (cZ qA [1,1,1,1,1,1,1,1,1,1])]
def KG(F al:Int)(M ae:aJ)(ao aE:Int)(aH:cG)(aS aZ:Int)(bc bn bo:Bool)(bm:cG)(bC bJ bI:Int)(bM:LT)(bz:cu):bP:=⟨[(113,.one (A F)),(112,.one (A al)),(111,.one (af M)),(10,.one (.own 0)),(9,.one (af ae)),(8,.one (.ptr 1 0)),(7,.one (A ao)),(6,.one (.own 2)),(4,.one (.ptr 3 0)),(2,.one (A aE))],[(0,.arr z.message aH),(1,.box [A aS,A aZ,ay bc,ay bn,ay bo]),(2,.arr z.message bm),(3,.box [A bC,A bJ,A bI,.E (z.list z.target) bM,cH bz])],4⟩
def vi:List cw:=[.inLoop [113,112,111,10,9,8,7,6,4,2] (cZ qA [1,1,1,1,1,1,1,1,1,0,1,0,0]),.inBlock 1,.code (cZ qA [1,1,1,1,1,1,1,1,1,1])]
def KH(F al:Int)(M ae:aJ)(ao aE:Int)(aH:cG)(aS aZ bc bn bo:Int)(bm:Bool)(bC bJ:Int)(bI bM bz:Bool)(bS:cG)(bY cq cv:Int)(cN:LT)(c0:cu)(c5:aJ):bP:=⟨[(113,.one (A F)),(112,.one (A al)),(111,.one (af M)),(10,.one (.ia 0)),(9,.one (af ae)),(8,.one (.ptr 1 0)),(7,.one (A ao)),(6,.one (.own 2)),(4,.one (.ptr 3 0)),(2,.one (A aE))],[(0,.ew z.message aH [A aS,A aZ,A bc,A bn,A bo,.own 4,ay bm]),(1,.box [A bC,A bJ,ay bI,ay bM,ay bz]),(2,.arr z.message bS),(3,.box [A bY,A cq,A cv,.E (z.list z.target) cN,cH c0]),(4,.arr z.int c5)],5⟩
theorem ae3(ws:aJ)(fu:Int)(up:Bool)(ak:Int)(ah:aJ)(aj ai:Int)(Y aa:c9)(eJ e4 eo:Int)(dT:LT)(cU:cu)(u:Int)(rec:bZ)(K:aW) v0 (b0:v0=dE ⟨ws,fu⟩) v1 (cd:v1=bL ⟨ws,fu⟩) v3 (ef:v3=J v1.dv
 (K (.an [.one (bB []),.one (A 0)]) [])
 (J v1.abort
 (K (.an [.one (bB []),.one (A 0)]) [])
 (((0:Int)<=u/\u<(len Y:Int)) /\
 J (nth Y (Int.toNat u) (z.H z.bool))
 (K (.an [.one (bB []),.one (A 0)]) [])
 (((0:Int)<=u/\u<(len cU:Int)) /\
 J (aN 40 (((len (nth cU (Int.toNat u) (z.H (z.list z.int)))):Nat):Int))
 (K (.an [.one (bB []),.one (A 2)]) [])
 (rec DP (KG 0 (((len (nth cU (Int.toNat u) (z.H (z.list z.int)))):Nat):Int) (nth cU (Int.toNat u) (z.H (z.list z.int))) (nth cU (Int.toNat u) (z.H (z.list z.int))) 0 u [] v1.n v1.version v1.dv v1.abort v1.ended [] eJ e4 eo dT cU)))))) aC (cR:aC=J v1.abort
 (((0:Int)<=u/\u<(len aa:Int)) /\
 J (!(nth aa (Int.toNat u) (z.H z.bool)))
 (K (.an [.one (bB (cat [] ((⟨5,u,v1.n,0,0,[],false⟩:fC)::[]))),.one (A 0)]) [])
 v3)
 v3):b7 yG tab qA 0 K rec [.code (bF qA)] (df [.agg [af ws,A fu,ay up,A ak,af ah,A aj,A ai,bj Y,bj aa],.agg [A eJ,A e4,A eo,.E (z.list z.target) dT,cH cU],.one (A u)] [])=(
 v0=(0:Int) /\
 J (!up)
 (K (.an [.one (bB []),.one (A 7)]) [])
 (J (au v1.n 0)
 (K (.an [.one (bB []),.one (A 12)]) [])
 (J v1.ended
 (K (.an [.one (bB []),.one (A 12)]) [])
 (J (aN u 0)
 (K (.an [.one (bB []),.one (A 5)]) [])
 (J (dc (len Y:Int) u)
 (K (.an [.one (bB []),.one (A 5)]) [])
 (J (!(au eJ v1.n))
 (K (.an [.one (bB []),.one (A 5)]) [])
 (J (dc (len cU:Int) u)
 (K (.an [.one (bB []),.one (A 5)]) [])
 (J (dc (len dT:Int) u)
 (K (.an [.one (bB []),.one (A 5)]) [])
 (J v1.dv
 (((0:Int)<=u/\u<(len aa:Int)) /\
 J (!(nth aa (Int.toNat u) (z.H z.bool)))
 (K (.an [.one (bB (cat [] ((⟨4,u,v1.n,0,0,[],false⟩:fC)::[]))),.one (A 0)]) [])
 aC)
 aC))))))))):=by subst_vars;kernel_rfl
theorem ae4{F al ao aE aS aZ bC bJ bI:Int}{M ae:aJ}{aH bm:cG}{bc bn bo:Bool}{bM:LT}{bz:cu}{rec:bZ}{K:aW}:b7 yG tab qA 0 K rec (cQ DP) (KG F al M ae ao aE aH aS aZ bc bn bo bm bC bJ bI bM bz)=(
 J (aN F al)
 (((0:Int)<=F/\F<(len M:Int)) /\
 (8:Int)≠(0:Int) /\
 J (au (Int.tmod F 8) 0)
 ((len aH+1)*72<=140737488355328 /\
 W ((((len aH+1):Nat):Int)-(1:Int))=(len aH:Int) /\
 len (nth M (Int.toNat F) (z.H z.int)::[])*8<=140737488355328 /\
 rec vi (KH (W (F+1)) al M ae ao aE aH 1 aE aS F 0 false aS aZ bc bn bo bm bC bJ bI bM bz (nth M (Int.toNat F) (z.H z.int)::[])))
 (((0:Int)<=W ((len aH:Int)-(1:Int))/\W ((len aH:Int)-(1:Int))<(len aH:Int)) /\
 Int.toNat (W ((len aH:Int)-(1:Int)))<len aH /\
 False))
 (((0:Int)<=aE/\aE<(len bM:Int)) /\
 (len aH+1)*72<=140737488355328 /\
 K (.an [.one (bB (cat aH ((⟨2,aE,aS,(len ae:Int),(nth bM (Int.toNat aE) (z.H z.target)).image,[],false⟩:fC)::[]))),.one (A 0)]) [])):=by kernel_rfl
theorem Up{F aS aZ bc bn bo:Int}{aH:cG}{bm:Bool}{c5:aJ}{rec:bZ}{K:aW}{al M ae ao aE bC bJ bI bM bz bS bY cq cv cN c0}{v0}(b0:v0=fun a b c d e f g h i=>KH a al M ae ao aE b c d e f g h bC bJ bI bM bz bS bY cq cv cN c0 i):b7 yG tab qA 0 K rec (cQ vi) (v0 F aH aS aZ bc bn bo bm c5)=(
 J (aN F al)
 (((0:Int)<=F/\F<(len M:Int)) /\
 (8:Int)≠(0:Int) /\
 J (au (Int.tmod F 8) 0)
 ((len aH+2)*72<=140737488355328 /\
 W ((((len (cat aH ((⟨aS,aZ,bc,bn,bo,c5,bm⟩:fC)::[]))+1):Nat):Int)-(1:Int))=(((len (cat aH ((⟨aS,aZ,bc,bn,bo,c5,bm⟩:fC)::[]))):Nat):Int) /\
 len (nth M (Int.toNat F) (z.H z.int)::[])*8<=140737488355328 /\
 rec vi (v0 (W (F+1)) (cat aH ((⟨aS,aZ,bc,bn,bo,c5,bm⟩:fC)::[])) 1 aE bC F 0 false (nth M (Int.toNat F) (z.H z.int)::[])))
 (W ((((len aH+1):Nat):Int)-(1:Int))=(len aH:Int) /\
 (len c5+len (nth M (Int.toNat F) (z.H z.int)::[]))*8<=140737488355328 /\
 rec vi (v0 (W (F+1)) aH aS aZ bc bn bo bm (cat c5 (nth M (Int.toNat F) (z.H z.int)::[])))))
 (((0:Int)<=aE/\aE<(len cN:Int)) /\
 (len aH+2)*72<=140737488355328 /\
 K (.an [.one (bB (cat (cat aH ((⟨aS,aZ,bc,bn,bo,c5,bm⟩:fC)::[])) ((⟨2,aE,bC,(len ae:Int),(nth cN (Int.toNat aE) (z.H z.target)).image,[],false⟩:fC)::[]))),.one (A 0)]) [])):=by subst_vars;kernel_rfl

theorem V3{l:aJ}{lo k:Nat}(I:lo<=k)(G:k<l.length):cat (a2 l lo k) [nth l k (z.H z.int)]=a2 l lo (k+1):=by
 unfold a2 cat;rw[ie G (z.H z.int),List.drop_append_of_le_length (by simp;omega)]
theorem V2{l:aJ}{k:Nat}(G:k<l.length):[nth l k (z.H z.int)]=a2 l k (k+1):=by
 rw[<- V3 (Nat.le_refl k) G];unfold a2 cat;rw[List.drop_of_length_le (by simp;omega)];rfl
theorem Jx(w:aJ)(u n:Int)(cb:w.length<=40)(b:Int)(c d e:Bool)(eJ e4 eo:Int)(dT:LT)(cU:cu)(hu:0<=u/\u<(dT.length:Int))(K:aW) :
  ∀(hH k q:Nat) (acc:cG),k+hH=w.length->8*q<k->k<=8*q+8->acc.length<=q->K (.an [.one (bB (acc++(iZ u n w (6-q) (8*q)++[⟨2,u,n,(w.length:Int),(nth dT u.toNat ⟨0,0,0⟩).image,[],false⟩]))),.one (A (0:Int))]) [] ->
  cl yG tab qA 0 K (hH+1) vi (KH (k:Int) (w.length:Int) w w 0 u acc 1 u n ((8*q:Nat):Int) 0 false n b c d e [] eJ e4 eo dT cU (a2 w (8*q) k))
 |0,k,q,acc,ad,I,G,bh,D=>by
  rw[bW (L:=vi),Up rfl];have aI:6-q=(5-q)+1:=by omega
  rw[aI]at D;simp only[iZ,if_pos (show 8*q<w.length by omega)]at D;have dR:iZ u n w (5-q) (8*q+8)=[]:=by
   cases pR:5-q with
   |zero=>rfl
   |succ j=>simp only[iZ,if_neg (show ¬8*q+8<w.length by omega)]
  have uL:min (8*q+8) w.length=k:=by omega
  rw[dR]at D;unfold tr at D;rw[uL]at D;refine co (by omega) ⟨⟨hu.1,by simp only[len];omega⟩,by simp only[len];omega,?_⟩;simp only[cat,acv,List.append_assoc,List.cons_append,List.nil_append]at D |-;exact D
 |hH+1,k,q,acc,ad,I,G,bh,D=>by
  rw[bW (L:=vi),Up rfl,cM];have aI:6-q=(5-q)+1:=by omega
  have zY:∀x:Nat,x<=100->W (((x+1:Nat):Int)-1)=(x:Int):=fun x aG=>by rw[cc (by omega) (by omega)];omega
  refine cS (by omega) ⟨⟨by omega,by simp only[len];omega⟩,by decide,cz (fun dZ=>?_) (fun dZ=>?_)⟩
  ·have dZ:Int.tmod (k:Int) 8=0:=dZ;have aaU:k=8*q+8:=by
    have:((k%8:Nat):Int)=0:=by rw[<- dZ];rfl
    omega
   refine⟨by simp only[len];omega,by simp only[len,cat,List.length_append,List.length_cons,List.length_nil];exact zY _ (by omega),by simp only[len,List.length_cons,List.length_nil];omega,?_⟩;rw[di (by omega),V2 (show k<w.length by omega)];have PK:((k:Nat):Int)=((8*(q+1):Nat):Int):=by omega
   have wN:k=8*(q+1):=by omega
   rw[aI]at D;simp only[iZ,if_pos (show 8*q<w.length by omega)]at D;unfold tr at D;have uL:min (8*q+8) w.length=k:=by omega
   rw[uL]at D;have key:=Jx w u n cb b c d e eJ e4 eo dT cU hu K hH (k+1) (q+1) (cat acc [⟨1,u,n,((8*q:Nat):Int),0,a2 w (8*q) k,false⟩]) (by omega) (by omega) (by omega) (by simp[cat];omega) (by
    rw[show 6-(q+1)=5-q by omega,show 8*(q+1)=8*q+8 by omega];simp only[cat,List.append_assoc,List.cons_append,List.nil_append]at D |-;exact D)
   rw[<- wN]at key;exact key
  ·have aaU:k<8*q+8:=by
    apply Nat.lt_of_not_le;intro hle;have aaR:k=8*(q+1):=by omega
    exact dZ (by rw[aaR];show((8*(q+1)%8:Nat):Int)=0;omega)
   refine⟨by simp only[len];exact zY _ (by omega),by simp only[len,a2,List.length_drop,List.length_take,List.length_cons,List.length_nil];omega,?_⟩;rw[di (by omega),V3 (by omega) (by omega)];exact Jx w u n cb b c d e eJ e4 eo dT cU hu K hH (k+1) q acc (by omega) (by omega) (by omega) bh D
theorem acF(w:aJ)(u n:Int)(cb:w.length<=40)(b:Int)(c d e:Bool)(eJ e4 eo:Int)(dT:LT)(cU:cu)(hu:0<=u/\u<(dT.length:Int))(K:aW)
  (D:K (.an [.one (bB (iZ u n w 6 0++[⟨2,u,n,(w.length:Int),(nth dT u.toNat ⟨0,0,0⟩).image,[],false⟩])),.one (A (0:Int))]) []) :
  cl yG tab qA 0 K (w.length+1) DP (KG 0 (w.length:Int) w w 0 u [] n b c d e [] eJ e4 eo dT cU):=by
 rw[bW (L:=DP),ae4 ]
 by_cases dR:w.length=0
 ·rw[show iZ u n w 6 0=[]by simp only[iZ,if_neg (show ¬0<w.length by omega)]]at D;exact co (by omega) ⟨⟨hu.1,by simp only[len];omega⟩,by simp only[len,List.length_nil];omega,D⟩
 ·obtain⟨hH,bO⟩:∃hH,w.length=hH+1:=⟨w.length-1,by omega⟩
  refine cS (by omega) ⟨⟨by omega,by simp only[len];omega⟩,by decide,ji rfl ⟨by simp only[len,List.length_nil];omega,by decide,by simp only[len,List.length_cons,List.length_nil];omega,?_⟩⟩;have key:=Jx w u n cb b c d e eJ e4 eo dT cU hu K hH 1 0 [] (by omega) (by omega) (by omega) (by simp) (by rw[List.nil_append];exact D);rw[<- V2 (k:=0) (by omega),<- bO]at key;have aO:W (0+1)=((1:Nat):Int):=by decide
  have dY:Int.toNat 0=0:=rfl;rw[aO,dY];exact key
theorem ahI:bw 40 Gh:=b2 (Γ:=yG) 0 ((bv.f yr).Hw Tryz.func40 (by kernel_rfl) agS) Tryz.func40 (by kernel_rfl) fun vs ar=>by
 unfold Gh;split;rotate_left;trivial;rename_i ws fu up ak ah aj ai Y aa eJ e4 eo dT cU u;dsimp only[z.den]at ws fu up ak ah aj ai Y aa eJ e4 eo dT cU u;refine⟨by kernel_rfl,fun ag K D=>?_⟩;obtain⟨az,aj8,oM⟩:=ag;have az:dM ⟨⟨ws,fu⟩,up,⟨⟨ak,ah,aj⟩,ai⟩,Y,aa⟩=0:=az;obtain⟨fw,v1,aC,v3,_⟩:=im az;simp only at fw v1 aC v3;unfold hj wv sB hP at D;simp only[az,if_true]at D;have tf:((len Y:Nat):Int)=(Y.length:Int):=rfl;have nZ:((len aa:Nat):Int)=(aa.length:Int):=rfl;have wX:((len cU:Nat):Int)=(cU.length:Int):=rfl;have lt:((len dT:Nat):Int)=(dT.length:Int):=rfl;obtain⟨s,av⟩:∃s,bL ⟨ws,fu⟩=s:=⟨_,rfl⟩
 rw[av]at D;refine⟨(nth cU (Int.toNat u) []).length+1+1,?_⟩;rw[eO,ae3 _ _ _ _ _ _ _ _ _ _ _ _ _ _ _ _ _ _ rfl _ rfl _ rfl _ rfl,av,tf,nZ,wX,lt];refine⟨fw,eF (fun h=>?_) (fun h=>?_)⟩
 ·subst h;exact D
 subst h;simp only[if_true]at D
 by_cases bA:s.n=0\/s.ended=true
 ·rw[if_pos bA,if_neg (by decide)]at D;exact cz (fun _=>D) (fun q=>gb (bA.resolve_left q) D)
 rw[if_neg bA]at D;simp only[not_or,Bool.not_eq_true]at bA;refine iC bA.1 (fa bA.2 ?_)
 by_cases bb:u<0\/(Y.length:Int)<=u\/eJ≠s.n\/(cU.length:Int)<=u\/(dT.length:Int)<=u
 ·rw[if_pos bb,if_neg (by decide)]at D;exact bq (fun _=>D) (fun cJ=>cn (fun _=>D) (fun cE=>bN (fun _=>D) (fun ey=>cn (fun _=>D) (fun gw=>gb (fV.2 (by rw[eC]at cE gw;omega)) D))))
 rw[if_neg bb,if_pos rfl]at D;refine co (by omega) (fa (eC.2 (by omega)) (u5 (by omega) (fa (eC.2 (by omega)) (fa (eC.2 (by omega)) ?_))));have ud:(0:Int)<=u/\u<(aa.length:Int):=⟨by omega,by omega⟩
 have ug:(0:Int)<=u/\u<(Y.length:Int):=⟨by omega,by omega⟩
 have N2:(0:Int)<=u/\u<(cU.length:Int):=⟨by omega,by omega⟩
 by_cases bO:s.dv=true\/s.abort=true
 ·rw[if_pos bO]at D;refine cn (fun d1=>⟨ud,eF (fun q=>?_) (fun q=>?_)⟩) (fun d1=>cn (fun d2=>⟨ud,eF (fun q=>?_) (fun q=>?_)⟩) (fun d2=>?_))
  ·rw[if_neg (by exact Bool.eq_false_iff.1 q)]at D;unfold qv nd at D;rw[if_pos ⟨d1,rfl⟩]at D;exact D
  ·rw[if_pos (by exact q)]at D;exact cn (fun _=>⟨ud,Aq q (gb d1 D)⟩) (fun _=>gb d1 D)
  ·rw[if_neg (by exact Bool.eq_false_iff.1 q)]at D;unfold qv nd at D;rw[if_neg (by rw[d1];simp)]at D;exact D
  ·rw[if_pos (by exact q)]at D;exact fa d1 (gb d2 D)
  ·rw[d1,d2]at bO;simp at bO
 rw[if_neg bO]at D;simp only[not_or,Bool.not_eq_true]at bO;refine fa bO.1 (fa bO.2 (fa bO.1 (fa bO.2 ⟨ug,cn (fun q=>?_) (fun q=>⟨N2,?_⟩)⟩)))
 ·rw[if_pos (by exact q)]at D;exact D
 rw[if_neg (by exact Bool.eq_false_iff.1 q)]at D;unfold wS at D;simp only at D;obtain⟨w,cb⟩:∃w,nth cU (Int.toNat u) (z.H (z.list z.int))=w:=⟨_,rfl⟩
 have Dg:nth cU (Int.toNat u) []=w:=cb;rw[cb,Dg];rw[Dg]at D;have JG:((len w:Nat):Int)=(w.length:Int):=rfl;rw[JG]
 by_cases cr:40<w.length
 ·rw[if_pos cr]at D;exact cS (by omega) D
 ·rw[if_neg cr]at D;exact co (by omega) (acF w u s.n (by omega) s.version s.dv s.abort s.ended eJ e4 eo dT cU ⟨by omega,by omega⟩ K D)

def F6:bd
 |[.agg [.E (.list .int) ws,.E .int fu,.E .bool _,.E .int _,.E .int _]],[]=>some (some (dE ⟨ws,fu⟩=0),.agg [A (c2 ⟨ws,fu⟩).slot,A (c2 ⟨ws,fu⟩).eV,A (c2 ⟨ws,fu⟩).ready],[])
 |_,_=>none
def Bj:Ctx:=[(91,y8)]
def o1:List cw:=[.inLoop [7,6,5,3,2] (Code.sub (bF Tryz.f41) [1,1,1,1,0,1,0,0]),.inBlock 0,.code (Code.sub (bF Tryz.f41) [1,1,1,1,1])]
def AB(F:Int)(al:Bool)(M:cu)(ae ao aE aH aS aZ:Int):bP:=⟨[(7,.one (A F)),(6,.one (ay al)),(5,.one (.ptr 0 0)),(3,.one (cH M)),(2,.one (.ptr 1 0))],[(0,.box [A ae,A ao,A aE]),(1,.box [A aH,A aS,A aZ])],2⟩
theorem Uf{F aE:Int}{al:Bool}{rec:bZ}{K:aW}{M ae ao aH aS aZ}{v0 aC v1}(b0:v0=fun a b c=>AB a b M ae ao c aH aS aZ)(cR:aC=J (!al)
 (((0:Int)<=(0:Int)/\(0:Int)<(((len (nth M (Int.toNat F) (z.H (z.list z.int)))):Nat):Int)) /\
 J (au (nth (nth M (Int.toNat F) (z.H (z.list z.int))) (Int.toNat 0) (z.H z.int)) 2)
 (((0:Int)<=(1:Int)/\(1:Int)<(((len (nth M (Int.toNat F) (z.H (z.list z.int)))):Nat):Int)) /\
 rec o1 (v0 (W (F-1)) true (nth (nth M (Int.toNat F) (z.H (z.list z.int))) (Int.toNat 1) (z.H z.int))))
 (rec o1 (v0 (W (F-1)) true aE)))
 (rec o1 (v0 (W (F-1)) al aE))) (cd:v1=J (au (((len (nth M (Int.toNat F) (z.H (z.list z.int)))):Nat):Int) 2)
 (((0:Int)<=(0:Int)/\(0:Int)<(((len (nth M (Int.toNat F) (z.H (z.list z.int)))):Nat):Int)) /\
 J (au (nth (nth M (Int.toNat F) (z.H (z.list z.int))) (Int.toNat 0) (z.H z.int)) 2)
 aC
 (((0:Int)<=(0:Int)/\(0:Int)<(((len (nth M (Int.toNat F) (z.H (z.list z.int)))):Nat):Int)) /\
 J (au (nth (nth M (Int.toNat F) (z.H (z.list z.int))) (Int.toNat 0) (z.H z.int)) 3)
 aC
 (rec o1 (v0 (W (F-1)) al aE))))
 (rec o1 (v0 (W (F-1)) al aE))):b7 Bj tab Tryz.f41 0 K rec (cQ o1) (v0 F al aE)=(
 J (dc 0 F)
 (((0:Int)<=F/\F<(len M:Int)) /\
 J (au (((len (nth M (Int.toNat F) (z.H (z.list z.int)))):Nat):Int) 3)
 (((0:Int)<=(0:Int)/\(0:Int)<(((len (nth M (Int.toNat F) (z.H (z.list z.int)))):Nat):Int)) /\
 J (au (nth (nth M (Int.toNat F) (z.H (z.list z.int))) (Int.toNat 0) (z.H z.int)) 1)
 (((0:Int)<=(1:Int)/\(1:Int)<(((len (nth M (Int.toNat F) (z.H (z.list z.int)))):Nat):Int)) /\
 J (aN (nth (nth M (Int.toNat F) (z.H (z.list z.int))) (Int.toNat 1) (z.H z.int)) 2)
 (((0:Int)<=(1:Int)/\(1:Int)<(((len (nth M (Int.toNat F) (z.H (z.list z.int)))):Nat):Int)) /\
 ((0:Int)<=(2:Int)/\(2:Int)<(((len (nth M (Int.toNat F) (z.H (z.list z.int)))):Nat):Int)) /\
 K (.agg [A (nth (nth M (Int.toNat F) (z.H (z.list z.int))) (Int.toNat 1) (z.H z.int)),A (nth (nth M (Int.toNat F) (z.H (z.list z.int))) (Int.toNat 2) (z.H z.int)),A aE]) [])
 v1)
 v1)
 v1)
 (K (.agg [A ae,A ao,A aE]) [])):=by subst_vars;kernel_rfl

theorem Ys{p q r:Bool}{gO bA T X:Prop}(sX:p=true->gO)(aae:p=true->bA)(bH:p=true->q=true->r=true->T)(fS:¬(p=true/\q=true/\r=true)->X):J p (gO/\J q (bA/\J r T X) X) X:=by
 cases p
 ·exact fS (by simp)
 ·refine⟨sX rfl,?_⟩;cases q
  ·exact fS (by simp)
  ·refine⟨aae rfl,?_⟩;cases r
   ·exact fS (by simp)
   ·exact bH rfl rfl rfl
theorem SG(l:cu)(ax:l.length<=1000)(K:aW)(aH aS aZ:Int)(D:K (.agg [A (hO l).slot,A (hO l).eV,A (hO l).ready]) []):∀(d:Nat) (told:Bool) (aE:Int),d<=l.length->(told=false->aE=0) ->
  (hO l=⟨(hO (l.take d)).slot,(hO (l.take d)).eV,if told then aE else(hO (l.take d)).ready⟩) ->
  cl Bj tab Tryz.f41 0 K (d+1) o1 (AB ((d:Int)-1) told l 0 0 aE aH aS aZ)
 |0,told,aE,bO,a6,hi=>by
  rw[bW (L:=o1),Uf rfl rfl rfl];refine fa (by rw[eC];omega) ?_;rw[hi]at D;have e:(if told then aE else(hO (l.take 0)).ready)=aE:=by
   cases told
   ·exact(a6 rfl).symm
   ·rfl
  rw[e]at D;exact D
 |d+1,told,aE,bO,a6,hi=>by
  rw[bW (L:=o1),Uf rfl rfl rfl];rw[show(((d+1:Nat):Int)-1)=(d:Int)by omega,cM,cc (by omega) (by omega)];have es:hO (l.take (d+1))=g8 (hO (l.take d)) (nth l d (z.H (z.list z.int))):=by
   rw[ie (by omega) (z.H (z.list z.int))];unfold hO;rw[List.foldl_append];rfl
  rw[es]at hi;obtain⟨e,bp⟩:∃e,nth l d (z.H (z.list z.int))=e:=⟨_,rfl⟩
  rw[bp]at hi |-;obtain⟨iO,c8⟩:∃iO,hO (l.take d)=iO:=⟨_,rfl⟩
  have go:∀(A4:Bool) (y:Int),(A4=false->y=0)->hO l=⟨iO.slot,iO.eV,if A4 then y else iO.ready⟩->cl Bj tab Tryz.f41 0 K (d+1) o1 (AB ((d:Int)-1) A4 l 0 0 y aH aS aZ):=fun A4 y I G =>
   SG l ax K aH aS aZ D d A4 y (by omega) I (by rw[c8];exact G)
  rw[c8]at hi;have dY:nth e 0 (z.H z.int)=e.getD 0 0:=rfl;have aO:nth e 1 (z.H z.int)=e.getD 1 0:=rfl;have aX:nth e 2 (z.H z.int)=e.getD 2 0:=rfl;rw[show Int.toNat (0:Int)=0 from rfl,show Int.toNat (1:Int)=1 from rfl,show Int.toNat (2:Int)=2 from rfl,dY,aO,aX];refine gb (by rw[fV];omega) ⟨⟨by omega,by simp only[len];omega⟩,Ys (fun h=>?_) (fun h=>?_) (fun I G ab=>?_) (fun aq=>?_)⟩
  ·rw[kA]at h;exact⟨by omega,by omega⟩
  ·rw[kA]at h;exact⟨by omega,by omega⟩
  ·rw[kA]at I G;rw[oS]at ab;refine⟨⟨by omega,by omega⟩,⟨by omega,by omega⟩,?_⟩;have zj:g8 iO e=⟨e.getD 1 0,e.getD 2 0,0⟩:=if_pos ⟨G,by simp only[len]at I;omega,by omega⟩;rw[zj]at hi;rw[hi]at D;have eB:(if told then aE else(0:Int))=aE:=by
    cases told
    ·exact(a6 rfl).symm
    ·rfl
   simp only at D;rw[eB]at D;exact D
  ·have ho:¬(e.getD 0 0=1/\e.length=3/\e.getD 1 0<=1):=fun g=>aq ⟨kA.2 (by simp only[len];omega),kA.2 g.1,oS.2 (by omega)⟩
   have stay:¬(e.length=2/\(e.getD 0 0=2\/e.getD 0 0=3))->cl Bj tab Tryz.f41 0 K (d+1) o1 (AB ((d:Int)-1) told l 0 0 aE aH aS aZ):=fun iX=>by
    refine go told aE a6 ?_;have:g8 iO e=iO:=by
     unfold g8;rw[if_neg ho,if_neg (fun g=>iX ⟨g.2,.inl g.1⟩),if_neg (fun g=>iX ⟨g.2,.inr g.1⟩)]
    rw[this]at hi;exact hi
   refine cz (fun I=>⟨⟨by omega,by omega⟩,cz (fun G=>?_) (fun G=>⟨⟨by omega,by omega⟩,cz (fun ab=>?_) (fun ab=>stay (fun g=>?_))⟩)⟩) (fun I=>stay (fun g=>I (by simp only[len];omega)))
   ·have zj:g8 iO e=⟨iO.slot,iO.eV,e.getD 1 0⟩:=by
     unfold g8;rw[if_neg ho,if_pos ⟨G,by simp only[len]at I;omega⟩]
    rw[zj]at hi;cases told
    ·exact⟨⟨by omega,by omega⟩,ji G ⟨⟨by omega,by omega⟩,go true _ (fun h=>by cases h) hi⟩⟩
    ·exact go true aE a6 hi
   ·have zj:g8 iO e=⟨iO.slot,iO.eV,0⟩:=by
     unfold g8;rw[if_neg ho,if_neg (fun g=>G g.1),if_pos ⟨ab,by simp only[len]at I;omega⟩]
    rw[zj]at hi;cases told
    ·refine⟨⟨by omega,by omega⟩,iC G (go true aE (fun h=>by cases h) ?_)⟩;rw[hi,a6 rfl];rfl
    ·exact go true aE a6 hi
   ·rcases g.2 with g|g
    ·exact G g
    ·exact ab g
theorem Md:bw 41 F6:=b2 (Γ:=Bj) 0 (bv.f Mo) Tryz.func41 (by kernel_rfl) fun vs ar=>by
 unfold F6;split;rotate_left;trivial;rename_i ws fu up bu bx;refine⟨by kernel_rfl,fun ag K D=>?_⟩;obtain⟨bK,bX,_⟩:=nG ag;obtain⟨bA,_,_,du⟩:=jh bK;simp only at bX bA du;refine⟨(fy ws).length+2,?_⟩;refine ck (fun rec=>(by kernel_rfl:_=(
  (64<=len ws/\len ws<=192/\cK ws=true) /\
  rec o1 (AB (W ((len (fy ws):Int)-(1:Int))) false (fy ws) 0 0 0 0 0 0)))) ?_
 have aB:=(LF ws).2;refine⟨⟨by simp only[len];omega,by have:=q1 bA;simp only[len];omega,du⟩,?_⟩;rw[w3 ag]at D;unfold yt at D;rw[cc (by simp only[len];omega) (by simp only[len];omega)];exact SG (fy ws) (by omega) K 0 0 0 D (fy ws).length false 0 (Nat.le_refl _) (fun _=>rfl) (by rw[List.take_length];rfl)

def Gi:bd
 |[.agg [.E (.list .int) ws,.E .int fu,.E .bool up,.E .int ak,.E (.list .int) ah,.E .int aj,.E .int ai,.E (.list .bool) Y,.E (.list .bool) aa],.agg [.E .int mk,.E .int a8,.E .int ba,.E .int bD,.E .int cg,.E (.list .int) bT,.E .bool cy]],[]=>some (some (dM ⟨⟨ws,fu⟩,up,⟨⟨ak,ah,aj⟩,ai⟩,Y,aa⟩=0/\0<=a8/\a8<(Y.length:Int)/\1<=ba/\ba<=8),.an [.agg (jB (iu ⟨⟨ws,fu⟩,up,⟨⟨ak,ah,aj⟩,ai⟩,Y,aa⟩ ⟨mk,a8,ba,bD,cg,bT,cy⟩).1),.one (bB (iu ⟨⟨ws,fu⟩,up,⟨⟨ak,ah,aj⟩,ai⟩,Y,aa⟩ ⟨mk,a8,ba,bD,cg,bT,cy⟩).2)],[])
 |_,_=>none
def Ng:Ctx:=[(86,Gd),(39,wc),(92,FT),(90,Gg)]
theorem adr:fz Tryz.prog tab Ng:=((((bv.f Mg).f Wm).f yr).f Mf)
theorem ae5(ws:aJ)(fu:Int)(up:Bool)(ak:Int)(ah:aJ)(aj ai:Int)(Y aa:c9)(mk a8 ba bD cg:Int)(bT:aJ)(cy:Bool)(rec:bZ)(K:aW) v0 (b0:v0=dE ⟨ws,fu⟩) v1 (cd:v1=bL ⟨ws,fu⟩) aC (cR:aC=hasB false (setAt aa (Int.toNat a8) true)) v3 (ef:v3=dJ ⟨⟨ws,fu⟩,up,⟨⟨ak,ah,aj⟩,ai⟩,Y,setAt aa (Int.toNat a8) true⟩ ((4:Int)::v1.n::[])) v4 (e1:v4=hasB false (setAt Y (Int.toNat a8) true)) cf (g5:cf=dJ ⟨⟨ws,fu⟩,up,⟨⟨ak,ah,aj⟩,ai⟩,setAt Y (Int.toNat a8) true,aa⟩ ((2:Int)::v1.n::[])) v9 (j3:v9=K (.an [.agg [af ws,A fu,ay up,A ak,af ah,A aj,A ai,bj Y,bj aa],.one (bB [])]) []) kR (Q8:kR=J (!aC)
 ((v0=(0:Int)/\List.length ((4:Int)::v1.n::[])<=140737488355328/\len Y<=1000/\len (setAt aa (Int.toNat a8) true)<=1000) /\
 K (.an [.agg (jB v3.fst),.one (bB [])]) [])
 (K (.an [.agg [af ws,A fu,ay up,A ak,af ah,A aj,A ai,bj Y,bj (setAt aa (Int.toNat a8) true)],.one (bB [])]) [])) si (Q9:si=K (.an [.agg [af ws,A fu,ay up,A ak,af ah,A aj,A ai,bj Y,bj aa],.one (bB ((⟨5,a8,ba,0,0,[],false⟩:fC)::[]))]) []) oe (Q7:oe=J (au v1.n ba)
 (J v1.dv
 (K (.an [.agg [af ws,A fu,ay up,A ak,af ah,A aj,A ai,bj Y,bj aa],.one (bB ((⟨4,a8,ba,0,0,[],false⟩:fC)::[]))]) [])
 si)
 si) v11 (oR:v11=J (au mk 7)
 (J (!(!v1.ended))
 oe
 (J v1.abort
 oe
 (K (.an [.agg [af ws,A fu,ay up,A ak,af ah,A aj,A ai,bj Y,bj aa],.one (bB [])]) [])))
 (K (.an [.agg [af ws,A fu,ay up,A ak,af ah,A aj,A ai,bj Y,bj aa],.one (bB [])]) [])) dK (km:dK=J (au mk 6)
 (J (!v1.ended)
 (J v1.abort
 (((0:Int)<=a8/\a8<(len aa:Int)) /\
 Int.toNat a8<len aa /\
 len (setAt aa (Int.toNat a8) true)<=1000 /\
 kR)
 v11)
 v11)
 v11) mO (zV:mO=J (au mk 7)
 (J (!(!v1.ended))
 oe
 oe)
 (K (.an [.agg [af ws,A fu,ay up,A ak,af ah,A aj,A ai,bj Y,bj aa],.one (bB [])]) [])) dF (iG:dF=J (au mk 6)
 (J (!v1.ended)
 (((0:Int)<=a8/\a8<(len aa:Int)) /\
 Int.toNat a8<len aa /\
 len (setAt aa (Int.toNat a8) true)<=1000 /\
 kR)
 mO)
 mO) hB (s7:hB=J (au mk 7)
 oe
 (K (.an [.agg [af ws,A fu,ay up,A ak,af ah,A aj,A ai,bj Y,bj aa],.one (bB [])]) [])) v10 (m9:v10=J (au mk 6)
 hB
 hB) eG (kI:eG=J (!up)
 (K (.an [.agg [af ws,A fu,ay up,A ak,af ah,A aj,A ai,bj Y,bj aa],.one (bB [])]) [])
 (J (au mk 3)
 v10
 v10)):b7 Ng tab Tryz.f42 0 K rec [.code (bF Tryz.f42)] (df [.agg [af ws,A fu,ay up,A ak,af ah,A aj,A ai,bj Y,bj aa],.agg [A mk,A a8,A ba,A bD,A cg,af bT,ay cy]] [])=(
 (len ws*8<=140737488355328/\len ah*8<=140737488355328/\len Y<=140737488355328/\len aa<=140737488355328) /\
 v0=(0:Int) /\
 J (au v1.n ba)
 (J v1.dv
 (J (!up)
 v9
 (J (au mk 3)
 (J (!v1.ended)
 dF
 dF)
 dF))
 (J (!up)
 v9
 (J (au mk 3)
 (J (!v1.ended)
 (J (!v1.abort)
 (J cy
 (((0:Int)<=a8/\a8<(len Y:Int)) /\
 Int.toNat a8<len Y /\
 len (setAt Y (Int.toNat a8) true)<=1000 /\
 J (!v4)
 ((v0=(0:Int)/\List.length ((2:Int)::v1.n::[])<=140737488355328/\len (setAt Y (Int.toNat a8) true)<=1000/\len aa<=1000) /\
 K (.an [.agg (jB cf.fst),.one (bB [])]) [])
 (K (.an [.agg [af ws,A fu,ay up,A ak,af ah,A aj,A ai,bj (setAt Y (Int.toNat a8) true),bj aa],.one (bB [])]) []))
 dK)
 dK)
 dK)
 dK)))
 (J v1.dv
 eG
 eG)):=by subst_vars;kernel_rfl

theorem agd(ag:dM ⟨⟨ws,fu⟩,up,⟨⟨ak,ah,aj⟩,ai⟩,Y,aa⟩=0/\0<=a8/\a8<(Y.length:Int)/\1<=ba/\ba<=8)(K:aW)(D:K (.an [.agg (jB (iu ⟨⟨ws,fu⟩,up,⟨⟨ak,ah,aj⟩,ai⟩,Y,aa⟩ ⟨mk,a8,ba,bD,cg,bT,cy⟩).1),.one (bB (iu ⟨⟨ws,fu⟩,up,⟨⟨ak,ah,aj⟩,ai⟩,Y,aa⟩ ⟨mk,a8,ba,bD,cg,bT,cy⟩).2)]) []):∃m,cl Ng tab Tryz.f42 0 K m [.code (bF Tryz.f42)] (df [.agg [af ws,A fu,ay up,A ak,af ah,A aj,A ai,bj Y,bj aa],.agg [A mk,A a8,A ba,A bD,A cg,af bT,ay cy]] []):=by
 obtain⟨az,iL,gh,mH,cJ⟩:=ag;have az:dM ⟨⟨ws,fu⟩,up,⟨⟨ak,ah,aj⟩,ai⟩,Y,aa⟩=0:=az;obtain⟨ix,jb,lc,o3⟩:=rp az;obtain⟨fw,v1,aC,v3,_⟩:=im az;simp only at fw v1 aC v3;refine⟨1,?_⟩;rw[eO,ae5 _ _ _ _ _ _ _ _ _ _ _ _ _ _ _ _ _ _ _ rfl _ rfl _ rfl _ rfl _ rfl _ rfl _ rfl _ rfl _ rfl _ rfl _ rfl _ rfl _ rfl _ rfl _ rfl _ rfl _ rfl];have Ae:len (setAt Y (Int.toNat a8) true)<=1000:=by simp only[len,tB];omega
 have Ad:len (setAt aa (Int.toNat a8) true)<=1000:=by simp only[len,tB];omega
 have Dp:Int.toNat a8<len Y:=by simp only[len];omega
 have Dn:Int.toNat a8<len aa:=by simp only[len];omega
 have N6:0<=a8/\a8<((len Y:Nat):Int):=⟨iL,gh⟩
 have N5:0<=a8/\a8<((len aa:Nat):Int):=⟨iL,by simp only[len];omega⟩
 refine⟨⟨ix,jb,by omega,by omega⟩,fw,?_⟩;unfold iu at D;obtain⟨s,av⟩:∃s,bL ⟨ws,fu⟩=s:=⟨_,rfl⟩
 simp only[av]at D |-;have rI:(s.dv=true\/s.dv=false):=by cases s.dv<;>simp
 have zB:(s.abort=true\/s.abort=false):=by cases s.abort<;>simp
 have IB:(s.ended=true\/s.ended=false):=by cases s.ended<;>simp
 cases up
 ·rw[if_neg (by simp)]at D;refine cn (fun _=>?_) (fun _=>?_)<;>rcases rI with az|az<;>rcases zB with bh|bh<;>simp only[az,bh,J,Bool.not_false]<;>exact D
 rw[if_pos rfl]at D;obtain⟨g,bs⟩:∃g:tY,(⟨⟨ws,fu⟩,true,⟨⟨ak,ah,aj⟩,ai⟩,Y,aa⟩:tY)=g:=⟨_,rfl⟩
 have m3:gZ g s ⟨mk,a8,ba,bD,cg,bT,cy⟩=(g,[])->K (.an [.agg [af ws,A fu,ay true,A ak,af ah,A aj,A ai,bj Y,bj aa],.one (bB [])]) []:=fun e=>by rw[bs,e,<- bs]at D;exact D
 have rG:gZ g s ⟨mk,a8,ba,bD,cg,bT,cy⟩=(g,[qv s a8 ba])->K (.an [.agg [af ws,A fu,ay true,A ak,af ah,A aj,A ai,bj Y,bj aa],.one (bB [⟨nd s ba,a8,ba,0,0,[],false⟩])]) []:=fun e=>by rw[bs,e,<- bs]at D;exact D
 have Ip:gZ g s ⟨mk,a8,ba,bD,cg,bT,cy⟩=(o8 g a8,[])->K (.an [.agg [af ws,A fu,ay true,A ak,af ah,A aj,A ai,bj (setAt Y (Int.toNat a8) true),bj aa],.one (bB [])]) []:=fun e=>by rw[bs,e,<- bs]at D;exact D
 have Ir:gZ g s ⟨mk,a8,ba,bD,cg,bT,cy⟩=(ox g a8,[])->K (.an [.agg [af ws,A fu,ay true,A ak,af ah,A aj,A ai,bj Y,bj (setAt aa (Int.toNat a8) true)],.one (bB [])]) []:=fun e=>by rw[bs,e,<- bs]at D;exact D
 obtain⟨y,ct⟩:∃y,(dJ ⟨⟨ws,fu⟩,true,⟨⟨ak,ah,aj⟩,ai⟩,setAt Y (Int.toNat a8) true,aa⟩ [2,s.n]).1=y:=⟨_,rfl⟩
 obtain⟨bg,dR⟩:∃bg,(dJ ⟨⟨ws,fu⟩,true,⟨⟨ak,ah,aj⟩,ai⟩,Y,setAt aa (Int.toNat a8) true⟩ [4,s.n]).1=bg:=⟨_,rfl⟩
 have Iq:gZ g s ⟨mk,a8,ba,bD,cg,bT,cy⟩=(y,[])->K (.an [.agg (jB y),.one (bB [])]) []:=fun e=>by rw[bs,e]at D;exact D
 have Is:gZ g s ⟨mk,a8,ba,bD,cg,bT,cy⟩=(bg,[])->K (.an [.agg (jB bg),.one (bB [])]) []:=fun e=>by rw[bs,e]at D;exact D
 clear D;have CC:(o8 g a8).cF=setAt Y (Int.toNat a8) true:=by rw[<- bs];rfl
 have Cw:(ox g a8).did=setAt aa (Int.toNat a8) true:=by rw[<- bs];rfl
 have ab1:(dJ (o8 g a8) [2,s.n]).1=y:=by rw[<- bs,<- ct];rfl
 have z2:(dJ (ox g a8) [4,s.n]).1=bg:=by rw[<- bs,<- dR];rfl
 simp only[ct,dR];have ax:∀a b:Int,List.length [a,b]<=140737488355328:=fun a b=>by simp
 have ab:mk=3->gZ g s ⟨mk,a8,ba,bD,cg,bT,cy⟩=if s.n≠ba\/s.ended=true\/s.dv=true\/s.abort=true\/cy=false then(g,[])else(sj g s a8,[]):=fun e=>by unfold gZ;rw[if_pos (by exact e)]
 have bV:mk=6->gZ g s ⟨mk,a8,ba,bD,cg,bT,cy⟩=if s.n≠ba\/s.ended=true\/(s.dv=false/\s.abort=false)then(g,[])else(rv g s a8,[]):=fun e=>by unfold gZ;rw[if_neg (by simp only;omega),if_pos (by exact e)]
 have dm:mk=7->gZ g s ⟨mk,a8,ba,bD,cg,bT,cy⟩=if s.n≠ba\/s.ended=true\/s.dv=true\/s.abort=true then(g,[qv s a8 ba])else(g,[]):=fun e=>by unfold gZ;rw[if_neg (by simp only;omega),if_neg (by simp only;omega),if_pos (by exact e)]
 have a6:mk≠3->mk≠6->mk≠7->gZ g s ⟨mk,a8,ba,bD,cg,bT,cy⟩=(g,[]):=fun a b c=>by unfold gZ;rw[if_neg (by exact a),if_neg (by exact b),if_neg (by exact c)]
 have d4:nd s ba=if s.dv=true/\s.n=ba then 4 else 5:=rfl
 have cY:au mk 3=true->mk=3:=kA.1;have zi:au mk 6=true->mk=6:=kA.1;have sC:au mk 7=true->mk=7:=kA.1;have abU:sj g s a8=if hasB false (setAt Y (Int.toNat a8) true)=true then o8 g a8 else y:=by unfold sj;rw[CC,ab1]
 have QE:rv g s a8=if hasB false (setAt aa (Int.toNat a8) true)=true then ox g a8 else bg:=by unfold rv;rw[Cw,z2]
 rw[abU]at ab;rw[QE]at bV;generalize hasB false (setAt Y (Int.toNat a8) true)=ug at ab |-;generalize hasB false (setAt aa (Int.toNat a8) true)=ud at bV |-;refine cz (fun aq=>?_) (fun aq=>?_)<;>rcases rI with az|az<;>rcases zB with bh|bh<;>rcases IB with bp|bp<;>simp only[aq,az,bh,bp,ne_eq,not_true_eq_false,Bool.true_eq_false,Bool.false_eq_true,true_or,or_true,false_or,or_false,and_false,false_and,and_true,true_and,and_self,if_true,if_false,Bool.not_eq_false,not_false_eq_true,J,Bool.not_true,Bool.not_false]at ab bV dm d4 rG |-<;>rw[d4]at rG
 all_goals
  refine cz (fun k=>?_) (fun dh=>cz (fun k=>?_) (fun jr=>cz (fun k=>?_) (fun lv=>m3 (a6 dh jr lv))))
  all_goals subst k
  all_goals try simp only[show au 3 6=false from rfl,show au 3 7=false from rfl,show au 6 7=false from rfl,show au ba ba=true from kA.2 rfl,true_implies,J]at ab bV dm rG |-
  all_goals try rw[oy.2 aq]
  all_goals first
   |exact m3 ab
   |exact m3 bV
   |exact m3 dm
   |exact rG dm
   |(rw[d4]at rG;exact rG dm)
   |skip
  all_goals cases cy<;>cases ug<;>cases ud
  all_goals try simp only[Bool.true_eq_false,Bool.false_eq_true,if_true,if_false,Bool.not_true,Bool.not_false]at ab bV |-
  all_goals first
   |exact m3 ab
   |exact⟨N6,Dp,Ae,Ip ab⟩
   |exact⟨N6,Dp,Ae,⟨fw,ax _ _,Ae,by omega⟩,Iq ab⟩
   |exact⟨N5,Dn,Ad,Ir bV⟩
   |exact⟨N5,Dn,Ad,⟨fw,ax _ _,by omega,Ad⟩,Is bV⟩
theorem ahJ:bw 42 Gi:=hN adr Tryz.func42 (by kernel_rfl) (by
 intro vs ar p v dB h ag;unfold Gi at h;split at h
 ·cases h;exact⟨by kernel_rfl,rfl,.inl (agd _ _ _ _ _ _ _ _ _ _ _ _ _ _ _ _ ag.1 _ ⟨rfl,rfl⟩)⟩
 ·cases h)

def OM:bd
 |[.one (.E .int k),.one (.E .bool y),.one (.ptr 0 0),.one (.ptr 1 0)],[.box [.ptr 2 0],.box [.E .int mk,.E .int a8,.E .int ba,.E .int bD,.E .int cg,.E (.list .int) bT,.E .bool cy],.box [.E (.list .int) ws,.E .int fu,.E .bool up,.E .int bu,.E .int bx,.E .bool av]]=>some (none,.an [.agg [af ws,A fu,ay up,A bu,A bx],.one (bB (ot av a8 ba k y))],[.box [.ptr 2 0],.box [A mk,A a8,A ba,A bD,A cg,af bT,ay cy],.box [af ws,A fu,ay up,A bu,A bx,ay av]])
 |_,_=>none

theorem ahA:bw 93 OM:=b2 3 bv Tryz.func93 (by kernel_rfl) fun vs ar=>by
 unfold OM;split;rotate_left;trivial;rename_i k y mk a8 ba bD cg bT cy ws fu up bu bx av;refine⟨by kernel_rfl,fun K D=>?_⟩;refine⟨1,?_⟩;refine ck (fun rec=>(by kernel_rfl:_=(
  J av
  (K (.an [.agg [af ws,A fu,ay up,A bu,A bx],.one (bB [])]) [.box [.ptr 2 0],.box [A mk,A a8,A ba,A bD,A cg,af bT,ay cy],.box [af ws,A fu,ay up,A bu,A bx,ay av]])
  (K (.an [.agg [af ws,A fu,ay up,A bu,A bx],.one (bB ((⟨k,a8,ba,0,0,[],y⟩:fC)::[]))]) [.box [.ptr 2 0],.box [A mk,A a8,A ba,A bD,A cg,af bT,ay cy],.box [af ws,A fu,ay up,A bu,A bx,ay av]])))) ?_
 cases av
 ·exact D
 ·exact D

def OK:bd
 |[.one (.ptr 0 0),.agg [.E (.list .int) gs,.E .int lV],.one (.E .int e)],[.box [.E (.list .int) ws,.E .int fu,.E .bool up,.E .int bu,.E .int bx,.E .bool av]]=>some (none,.an [],[.box [af (e2 ⟨⟨ws,fu⟩,up,bu,bx⟩ ⟨gs,lV⟩ e).1.f.words,A (e2 ⟨⟨ws,fu⟩,up,bu,bx⟩ ⟨gs,lV⟩ e).1.f.fuel,ay (e2 ⟨⟨ws,fu⟩,up,bu,bx⟩ ⟨gs,lV⟩ e).1.up,A (e2 ⟨⟨ws,fu⟩,up,bu,bx⟩ ⟨gs,lV⟩ e).1.n,A (e2 ⟨⟨ws,fu⟩,up,bu,bx⟩ ⟨gs,lV⟩ e).1.eE,ay (ic av e)]])
 |_,_=>none

theorem Wr:bw 94 OK:=b2 1 bv Tryz.func94 (by kernel_rfl) fun vs ar=>by
 unfold OK;split;rotate_left;trivial;rename_i gs lV e ws fu up bu bx av;refine⟨by kernel_rfl,fun K D=>?_⟩;refine⟨1,?_⟩;obtain⟨v0,b0⟩:∃v0,v0=J (au e 7)
  (J av
  (K (.an []) [.box [af gs,A lV,ay false,A (0:Int),A (0:Int),ay true]])
  (K (.an []) [.box [af gs,A lV,ay false,A (0:Int),A (0:Int),ay (!(au e 0))]]))
  (J av
  (K (.an []) [.box [af gs,A lV,ay up,A bu,A bx,ay true]])
  (K (.an []) [.box [af gs,A lV,ay up,A bu,A bx,ay (!(au e 0))]])):=⟨_,rfl⟩
 refine ck (fun rec=>(by subst b0;kernel_rfl:_=(
  J (au e 0)
  v0
  (J (au e 7)
  v0
  (J (au e 7)
  (J av
  (K (.an []) [.box [af ws,A fu,ay false,A (0:Int),A (0:Int),ay true]])
  (K (.an []) [.box [af ws,A fu,ay false,A (0:Int),A (0:Int),ay (!(au e 0))]]))
  (J av
  (K (.an []) [.box [af ws,A fu,ay up,A bu,A bx,ay true]])
  (K (.an []) [.box [af ws,A fu,ay up,A bu,A bx,ay (!(au e 0))]]))))))) ?_
 subst b0;unfold e2 ic at D
 by_cases h:e=0
 ·subst h;cases av
  ·exact D
  ·exact D
 ·have a6:au e 0=false:=oy.2 h;rw[if_neg h]at D
  by_cases dm:e=7
  ·subst dm;cases av
   ·exact D
   ·exact D
  ·have I:au e 7=false:=oy.2 dm;rw[if_neg dm]at D;rw[a6,I];rw[a6]at D;cases av
   ·exact D
   ·exact D

def O9:bd
 |[.agg [.E (.list .int) ws,.E .int fu],.one (.E .int slot)],[]=>some (some (eY ⟨ws,fu⟩ slot=0),.an [.agg [af (hh ⟨ws,fu⟩ slot).1.words,A (hh ⟨ws,fu⟩ slot).1.fuel],.one (A (hh ⟨ws,fu⟩ slot).2)],[])
 |_,_=>none

theorem aiy:bw 95 O9:=b2 0 ((bv.f Mh).f WH) Tryz.func95 (by kernel_rfl) fun vs ar=>by
 unfold O9;split;rotate_left;trivial;rename_i ws fu slot;refine⟨by kernel_rfl,fun ag K D=>?_⟩;refine⟨1,?_⟩;obtain⟨v0,b0⟩:∃v0,v0=eH (W ((2:Int)+W ((2:Int)*slot))):=⟨_,rfl⟩
 obtain⟨v1,cd⟩:∃v1,v1=eH (W ((3:Int)+W ((2:Int)*slot))):=⟨_,rfl⟩
 obtain⟨v3,ef⟩:∃v3,v3=b9 (⟨ws,fu⟩:cm) (cat v0 v1):=⟨_,rfl⟩
 refine ck (fun rec=>(by subst ef cd b0;kernel_rfl:_=(
  ((0:Int)<=W ((2:Int)+W ((2:Int)*slot))/\W ((2:Int)+W ((2:Int)*slot))<=10) /\
  ((0:Int)<=W ((3:Int)+W ((2:Int)*slot))/\W ((3:Int)+W ((2:Int)*slot))<=10) /\
  (len v0+len v1)*16<=140737488355328 /\
  (len ws<=192/\(-1)<=fu/\fu<=100000/\len (cat v0 v1)<=1000/\k5 (List.length ws) (cat v0 v1)=true) /\
  K (.an [.agg [af v3.fst.words,A v3.fst.fuel],.one (A (j7 v3.snd))]) []))) ?_
 subst ef cd b0;unfold hh at D;rw[if_pos ag]at D;obtain⟨I,G,ab⟩:=rq ag;obtain⟨bA,bb,cr,du⟩:=jh I;simp only at bb cr G;rw[cc (n:=2*slot) (by omega) (by omega),cc (n:=2+2*slot) (by omega) (by omega),cc (n:=3+2*slot) (by omega) (by omega)];have ax:∀s:Int,(eH s).length=32:=fun s=>A9 _ _
 refine⟨by omega,by omega,by simp only[len,ax];omega,⟨by simp only[len];omega,bb,cr,?_,?_⟩,D⟩
 ·simp only[len,cat,List.length_append,ax];omega
 ·simp only[cat,k5,List.all_append,Bool.and_eq_true];exact⟨EG _ _ _ (by omega) (by omega),EG _ _ _ (by omega) (by omega)⟩

def O6:bd
 |[.agg [.E (.list .int) ws,.E .int fu],.one (.E .int at_),.one (.E (.list .int) l)],[]=>some (some (e3 ⟨ws,fu⟩=0/\eQ l),.an [.agg [af (ja ⟨ws,fu⟩ at_ l).1.words,A (ja ⟨ws,fu⟩ at_ l).1.fuel],.one (A (ja ⟨ws,fu⟩ at_ l).2)],[])
 |_,_=>none

theorem WJ:bw 147 O6:=b2 0 (((bv.f WI).f Mh).f AW) Tryz.func147 (by kernel_rfl) fun vs ar=>by
 unfold O6;split;rotate_left;trivial;rename_i ws fu at_ l;dsimp only[z.den]at ws fu at_ l;refine⟨by kernel_rfl,fun ag K D=>?_⟩;obtain⟨az,av⟩:=ag;obtain⟨bA,bb,cr,du⟩:=jh az;obtain⟨hs,gu⟩:=q1 bA;simp only at bb cr hs gu;refine⟨1,?_⟩;obtain⟨cf,g5⟩:∃cf,cf=K (.an [.agg [af [],A (0:Int)],.one (A 5)]) []:=⟨_,rfl⟩
 refine ck (fun rec=>(by subst g5;kernel_rfl:_=(
  J (aN at_ 0)
  cf
  (J (aN (len ws:Int) at_)
  cf
  (J (aN (W ((len ws:Int)-at_)) (len l:Int))
  cf
  (List.length l<=140737488355328 /\
  J (!(cK l))
  (K (.an [.agg [af [],A (0:Int)],.one (A 3)]) [])
  (((0:Int)<=at_/\at_<=1000/\len l<=1000) /\
  (len ws<=192/\(-1)<=fu/\fu<=100000/\len (cX at_ l)<=1000/\k5 (List.length ws) (cX at_ l)=true) /\
  K (.an [.agg [af (b9 ⟨ws,fu⟩ (cX at_ l)).fst.words,A (b9 ⟨ws,fu⟩ (cX at_ l)).fst.fuel],.one (A (j7 (b9 ⟨ws,fu⟩ (cX at_ l)).snd))]) []))))))) ?_
 subst g5;unfold ja at D;rw[if_pos az]at D;have kf:¬(0<=at_/\at_<=(ws.length:Int)/\(l.length:Int)<=ws.length-at_)->K (.an [.agg [af [],A 0],.one (A 5)]) []:=fun aq=>by
  rw[if_neg aq]at D;exact D
 simp only[len];refine bq (fun I=>kf (by omega)) (fun I=>bq (fun G=>kf (by omega)) (fun G=>?_));rw[cc (by omega) (by omega)];refine bq (fun ab=>kf (by omega)) (fun ab=>⟨av,eF (fun aV=>?_) (fun aV=>?_)⟩)
 ·rw[if_pos ⟨I,G,ab⟩,if_neg (by rw[aV];simp)]at D;exact D
 ·rw[if_pos ⟨I,G,ab⟩,if_pos aV]at D;exact⟨⟨I,by omega,by first|omega|(simp only[len];omega)⟩,⟨gu,bb,cr,by rw[lP];omega,wb _ _ _ I (by omega)⟩,D⟩

def Pa:bd
 |[.agg [.E (.list .int) ws,.E .int fu],.one (.E .int slot),.one (.E .int at_),.one (.E (.list .int) l)],[]=>some (some (eY ⟨ws,fu⟩ slot=0/\eQ l),.an [.agg [af (fb ⟨ws,fu⟩ slot at_ l).1.words,A (fb ⟨ws,fu⟩ slot at_ l).1.fuel],.one (A (fb ⟨ws,fu⟩ slot at_ l).2)],[])
 |_,_=>none

theorem aiz:bw 96 Pa:=b2 0 (bv.f WJ) Tryz.func96 (by kernel_rfl) fun vs ar=>by
 unfold Pa;split;rotate_left;trivial;rename_i ws fu slot at_ l;dsimp only[z.den]at ws fu slot at_ l;refine⟨by kernel_rfl,fun ag K D=>?_⟩;obtain⟨h,ax⟩:=ag;refine⟨1,?_⟩;obtain⟨v1,cd⟩:∃v1,v1=ja (⟨ws,fu⟩:cm) (W (W (W ((64:Int)+W ((64:Int)*slot))+4)+at_)) l:=⟨_,rfl⟩
 obtain⟨aC,cR⟩:∃aC,aC=K (.an [.agg [af [],A (0:Int)],.one (A 2)]) []:=⟨_,rfl⟩
 refine ck (fun rec=>(by subst cR cd;kernel_rfl:_=(
  J (aN at_ 0)
  aC
  (J (aN 40 at_)
  aC
  (J (aN (W ((40:Int)-at_)) (len l:Int))
  aC
  ((e3 (⟨ws,fu⟩:cm)=(0:Int)/\List.length l<=140737488355328) /\
  K (.an [.agg [af v1.fst.words,A v1.fst.fuel],.one (A v1.snd)]) [])))))) ?_
 subst cR cd;unfold fb at D;rw[if_pos h]at D;obtain⟨I,G,ab⟩:=rq h;simp only[len];refine bq (fun aV=>?_) (fun aV=>bq (fun br=>?_) (fun br=>?_))
 ·rw[if_neg (by omega)]at D;exact D
 ·rw[if_neg (by omega)]at D;exact D
 rw[cc (n:=40-at_) (by omega) (by omega)];refine bq (fun bV=>?_) (fun bV=>?_)
 ·rw[if_neg (by omega)]at D;exact D
 rw[cc (n:=64*slot) (by omega) (by omega),cc (n:=64+64*slot) (by omega) (by omega),cc (n:=64+64*slot+4) (by omega) (by omega),cc (by omega) (by omega),show 64+64*slot+4+at_=68+64*slot+at_ by omega];rw[if_pos (by omega)]at D;exact⟨⟨I,ax⟩,D⟩

def Pb:bd
 |[.agg [.E (.list .int) ws,.E .int fu],.one (.E .int slot),.one (.E .int dp),.one (.E .int name)],[]=>some (some (eY ⟨ws,fu⟩ slot=0),.an [.agg [af (gB ⟨ws,fu⟩ slot dp name).1.words,A (gB ⟨ws,fu⟩ slot dp name).1.fuel],.one (A (gB ⟨ws,fu⟩ slot dp name).2)],[])
 |_,_=>none

theorem aiA:bw 99 Pb:=b2 0 (bv.f WJ) Tryz.func99 (by kernel_rfl) fun vs ar=>by
 unfold Pb;split;rotate_left;trivial;rename_i ws fu slot dp name;dsimp only[z.den]at ws fu slot dp name;refine⟨by kernel_rfl,fun ag K D=>?_⟩;refine⟨1,?_⟩;obtain⟨v1,cd⟩:∃v1,v1=ja (⟨ws,fu⟩:cm) (W ((64:Int)+W ((64:Int)*slot))) (dp::name::W ((65535:Int)-dp)::W ((65535:Int)-name)::[]):=⟨_,rfl⟩
 obtain⟨aC,cR⟩:∃aC,aC=K (.an [.agg [af [],A (0:Int)],.one (A 3)]) []:=⟨_,rfl⟩
 refine ck (fun rec=>(by subst cR cd;kernel_rfl:_=(
  J (aN dp 1)
  aC
  (J (aN 40 dp)
  aC
  (J (aN name 1)
  aC
  (J (aN 60 name)
  aC
  ((e3 (⟨ws,fu⟩:cm)=(0:Int)/\List.length (dp::name::W ((65535:Int)-dp)::W ((65535:Int)-name)::[])<=140737488355328) /\
  K (.an [.agg [af v1.fst.words,A v1.fst.fuel],.one (A v1.snd)]) []))))))) ?_
 subst cR cd;unfold gB at D;rw[if_pos ag]at D;obtain⟨I,G,ab⟩:=rq ag;have three:¬(1<=dp/\dp<=40/\1<=name/\name<=60)->K (.an [.agg [af [],A 0],.one (A 3)]) []:=fun aq=>by
  rw[if_neg (by simp only[l9,Bool.and_eq_true,decide_eq_true_eq];omega)]at D;exact D
 refine bq (fun aV=>three (by omega)) (fun aV=>bq (fun br=>three (by omega)) (fun br=>bq (fun bV=>three (by omega)) (fun bV=>bq (fun dm=>three (by omega)) (fun dm=>?_))));rw[if_pos (by simp only[l9,Bool.and_eq_true,decide_eq_true_eq];omega)]at D;rw[cc (n:=65535-dp) (by omega) (by omega),cc (n:=65535-name) (by omega) (by omega),cc (n:=64*slot) (by omega) (by omega),cc (n:=64+64*slot) (by omega) (by omega)];exact⟨⟨I,by simp only[List.length_cons,List.length_nil];omega⟩,D⟩

def Pc:bd
 |[.agg [.E (.list .int) ws,.E .int fu],.one (.E .int slot)],[]=>some (some (eY ⟨ws,fu⟩ slot=0),.an [.one (af (na ws slot).1),.one (A (na ws slot).2)],[])
 |_,_=>none

theorem aiB:bw 100 Pc:=b2 0 bv Tryz.func100 (by kernel_rfl) fun vs ar=>by
 unfold Pc;split;rotate_left;trivial;rename_i ws fu slot;dsimp only[z.den]at ws fu slot;refine⟨by kernel_rfl,fun ag K D=>?_⟩;refine⟨1,?_⟩;refine ck (fun rec=>(by kernel_rfl:_=(
  ((0:Int)<=W ((64:Int)+W ((64:Int)*slot))/\W ((64:Int)+W ((64:Int)*slot))<=(len ws:Int)/\(len ws:Int)<=(len ws:Int)) /\
  ((0:Int)<=(0:Int)/\(0:Int)<(((len (a2 ws (Int.toNat (W ((64:Int)+W ((64:Int)*slot)))) (Int.toNat (len ws:Int)))):Nat):Int)) /\
  ((0:Int)<=(1:Int)/\(1:Int)<(((len (a2 ws (Int.toNat (W ((64:Int)+W ((64:Int)*slot)))) (Int.toNat (len ws:Int)))):Nat):Int)) /\
  J (aN (nth (a2 ws (Int.toNat (W ((64:Int)+W ((64:Int)*slot)))) (Int.toNat (len ws:Int))) (Int.toNat 0) (z.H z.int)) 1)
  (K (.an [.one (af []),.one (A 0)]) [])
  (J (aN 40 (nth (a2 ws (Int.toNat (W ((64:Int)+W ((64:Int)*slot)))) (Int.toNat (len ws:Int))) (Int.toNat 0) (z.H z.int)))
  (K (.an [.one (af []),.one (A 0)]) [])
  (J (aN (nth (a2 ws (Int.toNat (W ((64:Int)+W ((64:Int)*slot)))) (Int.toNat (len ws:Int))) (Int.toNat 1) (z.H z.int)) 1)
  (K (.an [.one (af []),.one (A 0)]) [])
  (J (aN 60 (nth (a2 ws (Int.toNat (W ((64:Int)+W ((64:Int)*slot)))) (Int.toNat (len ws:Int))) (Int.toNat 1) (z.H z.int)))
  (K (.an [.one (af []),.one (A 0)]) [])
  (((0:Int)<=(2:Int)/\(2:Int)<(((len (a2 ws (Int.toNat (W ((64:Int)+W ((64:Int)*slot)))) (Int.toNat (len ws:Int)))):Nat):Int)) /\
  J (!(au (W (nth (a2 ws (Int.toNat (W ((64:Int)+W ((64:Int)*slot)))) (Int.toNat (len ws:Int))) (Int.toNat 0) (z.H z.int)+nth (a2 ws (Int.toNat (W ((64:Int)+W ((64:Int)*slot)))) (Int.toNat (len ws:Int))) (Int.toNat 2) (z.H z.int))) 65535))
  (K (.an [.one (af []),.one (A 0)]) [])
  (((0:Int)<=(3:Int)/\(3:Int)<(((len (a2 ws (Int.toNat (W ((64:Int)+W ((64:Int)*slot)))) (Int.toNat (len ws:Int)))):Nat):Int)) /\
  J (!(au (W (nth (a2 ws (Int.toNat (W ((64:Int)+W ((64:Int)*slot)))) (Int.toNat (len ws:Int))) (Int.toNat 1) (z.H z.int)+nth (a2 ws (Int.toNat (W ((64:Int)+W ((64:Int)*slot)))) (Int.toNat (len ws:Int))) (Int.toNat 3) (z.H z.int))) 65535))
  (K (.an [.one (af []),.one (A 0)]) [])
  (((0:Int)<=(4:Int)/\(4:Int)<=W ((4:Int)+nth (a2 ws (Int.toNat (W ((64:Int)+W ((64:Int)*slot)))) (Int.toNat (len ws:Int))) (Int.toNat 0) (z.H z.int))/\W ((4:Int)+nth (a2 ws (Int.toNat (W ((64:Int)+W ((64:Int)*slot)))) (Int.toNat (len ws:Int))) (Int.toNat 0) (z.H z.int))<=(((len (a2 ws (Int.toNat (W ((64:Int)+W ((64:Int)*slot)))) (Int.toNat (len ws:Int)))):Nat):Int)) /\
  K (.an [.one (af (a2 (a2 ws (Int.toNat (W ((64:Int)+W ((64:Int)*slot)))) (Int.toNat (len ws:Int))) (Int.toNat 4) (Int.toNat (W ((4:Int)+nth (a2 ws (Int.toNat (W ((64:Int)+W ((64:Int)*slot)))) (Int.toNat (len ws:Int))) (Int.toNat 0) (z.H z.int)))))),.one (A (nth (a2 ws (Int.toNat (W ((64:Int)+W ((64:Int)*slot)))) (Int.toNat (len ws:Int))) (Int.toNat 1) (z.H z.int)))]) []))))))))) ?_
 obtain⟨I,G,ab⟩:=rq ag;obtain⟨_,_,_,du⟩:=jh I;simp only at G du;obtain⟨b,aA⟩:∃b,lO slot=b:=⟨_,rfl⟩
 have gA:(64+64*slot)=(b:Int):=by unfold lO at aA;omega
 rw[cc (n:=64*slot) (by omega) (by omega),cc (n:=64+64*slot) (by omega) (by omega),gA,show Int.toNat (((len ws):Nat):Int)=ws.length from rfl,cM];have hlen:(a2 ws b ws.length).length=192-b:=by simp[a2];omega
 have e7:nth (a2 ws b ws.length) (Int.toNat (0:Int)) (z.H z.int)=ws.getD b 0:=o4 ws b ws.length 0 (by omega);have a1:nth (a2 ws b ws.length) (Int.toNat (1:Int)) (z.H z.int)=ws.getD (b+1) 0:=o4 ws b ws.length 1 (by omega);have bf:nth (a2 ws b ws.length) (Int.toNat (2:Int)) (z.H z.int)=ws.getD (b+2) 0:=o4 ws b ws.length 2 (by omega);have cj:nth (a2 ws b ws.length) (Int.toNat (3:Int)) (z.H z.int)=ws.getD (b+3) 0:=o4 ws b ws.length 3 (by omega);rw[e7,a1,bf,cj];simp only[len,hlen];unfold na at D;simp only[aA]at D;have ac2:=va (r3 du b (by omega));have Ar:=va (r3 du (b+1) (by omega));have Dw:=va (r3 du (b+2) (by omega));have Tp:=va (r3 du (b+3) (by omega));have four:¬(l9 (ws.getD b 0) (ws.getD (b+1) 0)=true/\ws.getD (b+2) 0=65535-ws.getD b 0/\ws.getD (b+3) 0=65535-ws.getD (b+1) 0)->K (.an [.one (af []),.one (A 0)]) []:=fun aq=>by
  have:ob ws b=false:=by
   unfold ob;cases dn:l9 (ws.getD b 0) (ws.getD (b+1) 0)
   ·rfl
   ·simp only[Bool.true_and,Bool.and_eq_false_iff,decide_eq_false_iff_not]
    by_cases c:ws.getD (b+2) 0=65535-ws.getD b 0
    ·exact .inr fun bb=>aq ⟨dn,c,bb⟩
    ·exact .inl c
  rw[this]at D;exact D
 have bO:l9 (ws.getD b 0) (ws.getD (b+1) 0)=true↔(1<=ws.getD b 0/\ws.getD b 0<=40/\1<=ws.getD (b+1) 0/\ws.getD (b+1) 0<=60):=by
  simp only[l9,Bool.and_eq_true,decide_eq_true_eq];omega
 rw[bO]at four;refine⟨by omega,by omega,by omega,bq (fun aV=>four (by omega)) (fun aV=>bq (fun br=>four (by omega)) (fun br=>bq (fun bV=>four (by omega)) (fun bV=>bq (fun dm=>four (by omega)) (fun dm=>⟨by omega,?_⟩))))⟩;rw[cc (n:=ws.getD b 0+ws.getD (b+2) 0) (by omega) (by omega),cc (n:=ws.getD (b+1) 0+ws.getD (b+3) 0) (by omega) (by omega)];refine bN (fun dZ=>four (by omega)) (fun dZ=>⟨by omega,bN (fun iE=>four (by omega)) (fun iE=>?_)⟩);rw[cc (by omega) (by omega),show Int.toNat (4+ws.getD b 0)=4+(ws.getD b 0).toNat by omega,show Int.toNat (4:Int)=4 from rfl];have av:ob ws b=true:=by
  unfold ob;rw[bO.2 (by omega)];simp only[Bool.true_and,Bool.and_eq_true,decide_eq_true_eq];exact⟨by omega,by omega⟩
 rw[av]at D;rw[agN _ _ _ _ _ (by omega),<- Nat.add_assoc];exact⟨by omega,D⟩

def OL:bd
 |[.one (.ptr 0 0),.one (.E (.list .int) r)],[.box [.E (.list .int) ws,.E .int fu,.E .bool up,.E .int bu,.E .int bx,.E .bool av]]=>some (some (dE ⟨ws,fu⟩=0/\eQ r),.an [],[.box [af (e9 ⟨⟨ws,fu⟩,up,bu,bx⟩ r).1.f.words,A (e9 ⟨⟨ws,fu⟩,up,bu,bx⟩ r).1.f.fuel,ay (e9 ⟨⟨ws,fu⟩,up,bu,bx⟩ r).1.up,A (e9 ⟨⟨ws,fu⟩,up,bu,bx⟩ r).1.n,A (e9 ⟨⟨ws,fu⟩,up,bu,bx⟩ r).1.eE,ay (ic av (u9 ⟨⟨ws,fu⟩,up,bu,bx⟩ r))]])
 |_,_=>none

theorem ahz:bw 101 OL:=b2 1 (((bv.f Wr).f WR).f Md) Tryz.func101 (by kernel_rfl) fun vs ar=>by
 unfold OL;split;rotate_left;trivial;rename_i r ws fu up bu bx av;refine⟨by kernel_rfl,fun ag K D=>?_⟩;refine⟨1,?_⟩;obtain⟨v1,cd⟩:∃v1,v1=c2 ⟨ws,fu⟩:=⟨_,rfl⟩
 obtain⟨v3,ef⟩:∃v3,v3=fO ⟨ws,fu⟩ r (cat (((1:Int)::v1.slot::v1.eV::[])::[]) (((2:Int)::v1.ready::[])::[])):=⟨_,rfl⟩
 obtain⟨v4,e1⟩:∃v4,v4=e2 ⟨⟨ws,fu⟩,up,bu,bx⟩ v3.fst v3.snd:=⟨_,rfl⟩
 obtain⟨dF,iG⟩:∃dF,dF=fO ⟨ws,fu⟩ r (((1:Int)::v1.slot::v1.eV::[])::[]):=⟨_,rfl⟩
 obtain⟨eG,kI⟩:∃eG,eG=e2 ⟨⟨ws,fu⟩,up,bu,bx⟩ dF.fst dF.snd:=⟨_,rfl⟩
 refine ck (fun rec=>(by subst kI iG e1 ef cd;kernel_rfl:_=(
  dE ⟨ws,fu⟩=(0:Int) /\
  J (!(au v1.ready 0))
  ((len (((1:Int)::v1.slot::v1.eV::[])::[])+len (((2:Int)::v1.ready::[])::[]))*24<=140737488355328 /\
  (dE ⟨ws,fu⟩=(0:Int)/\List.length r<=140737488355328/\len (cat (((1:Int)::v1.slot::v1.eV::[])::[]) (((2:Int)::v1.ready::[])::[]))*24<=140737488351232/\iJ (cat (((1:Int)::v1.slot::v1.eV::[])::[]) (((2:Int)::v1.ready::[])::[]))=true) /\
  K (.an []) [.box [af v4.fst.f.words,A v4.fst.f.fuel,ay v4.fst.up,A v4.fst.n,A v4.fst.eE,ay (ic av v3.snd)]])
  ((dE ⟨ws,fu⟩=(0:Int)/\List.length r<=140737488355328/\len (((1:Int)::v1.slot::v1.eV::[])::[])*24<=140737488351232/\iJ (((1:Int)::v1.slot::v1.eV::[])::[])=true) /\
  K (.an []) [.box [af eG.fst.f.words,A eG.fst.f.fuel,ay eG.fst.up,A eG.fst.n,A eG.fst.eE,ay (ic av dF.snd)]])))) ?_
 subst kI iG e1 ef cd;obtain⟨fg,ft⟩:=ag;obtain⟨⟨ix,jb⟩,⟨iQ,jY⟩,gm,hy⟩:=w4 ⟨ws,fu⟩;unfold e9 u9 nY at D;simp only at D;refine⟨fg,bN (fun h=>⟨by simp[len],⟨fg,ft,by simp[len,cat],rfl⟩,?_⟩) (fun h=>⟨⟨fg,ft,by simp[len],rfl⟩,?_⟩)⟩
 ·rw[if_pos (by omega)]at D;exact D
 ·rw[if_neg (by omega)]at D;exact D

def F9:bd
 |[.agg [.E (.list .str) b],.agg [.E (.list .int) ws,.E .int fu,.E .bool up,.E .int bu,.E .int bx],.agg [.E .int mk,.E .int a8,.E .int ba,.E .int bD,.E .int cg,.E (.list .int) bT,.E .bool cy]],[]=>some (some (fH b=0/\eZ ⟨⟨ws,fu⟩,up,bu,bx⟩=0/\gd ⟨mk,a8,ba,bD,cg,bT,cy⟩=0),.an [.agg (fP (g3 b ⟨⟨ws,fu⟩,up,bu,bx⟩ ⟨mk,a8,ba,bD,cg,bT,cy⟩).1),.one (bB (g3 b ⟨⟨ws,fu⟩,up,bu,bx⟩ ⟨mk,a8,ba,bD,cg,bT,cy⟩).2)],[])
 |_,_=>none

theorem ahB:bw 43 F9:=b2 0 ((((((((((((bv.f ahz).f vt).f aiB).f LZ).f Wc).f aiA).f aiz).f aiy).f Wr).f ahA).f Md).f Ek) Tryz.func43 (by kernel_rfl) fun vs ar=>by
 unfold F9;split;rotate_left;trivial;rename_i b ws fu up bu bx mk a8 ba bD cg bT cy;refine⟨by kernel_rfl,fun ag K D=>?_⟩;refine⟨1,?_⟩;obtain⟨v1,cd⟩:∃v1,v1=c2 ⟨ws,fu⟩:=⟨_,rfl⟩
 obtain⟨aC,cR⟩:∃aC,aC=eY ⟨ws,fu⟩ (W ((1:Int)-v1.slot)):=⟨_,rfl⟩
 obtain⟨v3,ef⟩:∃v3,v3=hh ⟨ws,fu⟩ (W ((1:Int)-v1.slot)):=⟨_,rfl⟩
 obtain⟨cf,g5⟩:∃cf,cf=e2 ⟨⟨ws,fu⟩,up,bu,bx⟩ v3.fst v3.snd:=⟨_,rfl⟩
 obtain⟨dF,iG⟩:∃dF,dF=fb cf.fst.f (W ((1:Int)-v1.slot)) bD bT:=⟨_,rfl⟩
 obtain⟨v9,j3⟩:∃v9,v9=e2 ⟨cf.fst.f,cf.fst.up,ba,0⟩ dF.fst dF.snd:=⟨_,rfl⟩
 obtain⟨v10,m9⟩:∃v10,v10=e2 cf.fst dF.fst dF.snd:=⟨_,rfl⟩
 obtain⟨v11,oR⟩:∃v11,v11=fb ⟨ws,fu⟩ (W ((1:Int)-v1.slot)) bD bT:=⟨_,rfl⟩
 obtain⟨hB,s7⟩:∃hB,hB=e2 ⟨⟨ws,fu⟩,up,bu,bx⟩ v11.fst v11.snd:=⟨_,rfl⟩
 obtain⟨v20,Df⟩:∃v20,v20=gB ⟨ws,fu⟩ (W ((1:Int)-v1.slot)) bD cg:=⟨_,rfl⟩
 obtain⟨v22,Ra⟩:∃v22,v22=e2 ⟨⟨ws,fu⟩,up,bu,bx⟩ v20.fst v20.snd:=⟨_,rfl⟩
 obtain⟨A5,Rb⟩:∃A5,A5=na v22.fst.f.words (W ((1:Int)-v1.slot)):=⟨_,rfl⟩
 obtain⟨EA,Rc⟩:∃EA,EA=ic false (u9 ⟨⟨ws,fu⟩,up,bu,bx⟩ ((3:Int)::ba::[])):=⟨_,rfl⟩
 obtain⟨tK,Rd⟩:∃tK,tK=e9 ⟨⟨ws,fu⟩,up,bu,bx⟩ ((3:Int)::ba::[]):=⟨_,rfl⟩
 obtain⟨A6,Re⟩:∃A6,A6=ot EA a8 ba 6 false:=⟨_,rfl⟩
 obtain⟨EC,Rg⟩:∃EC,EC=J (au bu ba)
  (J (au bx bD)
  (J (dc (W (bD+(len bT:Int))) 40)
  ((aC=(0:Int)/\List.length bT<=140737488355328) /\
  J (!(ic false v11.snd))
  (K (.an [.agg [af hB.fst.f.words,A hB.fst.f.fuel,ay hB.fst.up,A hB.fst.n,A (W (bD+(len bT:Int)))],.one (bB [])]) [])
  (K (.an [.agg (fP hB.fst),.one (bB [])]) []))
  (K (.an [.agg [af ws,A fu,ay up,A bu,A bx],.one (bB [])]) []))
  (K (.an [.agg [af ws,A fu,ay up,A bu,A bx],.one (bB [])]) []))
  (K (.an [.agg [af ws,A fu,ay up,A bu,A bx],.one (bB [])]) []):=⟨_,rfl⟩
 obtain⟨ED,Rh⟩:∃ED,ED=K (.an [.agg [af v22.fst.f.words,A v22.fst.f.fuel,ay v22.fst.up,A (0:Int),A (0:Int)],.one (bB (ot (ic false v20.snd) a8 ba 3 false))]) []:=⟨_,rfl⟩
 obtain⟨vE,Ri⟩:∃vE,vE=K (.an [.agg [af ws,A fu,ay up,A bu,A bx],.one (bB (ot false a8 ba 3 false))]) []:=⟨_,rfl⟩
 obtain⟨A7,Rj⟩:∃A7,A7=K (.an [.agg [af ws,A fu,ay up,A bu,A bx],.one (bB (ot false a8 ba 6 false))]) []:=⟨_,rfl⟩
 obtain⟨v46,Rk⟩:∃v46,v46=K (.an [.agg [af ws,A fu,ay up,A bu,A bx],.one (bB [])]) []:=⟨_,rfl⟩
 obtain⟨yA,Rl⟩:∃yA,yA=K (.an [.agg [af cf.fst.f.words,A cf.fst.f.fuel,ay cf.fst.up,A ba,A (0:Int)],.one (bB [])]) []:=⟨_,rfl⟩
 obtain⟨EB,Rf⟩:∃EB,EB=J (!(ic false v3.snd))
  (J (!(ic false v3.snd))
  (J (au ba ba)
  (J (au 0 bD)
  (J (dc (W (bD+(len bT:Int))) 40)
  ((eY cf.fst.f (W ((1:Int)-v1.slot))=(0:Int)/\List.length bT<=140737488355328) /\
  J (!(ic (ic false v3.snd) dF.snd))
  (K (.an [.agg [af v9.fst.f.words,A v9.fst.f.fuel,ay v9.fst.up,A v9.fst.n,A (W (bD+(len bT:Int)))],.one (bB [])]) [])
  (K (.an [.agg (fP v9.fst),.one (bB [])]) []))
  yA)
  yA)
  yA)
  yA)
  (J (!(ic false v3.snd))
  (J (au cf.fst.n ba)
  (J (au cf.fst.eE bD)
  (J (dc (W (bD+(len bT:Int))) 40)
  ((eY cf.fst.f (W ((1:Int)-v1.slot))=(0:Int)/\List.length bT<=140737488355328) /\
  J (!(ic (ic false v3.snd) dF.snd))
  (K (.an [.agg [af v10.fst.f.words,A v10.fst.f.fuel,ay v10.fst.up,A v10.fst.n,A (W (bD+(len bT:Int)))],.one (bB [])]) [])
  (K (.an [.agg (fP v10.fst),.one (bB [])]) []))
  (K (.an [.agg (fP cf.fst),.one (bB [])]) []))
  (K (.an [.agg (fP cf.fst),.one (bB [])]) []))
  (K (.an [.agg (fP cf.fst),.one (bB [])]) []))
  (K (.an [.agg (fP cf.fst),.one (bB [])]) [])):=⟨_,rfl⟩
 refine ck (fun rec=>(by subst Rf Rl Rk Rj Ri Rh Rg Re Rd Rc Rb Ra Df s7 oR m9 j3 iG g5 ef cR cd;kernel_rfl:_=(
  len ws*8<=140737488355328 /\
  dE ⟨ws,fu⟩=(0:Int) /\
  J (!up)
  v46
  (J (au mk 1)
  (J (!(au v1.ready 0))
  v46
  (J (dc ba v1.eV)
  v46
  (J (au bD 0)
  (J (au bu ba)
  (J (!(aN 0 bx))
  (aC=(0:Int) /\
  EB)
  EC)
  (aC=(0:Int) /\
  EB))
  EC)))
  (J (au mk 2)
  (J (dc ba v1.eV)
  A7
  (J (!(au v1.ready 0))
  (K (.an [.agg [af ws,A fu,ay up,A bu,A bx],.one (bB (ot false a8 ba 3 (au v1.ready ba)))]) [])
  (((0:Int)<=W (W ((64:Int)+W ((64:Int)*W ((1:Int)-v1.slot)))+4)/\W (W ((64:Int)+W ((64:Int)*W ((1:Int)-v1.slot)))+4)<=W (W (W ((64:Int)+W ((64:Int)*W ((1:Int)-v1.slot)))+4)+bD)/\W (W (W ((64:Int)+W ((64:Int)*W ((1:Int)-v1.slot)))+4)+bD)<=(len ws:Int)) /\
  J (!(au bu ba))
  vE
  (J (!(au bx bD))
  vE
  (J (au (((len (a2 ws (Int.toNat (W (W ((64:Int)+W ((64:Int)*W ((1:Int)-v1.slot)))+4))) (Int.toNat (W (W (W ((64:Int)+W ((64:Int)*W ((1:Int)-v1.slot)))+4)+bD))))):Nat):Int) 0)
  vE
  (J (au cg 0)
  vE
  (fY (a2 ws (Int.toNat (W (W ((64:Int)+W ((64:Int)*W ((1:Int)-v1.slot)))+4))) (Int.toNat (W (W (W ((64:Int)+W ((64:Int)*W ((1:Int)-v1.slot)))+4)+bD))))=(0:Int) /\
  List.length b<=60 /\
  J (!(au (fk (s9 (a2 ws (Int.toNat (W (W ((64:Int)+W ((64:Int)*W ((1:Int)-v1.slot)))+4))) (Int.toNat (W (W (W ((64:Int)+W ((64:Int)*W ((1:Int)-v1.slot)))+4)+bD))))) b+1) cg))
  vE
  (aC=(0:Int) /\
  J (!(ic false v20.snd))
  (eY v22.fst.f (W ((1:Int)-v1.slot))=(0:Int) /\
  J (!(au A5.snd cg))
  ED
  (List.length A5.fst<=140737488355328 /\
  J (!(gj A5.fst (a2 ws (Int.toNat (W (W ((64:Int)+W ((64:Int)*W ((1:Int)-v1.slot)))+4))) (Int.toNat (W (W (W ((64:Int)+W ((64:Int)*W ((1:Int)-v1.slot)))+4)+bD))))))
  ED
  ((dE v22.fst.f=(0:Int)/\List.length ((2:Int)::ba::[])<=140737488355328) /\
  K (.an [.agg (fP (e9 ⟨v22.fst.f,v22.fst.up,0,0⟩ ((2:Int)::ba::[])).fst),.one (bB (ot (ic (ic false v20.snd) (u9 ⟨v22.fst.f,v22.fst.up,0,0⟩ ((2:Int)::ba::[]))) a8 ba 3 true))]) [])))
  (K (.an [.agg (fP v22.fst),.one (bB (ot (ic false v20.snd) a8 ba 3 true))]) [])))))))))
  (J (au mk 4)
  (J (!(au v1.eV ba))
  (J (!(au v1.ready ba))
  v46
  ((dE ⟨ws,fu⟩=(0:Int)/\List.length ((1:Int)::W ((1:Int)-v1.slot)::ba::[])<=140737488355328) /\
  K (.an [.agg (fP (e9 ⟨⟨ws,fu⟩,up,bu,bx⟩ ((1:Int)::W ((1:Int)-v1.slot)::ba::[])).fst),.one (bB (ot (ic false (u9 ⟨⟨ws,fu⟩,up,bu,bx⟩ ((1:Int)::W ((1:Int)-v1.slot)::ba::[]))) a8 ba 6 false))]) []))
  A7)
  (J (au mk 5)
  (J (dc ba v1.eV)
  v46
  (J (au v1.ready ba)
  ((dE ⟨ws,fu⟩=(0:Int)/\List.length ((3:Int)::ba::[])<=140737488355328) /\
  J (!EA)
  (J (au tK.fst.n ba)
  (K (.an [.agg [af tK.fst.f.words,A tK.fst.f.fuel,ay tK.fst.up,A (0:Int),A (0:Int)],.one (bB A6)]) [])
  (K (.an [.agg (fP tK.fst),.one (bB A6)]) []))
  (K (.an [.agg (fP tK.fst),.one (bB A6)]) []))
  (J (au bu ba)
  (K (.an [.agg [af ws,A fu,ay up,A (0:Int),A (0:Int)],.one (bB (ot false a8 ba 6 false))]) [])
  A7)))
  v46))))))) ?_
 subst Rf Rl Rk Rj Ri Rh Rg Re Rd Rc Rb Ra Df s7 oR m9 j3 iG g5 ef cR cd;obtain⟨fg,ft,hx⟩:=ag;obtain⟨cJ,cE,ey,gw,np,r6,tx,DX,Vd,aeC,Kj,aeL⟩:=ov hx;simp only at cJ cE ey gw np r6 tx DX Vd aeC Kj aeL;obtain⟨oq,gK⟩:∃oq:po×List fC->Prop,oq=fun r=>K (.an [.agg (fP r.1),.one (bB r.2)]) []:=⟨_,rfl⟩
 have fin:∀r,g3 b ⟨⟨ws,fu⟩,up,bu,bx⟩ ⟨mk,a8,ba,bD,cg,bT,cy⟩=r->oq r:=fun r h=>by rw[gK,<- h];exact D
 clear D;have hu:hT ⟨ws,fu⟩:=Ts ft;have az:=Tr ft;have ax:ws.length=192:=hu.2;obtain⟨_,_,cb,_⟩:=DB hu;simp only at cb;have fJ:=w4 ⟨ws,fu⟩;obtain⟨o,aY,av,nU⟩:=TE fJ;obtain⟨⟨t1,t2⟩,⟨t3,t4⟩,t5,t6⟩:=fJ;obtain⟨s,uQ⟩:∃s,c2 ⟨ws,fu⟩=s:=⟨_,rfl⟩
 rw[uQ]at t1 t2 t3 t4 t5 t6 av nU |-;rw[cc (n:=1-s.slot) (by omega) (by omega)];have Cq:eY ⟨ws,fu⟩ (1-s.slot)=0:=by rw[av];exact Hv hu aY
 obtain⟨u,gS⟩:∃u:po,u=⟨⟨ws,fu⟩,up,bu,bx⟩:=⟨_,rfl⟩
 obtain⟨m,fe⟩:∃m:fC,m=⟨mk,a8,ba,bD,cg,bT,cy⟩:=⟨_,rfl⟩
 rw[<- gS,<- fe]at fin;have rV:u.f=⟨ws,fu⟩:=by rw[gS]
 refine⟨by simp only[len];omega,hu.1,eF (fun h=>?_) (fun s6=>?_)⟩
 ·have e:=fin (u,[]) (QL (by rw[gS];exact h));rw[gK,gS]at e;exact e
 have Ex:u.up=true:=by rw[gS];exact s6
 refine cz (fun bK=>?_) (fun bK=>cz (fun bX=>?_) (fun bX=>cz (fun eW=>?_) (fun eW=>cz (fun hX=>?_) (fun hX=>?_))))
 ·have jI:∀r,oZ u s m=r->oq (r,[]):=fun r h=>fin _ (by unfold g3;rw[if_pos Ex,if_pos (by rw[fe];exact bK),rV,uQ,h])
  have same:oZ u s m=u->K (.an [.agg [af ws,A fu,ay up,A bu,A bx],.one (bB [])]) []:=fun h=>by
   have e:=jI _ h;rw[gK,gS]at e;exact e
  refine bN (fun h=>same (if_pos (.inl (by omega)))) (fun h=>cn (fun G=>same (if_pos (.inr (.inl (by rw[fe];exact fV.1 G))))) (fun G=>?_));rw[eC]at G;have gO:¬(0<s.ready\/m.n<=s.eV\/8<m.n):=by rw[fe];simp only;omega
  have Zv:¬(m.at_=0/\(u.n≠m.n\/u.eE=0))->oq (oz u s m,[]):=fun h=>jI _ (by unfold oZ;rw[if_neg gO,if_neg h])
  have YP:(m.at_=0/\(u.n≠m.n\/u.eE=0))->oq ((if (h3 u s).2 then oz ⟨(h3 u s).1.f,(h3 u s).1.up,m.n,0⟩ s m else(h3 u s).1),[]):=fun h=>jI _ (by unfold oZ;rw[if_neg gO,if_pos h])
  have H0:=fun(h:¬(m.at_=0/\(u.n≠m.n\/u.eE=0)))=>P7 (u:=u) (s:=s) (m:=m) (K:=oq) (st:=ic false (fb ⟨ws,fu⟩ (1-s.slot) bD bT).2) (c:=eY ⟨ws,fu⟩ (1-s.slot)=0/\List.length bT<=140737488355328) (by rw[A0 u false (fb ⟨ws,fu⟩ (1-s.slot) bD bT).1,fe];unfold jk;rw[rV];rfl) (fun _ _=>⟨Cq,by omega⟩) (by rw[fe];exact⟨tx,DX,Kj⟩) (Zv h)
  rw[gK,gS,fe]at H0;refine cz (fun a0=>Yt (fun aI=>⟨Cq,?_⟩) (fun rT pR=>?_)) (fun a0=>?_)
  ·have j2:=YP (by
    rw[gS,fe];refine⟨a0,?_⟩;simp only
    by_cases e:bu=ba
    ·have:=aI (kA.2 e);rw[bE.not_true,wY]at this;obtain⟨_,a1,_⟩:=az;simp only at a1;exact .inr (by omega)
    ·exact .inl e)
   have es:=A0 u false (hh ⟨ws,fu⟩ (1-s.slot)).1 (hh ⟨ws,fu⟩ (1-s.slot)).2;have mx:e2 u (hh ⟨ws,fu⟩ (1-s.slot)).1 (hh ⟨ws,fu⟩ (1-s.slot)).2=h3 u s:=by unfold h3;rw[rV]
   rw[mx,Bool.false_or]at es;refine Yr (fun h=>?_) (fun h=>?_)
   ·have er:(h3 u s).2=true:=by rw[es]at h;simpa using h
    rw[if_pos er]at j2;have e1:ic false (hh ⟨ws,fu⟩ (1-s.slot)).2=false:=by simpa using h
    have aA:hT (h3 u s).1.f:=by
     obtain⟨Ho,Hp⟩:=zb (u:=u) (mx▸er);have:=(Pz (o:=o) hu aY (.inl (by rw[<- av];exact Ho))).1.1;rw[<- mx,Hp,av];exact this
    have:=P7 (u:=⟨(h3 u s).1.f,(h3 u s).1.up,m.n,0⟩) (s:=s) (m:=m) (K:=oq) (st:=ic false (fb (h3 u s).1.f (1-s.slot) bD bT).2) (c:=eY (h3 u s).1.f (1-s.slot)=0/\List.length bT<=140737488355328) (by rw[A0 ⟨(h3 u s).1.f,(h3 u s).1.up,m.n,0⟩ false (fb (h3 u s).1.f (1-s.slot) bD bT).1,fe];rfl) (fun _ _=>⟨by rw[av];exact Hv aA aY,by omega⟩) (by rw[fe];exact⟨tx,DX,Kj⟩) j2;rw[gK,<- mx,gS,fe]at this;rw[e1];exact this
   ·have er:(h3 u s).2=false:=by rw[es]at h;simpa using h
    rw[if_neg (by rw[er];simp),gK,<- mx,gS]at j2;exact j2
  ·refine H0 ?_;intro g;rw[kA]at rT;rw[bE.not_false,oS]at pR;rcases g.2 with g|g
   ·exact g rT
   ·simp only at g;omega
  ·refine H0 ?_;exact fun g=>a0 g.1
 ·have jI:∀r,o0 b u s m=r->oq r:=fun r h=>fin _ (by unfold g3;rw[if_pos Ex,if_neg (by rw[fe];exact bK),if_pos (by rw[fe];exact bX),rV,uQ,h])
  have yB:∀y,o0 b u s m=(u,lH m y)->K (.an [.agg [af ws,A fu,ay up,A bu,A bx],.one (bB (ot false a8 ba 3 y))]) []:=fun y h=>by
   have e:=jI _ h;rw[gK,gS,fe]at e;exact e
  refine cn (fun h=>?_) (fun h=>bN (fun G=>?_) (fun G=>?_))
  ·rw[fV]at h;have e:=jI (u,nI m) (if_pos (by rw[fe];exact h));rw[gK,gS,fe]at e;exact e
  ·rw[eC]at h;refine yB _ ?_;unfold o0;rw[if_neg (by rw[fe];simp only;omega)]
   by_cases c:s.ready=m.n
   ·rw[if_pos c,show au s.ready ba=true from kA.2 (by rw[c,fe])]
   ·rw[if_neg c,if_pos (by omega),show au s.ready ba=false from oy.2 (by rw[fe]at c;exact c)]
  rw[eC]at h;have em:o0 b u s m=_:=if_neg (by rw[fe];simp only;omega);have dL:=em.trans (if_neg (by rw[fe];simp only;omega));have gr:=dL.trans (if_neg (by omega));clear em dL;have aO:W (W (64+W (64*(1-s.slot)))+4)=68+64*(1-s.slot):=by
   rw[cc (n:=64*(1-s.slot)) (by omega) (by omega),cc (n:=64+64*(1-s.slot)) (by omega) (by omega),cc (by omega) (by omega)];omega
  rw[aO,cc (n:=68+64*(1-s.slot)+bD) (by omega) (by omega)];have QA:mT u.f (1-s.slot) m.at_=(a2 ws (68+64*(1-s.slot)).toNat (68+64*(1-s.slot)+bD).toNat,0):=by
   unfold mT;rw[rV,if_pos Cq,fe];exact if_pos ⟨tx,DX⟩
  have sV:=Yp (f:=u.f) (s:=1-s.slot) (n:=m.at_) (by rw[rV];exact ax) (by omega) (by rw[QA]);rw[QA]at sV gr;have Rq:cK (a2 ws (68+64*(1-s.slot)).toNat (68+64*(1-s.slot)+bD).toNat)=true:=LV cb _ _;obtain⟨w,abV⟩:∃w,a2 ws (68+64*(1-s.slot)).toNat (68+64*(1-s.slot)+bD).toNat=w:=⟨_,rfl⟩
  rw[abV]at sV gr Rq |-;have aj7:(w.length:Int)=bD:=by rw[fe]at sV;exact sV
  simp only at gr;have IY:u.n=bu:=by rw[gS]
  have pK:u.eE=bx:=by rw[gS]
  have kG:m.n=ba:=by rw[fe]
  have IV:m.at_=bD:=by rw[fe]
  have wQ:m.image=cg:=by rw[fe]
  refine⟨⟨by omega,by omega,by simp only[len];omega⟩,bN (fun aV=>yB _ (gr.trans (if_neg (fun g=>aV (by rw[<- IY,<- kG];exact g.2.1))))) (fun aV=>bN (fun br=>yB _ (gr.trans (if_neg (fun g=>br (by rw[<- pK,<- IV];exact g.2.2))))) (fun br=>?_))⟩;have hZ:=gr.trans (if_pos ⟨trivial,by rw[IY,kG];exact aV,by rw[pK,IV];exact br⟩);refine cz (fun bV=>yB _ (hZ.trans (if_neg (fun g=>?_)))) (fun bV=>cz (fun dm=>yB _ (hZ.trans (if_neg (fun g=>g.2.1 (by rw[g.2.2,wQ];exact dm))))) (fun dm=>?_))
  ·have:hk b w=(0,2):=by
    have bA:w.length=0:=by simp only[len]at bV;omega
    have bb:fY w=2:=if_pos (.inl bA);unfold hk;rw[if_neg (by rw[bb];decide),bb]
   rw[this]at g;exact absurd g.1 (by decide)
  have cU:fY w=0:=by
   unfold fY;rw[if_neg (by simp only[len]at bV;omega),if_pos Rq]
  have HN:hk b w=(fk (s9 w) b+1,0):=by unfold hk;rw[if_pos cU];exact if_pos fg
  rw[HN]at hZ;refine⟨cU,rn fg,bN (fun dZ=>yB _ (hZ.trans (if_neg (fun g=>dZ (by rw[<- wQ];exact g.2.2))))) (fun dZ=>⟨Cq,?_⟩)⟩;have mr:=hZ.trans (if_pos ⟨rfl,by simp only;omega,by rw[wQ];exact dZ⟩);have mx:e2 u (gB ⟨ws,fu⟩ (1-s.slot) bD cg).1 (gB ⟨ws,fu⟩ (1-s.slot) bD cg).2=lD u s m:=by unfold lD;rw[rV,IV,wQ]
  have es:=A0 u false (gB ⟨ws,fu⟩ (1-s.slot) bD cg).1 (gB ⟨ws,fu⟩ (1-s.slot) bD cg).2;rw[mx,Bool.false_or]at es;refine eF (fun iE=>?_) (fun iE=>?_)
  ·have er:(lD u s m).2=true:=by rw[es]at iE;simpa using iE
   have pe:=mr.trans (if_pos er);have aA:hT (lD u s m).1.f:=by
    obtain⟨Ho,Hp⟩:=zb (u:=u) (mx▸er);have:=(VT (o:=o) (n:=bD) (m:=cg) hu aY (.inl (by rw[<- av];exact Ho))).1.1;rw[<- mx,Hp,av];exact this
   rw[iE];obtain⟨x,aG⟩:∃x,lD u s m=x:=⟨_,rfl⟩
   have rX:e2 ⟨⟨ws,fu⟩,up,bu,bx⟩ (gB ⟨ws,fu⟩ (1-s.slot) bD cg).1 (gB ⟨ws,fu⟩ (1-s.slot) bD cg).2=x:=by rw[<- aG,<- mx,gS]
   rw[aG]at aA pe;have abX:e2 (⟨(⟨ws,fu⟩:tX),up,bu,bx⟩:po) (⟨((gB (⟨ws,fu⟩:tX) (1-s.slot) bD cg).1).words,((gB (⟨ws,fu⟩:tX) (1-s.slot) bD cg).1).fuel⟩:tX) (gB (⟨ws,fu⟩:tX) (1-s.slot) bD cg).2=x:=rX;rw[abX];have Pu:eY x.1.f (1-s.slot)=0:=by rw[av];exact Hv aA aY
   have PL:lu x.1.f (1-s.slot)=((na x.1.f.words (1-s.slot)).1,(na x.1.f.words (1-s.slot)).2,if ob x.1.f.words (lO (1-s.slot))then 0 else 4):=if_pos Pu;have pP:∀r,AP ⟨x.1.f,x.1.up,0,0⟩ s m w=r->oq r:=fun r h=>jI _ (pe.trans h)
   have Jc:¬((lu x.1.f (1-s.slot)).2.2=0/\(lu x.1.f (1-s.slot)).2.1=m.image/\(lu x.1.f (1-s.slot)).1=w)->K (.an [.agg [af x.1.f.words,A x.1.f.fuel,ay x.1.up,A 0,A 0],.one (bB (ot false a8 ba 3 false))]) []:=fun g=>by
    have e:=pP (⟨x.1.f,x.1.up,0,0⟩,lH m false) (if_neg g);rw[gK,fe]at e;exact e
   rw[PL]at Jc;refine⟨Pu,bN (fun a1=>Jc (fun g=>a1 (by rw[<- wQ];exact g.2.1))) (fun a1=>⟨ab9 _ _ (n:=140737488355328) (by rw[aA.2];omega),eF (fun bf=>Jc (fun g=>?_)) (fun bf=>⟨⟨aA.1,by simp⟩,?_⟩)⟩)⟩
   ·rw[show gj _ w=true from decide_eq_true g.2.2]at bf;cases bf
   ·have abG:ob x.1.f.words (lO (1-s.slot))=true:=by
     cases c:ob x.1.f.words (lO (1-s.slot))with
     |true=>rfl
     |false =>
      have:(na x.1.f.words (1-s.slot)).2=0:=by unfold na;rw[if_neg (by rw[c];simp)]
      exact absurd (a1.symm.trans this) dm
    have q7:=pe.trans (if_pos (by rw[PL,if_pos abG,wQ];exact⟨rfl,a1,of_decide_eq_true bf⟩));have sD:=Mz ⟨x.1.f,x.1.up,0,0⟩ false [2,ba];rw[Bool.false_or]at sD;have Ze:ic false (u9 (⟨(⟨x.1.f.words,x.1.f.fuel⟩:tX),x.1.up,0,0⟩:po) [2,ba])=!(e9 ⟨x.1.f,x.1.up,0,0⟩ [2,ba]).2:=sD;rw[Ze];rw[kG]at q7
    by_cases c:(e9 ⟨x.1.f,x.1.up,0,0⟩ [2,ba]).2=true
    ·have e:=jI _ (q7.trans (if_pos c));rw[gK,fe]at e;rw[c];exact e
    ·have e:=jI _ (q7.trans (if_neg c));rw[gK]at e;rw[(Bool.not_eq_true _).mp c];exact e
  ·have er:(lD u s m).2=false:=by rw[es]at iE;simpa using iE
   have e:=jI _ (mr.trans (if_neg (by rw[er];simp)));rw[gK,<- mx,gS]at e;rw[iE];exact e
 ·have jI:∀r,mw u s m=r->oq r:=fun r h=>fin _ (by rw[QK Ex (by rw[fe];exact .inl eW),rV,uQ,h])
  have em:mw u s m=_:=if_pos (by rw[fe];exact eW);have kG:m.n=ba:=by rw[fe]
  refine bN (fun h=>?_) (fun h=>?_)
  ·have dL:=em.trans (if_neg (by rw[kG];exact h));refine bN (fun G=>?_) (fun G=>⟨⟨hu.1,by simp⟩,?_⟩)
   ·have e:=jI _ (dL.trans (if_neg (by rw[kG];exact G)));rw[gK,gS]at e;exact e
   ·have gr:=dL.trans (if_pos (by rw[kG];exact G));have sD:=Mz u false [1,1-s.slot,ba];rw[Bool.false_or,gS]at sD;rw[sD];rw[kG]at gr;have yM:mw u s m=if (e9 ⟨⟨ws,fu⟩,up,bu,bx⟩ [1,1-s.slot,ba]).2=true then((e9 ⟨⟨ws,fu⟩,up,bu,bx⟩ [1,1-s.slot,ba]).1,nI m)else((e9 ⟨⟨ws,fu⟩,up,bu,bx⟩ [1,1-s.slot,ba]).1,[]):=by rw[<- gS];exact gr
    by_cases c:(e9 ⟨⟨ws,fu⟩,up,bu,bx⟩ [1,1-s.slot,ba]).2=true
    ·have e:=jI _ (yM.trans (if_pos c));rw[gK,fe]at e;rw[c];exact e
    ·have e:=jI _ (yM.trans (if_neg c));rw[gK]at e;rw[(Bool.not_eq_true _).mp c];exact e
  ·have e:=jI _ (em.trans (if_pos (by rw[kG];exact h)));rw[gK,gS,fe]at e;exact e
 ·have jI:∀r,mw u s m=r->oq r:=fun r h=>fin _ (by rw[QK Ex (by rw[fe];exact .inr hX),rV,uQ,h])
  have em:mw u s m=_:=if_neg (by rw[fe];exact eW);have kG:m.n=ba:=by rw[fe]
  refine cn (fun h=>?_) (fun h=>?_)
  ·rw[fV]at h;have e:=jI _ (em.trans (if_pos (by rw[kG];exact h)));rw[gK,gS]at e;exact e
  rw[eC]at h;have dL:=em.trans (if_neg (by rw[kG];omega));refine cz (fun G=>⟨⟨hu.1,by simp⟩,?_⟩) (fun G=>?_)
  ·have gr:=dL.trans (if_pos (by rw[kG];exact G));have sD:=Mz u false [3,ba];rw[Bool.false_or,gS]at sD;rw[sD];rw[kG]at gr;have yM:mw u s m=if (e9 ⟨⟨ws,fu⟩,up,bu,bx⟩ [3,ba]).2=true then pE (e9 ⟨⟨ws,fu⟩,up,bu,bx⟩ [3,ba]).1 m else((e9 ⟨⟨ws,fu⟩,up,bu,bx⟩ [3,ba]).1,[]):=by rw[<- gS];exact gr
   by_cases c:(e9 ⟨⟨ws,fu⟩,up,bu,bx⟩ [3,ba]).2=true
   ·have hZ:=yM.trans (if_pos c);rw[c];refine cz (fun ab=>?_) (fun ab=>?_)
    ·have e:=jI _ (hZ.trans (if_pos (by rw[kG];exact ab)));rw[gK,fe]at e;exact e
    ·have e:=jI _ (hZ.trans (if_neg (by rw[kG];exact ab)));rw[gK,fe]at e;exact e
   ·have e:=jI _ (yM.trans (if_neg c));rw[gK]at e;rw[(Bool.not_eq_true _).mp c];exact e
  ·have gr:=dL.trans (if_neg (by rw[kG];exact G));refine cz (fun ab=>?_) (fun ab=>?_)
   ·have e:=jI _ (gr.trans (if_pos (by rw[kG,gS];exact ab)));rw[gK,gS,fe]at e;exact e
   ·have e:=jI _ (gr.trans (if_neg (by rw[kG,gS];exact ab)));rw[gK,gS,fe]at e;exact e
 ·have e:=fin _ (aaz (b:=b) (u:=u) (m:=m) (by rw[fe];exact bK) (by rw[fe];exact bX) (by rw[fe];exact eW) (by rw[fe];exact hX));rw[gK,gS]at e;exact e

def Gk:bd
 |[.agg [.E (.list .int) ws,.E .int fu,.E .bool up,.E .int ak,.E (.list .int) ah,.E .int aj,.E .int ai,.E (.list .bool) Y,.E (.list .bool) aa]],[]=>some (some (dM ⟨⟨ws,fu⟩,up,⟨⟨ak,ah,aj⟩,ai⟩,Y,aa⟩=0),.an [.agg (jB (j1 ⟨⟨ws,fu⟩,up,⟨⟨ak,ah,aj⟩,ai⟩,Y,aa⟩).1),.one (A (j1 ⟨⟨ws,fu⟩,up,⟨⟨ak,ah,aj⟩,ai⟩,Y,aa⟩).2)],[])
 |_,_=>none

theorem ahL:bw 44 Gk:=b2 0 (((bv.f Mg).f Mf).f yr) Tryz.func44 (by kernel_rfl) fun vs ar=>by
 unfold Gk;split;rotate_left;trivial;rename_i ws fu up ak ah aj ai Y aa;refine⟨by kernel_rfl,fun ag K D=>?_⟩;refine⟨1,?_⟩;obtain⟨v3,ef⟩:∃v3,v3=K (.an [.agg [af [],A (0:Int),ay false,A (0:Int),af [],A (0:Int),A (0:Int),bj [],bj []],.one (A 12)]) []:=⟨_,rfl⟩
 refine ck (fun rec=>(by subst ef;kernel_rfl:_=(
  dE ⟨ws,fu⟩=(0:Int) /\
  J (!up)
  (K (.an [.agg [af [],A (0:Int),ay false,A (0:Int),af [],A (0:Int),A (0:Int),bj [],bj []],.one (A 7)]) [])
  (J (au (bL ⟨ws,fu⟩).n 0)
  v3
  (J (bL ⟨ws,fu⟩).dv
  v3
  (J (bL ⟨ws,fu⟩).abort
  v3
  ((len ws*8<=140737488355328/\len ah*8<=140737488355328/\len Y<=140737488355328/\len aa<=140737488355328) /\
  (dE ⟨ws,fu⟩=(0:Int)/\List.length ((3:Int)::(bL ⟨ws,fu⟩).n::[])<=140737488355328/\len Y<=1000/\len aa<=1000) /\
  K (.an [.agg (jB (dJ ⟨⟨ws,fu⟩,up,⟨⟨ak,ah,aj⟩,ai⟩,Y,aa⟩ ((3:Int)::(bL ⟨ws,fu⟩).n::[])).fst),.one (A 0)]) []))))))) ?_
 subst ef;obtain⟨bA,bb,cr,du,hs⟩:=im ag;obtain⟨ix,jb,lc,o3⟩:=rp ag;obtain⟨g,bs⟩:∃g:tY,g=⟨⟨ws,fu⟩,up,⟨⟨ak,ah,aj⟩,ai⟩,Y,aa⟩:=⟨_,rfl⟩
 have IE:g.f=⟨ws,fu⟩:=by rw[bs]
 have aO:up=false->j1 g=(n6,7):=fun h=>by
  have e:pC g=7:=by unfold pC hP;rw[bs,if_pos ag,h];rfl
  unfold j1;rw[e];rfl
 have aX:up=true->((bL ⟨ws,fu⟩).n=0\/(bL ⟨ws,fu⟩).dv=true\/(bL ⟨ws,fu⟩).abort=true)->j1 g=(n6,12):=fun h c=>by
  have e:hP g=0:=by unfold hP;rw[bs,if_pos ag];exact if_pos h
  have b8:pC g=12:=by unfold pC;rw[if_pos e,IE,if_pos c]
  unfold j1;rw[b8];rfl
 have cY:up=true->¬((bL ⟨ws,fu⟩).n=0\/(bL ⟨ws,fu⟩).dv=true\/(bL ⟨ws,fu⟩).abort=true)->j1 g=((dJ g [3,(bL ⟨ws,fu⟩).n]).1,0):=fun h c=>by
  have e:hP g=0:=by unfold hP;rw[bs,if_pos ag];exact if_pos h
  have b8:pC g=0:=by unfold pC;rw[if_pos e,IE,if_neg c]
  unfold j1;rw[if_pos b8,IE]
 rw[<- bs]at D;refine⟨bA,eF (fun h=>?_) (fun h=>?_)⟩
 ·rw[aO h]at D;exact D
 refine cz (fun I=>?_) (fun I=>cn (fun G=>?_) (fun G=>cn (fun ab=>?_) (fun ab=>⟨⟨ix,jb,by omega,by omega⟩,⟨bA,by simp,lc,o3⟩,?_⟩)))
 ·rw[aX h (.inl I)]at D;exact D
 ·rw[aX h (.inr (.inl G))]at D;exact D
 ·rw[aX h (.inr (.inr ab))]at D;exact D
 ·rw[cY h (by rw[G,ab];simp[I]),bs]at D;exact D
end
end Go.Proofs.YtlbppjmekiemiaaGreatDoor
