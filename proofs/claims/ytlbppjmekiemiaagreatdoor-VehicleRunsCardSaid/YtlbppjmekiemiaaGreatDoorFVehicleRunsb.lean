/- What the functions of VehicleRuns compute (part 2 of 5). No condition. -/
import Derived.Test.YtlbppjmekiemiaaGreatDoorFVehicleRunsa
import Derived.KernelRfl
namespace Go.Proofs.YtlbppjmekiemiaaGreatDoor
noncomputable section
open bE
set_option maxHeartbeats 4000000
variable (cy up:Bool) (fu i j k bD cg mk ba a8 now fQ dG slot de fM ai aj ak bx bu:Int) (b aM:cB) (aa Y:c9) (bT ah ws:aJ) (cs:db) (l U:cG) (vs:cD) (us:c3)
def Cb:bd
 |[.agg [.E (.list .int) ws,.E .int fu],.one (.E (.list .int) r),.one (.E (.list (.list .int)) b3)],[]=>some (some (eQ r/\len b3*24<=140737488351232/\iJ b3=true),.an [.agg [af (fO ⟨ws,fu⟩ r b3).1.words,A (fO ⟨ws,fu⟩ r b3).1.fuel],.one (A (fO ⟨ws,fu⟩ r b3).2)],[])
 |_,_=>none
def EV:Ctx:=[(103,G5),(184,G1),(185,GX),(186,G2),(150,G3),(109,G7),(171,(A8 G4)),(187,(DG Fx Hf)),(188,Ha)]
def vo:List cw:=[.inLoop [40,39,38,10,7,6,3,1] (Code.sub (bF Tryz.f158) [1,1,1,1,0,1,0,0]),.inBlock 0,.code (Code.sub (bF Tryz.f158) [1,1,1,1,1])]
def DW(F al M:Int)(ae:aJ)(ao:cu)(aE:aJ)(aH:Int)(aS:aJ)(aZ:Int)(bc:aJ):bP:=⟨[(40,.one (A F)),(39,.one (A al)),(38,.one (.own 0)),(10,.one (.own 1)),(7,.one (A M)),(6,.one (.ptr 2 0)),(3,.one (.ptr 3 0)),(1,.one (af ae))],[(0,.arr (z.list z.int) ao),(1,.arr z.int aE),(2,.box [.own 4,A aH]),(3,.box [af aS,A aZ]),(4,.arr z.int bc)],5⟩
theorem U3{F:Int}{aE:aJ}{rec:bZ}{K:aW}{al M ae ao aH aS aZ bc}{yz v0 v1 aC v3 v4 cf dK dF eG v9 v10 v11 mO hB oe kR si qd v20 tJ}(abS:yz=fun a b=>DW a al M ae ao b aH aS aZ bc)(b0:v0=gv (nth ao (Int.toNat F) (z.H (z.list z.int))))(cd:v1=me (nth ao (Int.toNat F) (z.H (z.list z.int))))(cR:aC=cK aS)(ef:v3=ed aS)(e1:v4=iy aS (Int.toNat ((v3:Nat):Int)))(g5:cf=n5 (Int.toNat ((v3:Nat):Int)) v4.snd)(km:dK=me ae)(iG:dF=cX (W (cf+1)) ae)(kI:eG=b9 (⟨aS,aZ⟩:cm) dF)(j3:v9=cX cf (nth dK (Int.toNat 0) (z.H z.int)::[]))(m9:v10=b9 (eG.fst:cm) v9)(oR:v11=eX aS)(zV:mO=eH (W ((1:Int)-((v3:Nat):Int))))(s7:hB=b9 (⟨aS,aZ⟩:cm) mO)(Q7:oe=cX (W (W (W ((1:Int)-((v3:Nat):Int))*32)+1)) aE)(Q8:kR=b9 (hB.fst:cm) oe)(Q9:si=cX (W (W ((1:Int)-((v3:Nat):Int))*32)) (W (v11+1)::[]))(abR:qd=b9 (kR.fst:cm) si)(Df:v20=K (.an [.agg [af [],A (0:Int)],.one (A 8)]) [])(abT:tJ=J (au v11 60000)
 v20
 (((-1)<=aZ/\aZ<=100000/\(0:Int)<=W ((1:Int)-((v3:Nat):Int))/\(W ((1:Int)-((v3:Nat):Int))+1)*32<=(len aS:Int)/\len aS<=192) /\
 J (!hB.snd)
 (K (.an [.agg [af hB.fst.words,A hB.fst.fuel],.one (A 7)]) [])
 (((-1)<=hB.fst.fuel/\hB.fst.fuel<=100000/\(0:Int)<=W (W (W ((1:Int)-((v3:Nat):Int))*32)+1)/\W (W (W ((1:Int)-((v3:Nat):Int))*32)+1)+(len aE:Int)<=(len hB.fst.words:Int)/\len hB.fst.words<=192) /\
 J (!kR.snd)
 (K (.an [.agg [af kR.fst.words,A kR.fst.fuel],.one (A 7)]) [])
 (((-1)<=kR.fst.fuel/\kR.fst.fuel<=100000/\(0:Int)<=W (W ((1:Int)-((v3:Nat):Int))*32)/\W (W ((1:Int)-((v3:Nat):Int))*32)+(((len (W (v11+1)::[])):Nat):Int)<=(len kR.fst.words:Int)/\len kR.fst.words<=192) /\
 J (!qd.snd)
 (K (.an [.agg [af qd.fst.words,A qd.fst.fuel],.one (A 7)]) [])
 (K (.an [.agg [af qd.fst.words,A qd.fst.fuel],.one (A 0)]) []))))):b7 EV tab Tryz.f158 0 K rec (cQ vo) (yz F aE)=(
 J (aN F al)
 (((0:Int)<=F/\F<(len ao:Int)) /\
 Int.toNat F<len ao /\
 List.length (nth ao (Int.toNat F) (z.H (z.list z.int)))<=140737488355328 /\
 J (!(au v0 0))
 (K (.an [.agg [af [],A (0:Int)],.one (A v0)]) [])
 (len (nth ao (Int.toNat F) (z.H (z.list z.int)))<=255 /\
 (len aE+len v1)*8<=140737488355328 /\
 J (aN 31 (len (cat aE v1):Int))
 v20
 (rec vo (yz (W (F+1)) (cat aE v1)))))
 ((64<=len aS/\aC=true) /\
 len aS*8<=140737488355328 /\
 len ae<=255 /\
 ((0:Int)<=((v3:Nat):Int)/\((v3:Nat):Int)<=(1:Int)/\64<=len aS/\len aS<=192/\aC=true) /\
 J (dc 0 cf)
 (J (dc (W (cf+(len dK:Int))) (W (W (((v3:Nat):Int)+(1:Int))*32)))
 (((-1)<=aZ/\aZ<=100000/\(0:Int)<=W (cf+1)/\W (cf+1)+(len ae:Int)<=(len aS:Int)/\len aS<=192) /\
 J (!eG.snd)
 (K (.an [.agg [af eG.fst.words,A eG.fst.fuel],.one (A 7)]) [])
 (((0:Int)<=(0:Int)/\(0:Int)<(len dK:Int)) /\
 ((-1)<=eG.fst.fuel/\eG.fst.fuel<=100000/\(0:Int)<=cf/\cf+(((len (nth dK (Int.toNat 0) (z.H z.int)::[])):Nat):Int)<=(len eG.fst.words:Int)/\len eG.fst.words<=192) /\
 J (!v10.snd)
 (K (.an [.agg [af v10.fst.words,A v10.fst.fuel],.one (A 7)]) [])
 (K (.an [.agg [af v10.fst.words,A v10.fst.fuel],.one (A 0)]) [])))
 tJ)
 tJ)):=by subst_vars;kernel_rfl

theorem S2(ws r:aJ)(fu:Int)(rs:cu)(ax:rs.length<=5864062014806)(av:iJ rs=true)(K:aW)
  (sT:∀e,e≠0->kg 0 rs=e->K (.an [.agg [af [],A 0],.one (A e)]) [])
  (pJ:∀gx,kg 0 rs=0->(dy rs).length<=31->cl EV tab Tryz.f158 0 K (gx+1) vo (DW (rs.length:Int) (((len rs):Nat):Int) 0 r rs (dy rs) 0 ws fu [])) :
  ∀(d k:Nat),rs.length<=k+d->k<=rs.length->(dy (rs.take k)).length<=31->kg 0 rs=kg (dy (rs.take k)).length (rs.drop k) ->
  cl EV tab Tryz.f158 0 K (d+1) vo (DW (k:Int) (((len rs):Nat):Int) 0 r rs (dy (rs.take k)) 0 ws fu [])
 |0,k,ad,jH,bh,bs=>by
  have:k=rs.length:=by omega
  subst this;rw[List.take_length]at bh bs |-;rw[List.drop_length]at bs;exact pJ 0 bs bh
 |d+1,k,ad,jH,bh,bs=>by
  by_cases c:k=rs.length
  ·subst c;rw[List.take_length]at bh bs |-;rw[List.drop_length]at bs;exact pJ (d+1) bs bh
  have bl:=ie (l:=rs) (k:=k) (by omega) (z.H (.list .int));rw[ep (by omega) (z.H (.list .int))]at bs;have aB:nth rs k (z.H (.list .int))∈rs:=by
   have:k<rs.length:=by omega
   simp[nth,List.getD_eq_getElem?_getD,this]
  have nV:=List.all_eq_true.1 av _ aB;simp only[decide_eq_true_eq]at nV;rw[bW (L:=vo),U3 rfl rfl rfl rfl rfl rfl rfl rfl rfl rfl rfl rfl rfl rfl rfl rfl rfl rfl rfl rfl rfl,cM];obtain⟨x,aG⟩:∃x,nth rs k (z.H (.list .int))=x:=⟨_,rfl⟩
  rw[aG]at bl bs nV |-;simp only[kg]at bs;refine cS (by simp only[len];omega) ⟨⟨by omega,by simp only[len];omega⟩,by simp only[len];omega,nV,bN (fun I=>?_) (fun I=>?_)⟩
  ·rw[if_neg I]at bs;exact sT _ I bs
  ·rw[if_pos I]at bs;obtain⟨gm,hy,hM⟩:=pw I;refine⟨by simp only[len];omega,by simp only[len,yh];omega,bq (fun G=>?_) (fun G=>?_)⟩
   ·simp only[len,cat,List.length_append,yh]at G;rw[if_neg (by omega)]at bs;exact sT 8 (by decide) bs
   ·simp only[len,cat,List.length_append,yh]at G;rw[if_pos (by omega)]at bs;rw[di (by omega)];have e:cat (dy (rs.take k)) (me x)=dy (rs.take (k+1)):=by rw[bl,BB];rfl
    have mX:(dy (rs.take (k+1))).length=(dy (rs.take k)).length+1+x.length:=by rw[bl,BB,List.length_append,yh];omega
    rw[e];exact S2 ws r fu rs ax av K sT pJ d (k+1) (by omega) (by omega) (by rw[mX];omega) (by rw[bs,mX])
theorem ai5(ws ua:aJ)(fu g:Int)(s:Nat)(av:s<=1)(Il:64<=ws.length)(aj3:ws.length<=192)(f1:-1<=fu)(f2:fu<=100000)(QO:0<=g)(wJ:g<=65535)(ll:ua.length<=31)(P:cm×Int->Prop)
  (m4:P (gl (b9 ⟨ws,fu⟩ (eH ((1-s:Nat):Int)++cX (32*((1-s:Nat):Int)+1) ua++cX (32*((1-s:Nat):Int)) [g+1])))) :
  let o:=W (1-(s:Int))
  let a:=b9 ⟨ws,fu⟩ (eH o)
  let b:=b9 ⟨a.1.words,a.1.fuel⟩ (cX (W (W (o*32)+1)) ua)
  let c:=b9 ⟨b.1.words,b.1.fuel⟩ (cX (W (o*32)) [W (g+1)])
  (0<=o/\(o+1)*32<=(ws.length:Int)) /\
  (a.2=false->P (a.1,7))/\((-1<=a.1.fuel/\a.1.fuel<=100000/\0<=W (W (o*32)+1)/\W (W (o*32)+1)+(ua.length:Int)<=(a.1.words.length:Int)/\a.1.words.length<=192) /\
  (a.2=true->b.2=false->P (b.1,7))/\((-1<=b.1.fuel/\b.1.fuel<=100000/\0<=W (o*32)/\W (o*32)+1<=(b.1.words.length:Int)/\b.1.words.length<=192) /\
  (a.2=true->b.2=true->P (c.1,j7 c.2)))):=by
 intro o a b c;have PM:o=((1-s:Nat):Int):=by show W (1-(s:Int))=_;rw[cc (by omega) (by omega)];omega
 have aO:W (o*32)=32*((1-s:Nat):Int):=by rw[PM,cc (by omega) (by omega)];omega
 have aX:W (W (o*32)+1)=32*((1-s:Nat):Int)+1:=by rw[aO,cc (by omega) (by omega)]
 have cY:W (g+1)=g+1:=cc (by omega) (by omega);have CD:=ru ⟨ws,fu⟩ (eH o) f1 f2;have Jq:a.1.words.length=ws.length:=sz ⟨ws,fu⟩ (eH o);have P3:=ru a.1 (cX (W (W (o*32)+1)) ua) CD.1 CD.2;have akr:b.1.words.length=a.1.words.length:=sz a.1 (cX (W (W (o*32)+1)) ua);rw[wq,wq]at m4;have Y9:b9 ⟨ws,fu⟩ (eH ((1-s:Nat):Int))=a:=by rw[<- PM]
 have Za:b9 a.1 (cX (32*((1-s:Nat):Int)+1) ua)=b:=by rw[<- aX]
 have mx:b9 b.1 (cX (32*((1-s:Nat):Int)) [g+1])=c:=by rw[<- aO,<- cY]
 rw[Y9,Za]at m4;refine⟨by omega,fun h=>?_,⟨CD.1,CD.2,by omega,by omega,by omega⟩,fun h er=>?_,⟨P3.1,P3.2,by omega,by omega,by omega⟩,fun h er=>?_⟩
 ·rw[if_neg (by simp[h]),if_neg (by simp[h])]at m4;simpa[gl,h,j7]using m4
 ·rw[if_pos h,if_neg (by simp[er])]at m4;simpa[gl,er,j7]using m4
 ·rw[if_pos h,if_pos er,mx]at m4;exact m4
theorem Ml:bw 158 Cb:=b2 (Γ:=EV) 0 (((((((((bv.f Mn).f (kx.or LX Mr)).f (kx.yC WN)).f AZ).f Mj).f aiE).f aiv).f aiD).f En) Tryz.func158 (by kernel_rfl) fun vs ar=>by
 unfold Cb;split;rotate_left;trivial;rename_i ws fu r b3;refine⟨by kernel_rfl,fun ag K D=>?_⟩;obtain⟨aw,ad,nV⟩:=ag;refine⟨(b3++[r]).length+1+1,?_⟩;refine ck (fun rec=>(by kernel_rfl:_=(
  J (!(au (dE (⟨ws,fu⟩:cm)) 0))
  (K (.an [.agg [af [],A (0:Int)],.one (A (dE (⟨ws,fu⟩:cm)))]) [])
  (List.length r<=140737488355328 /\
  J (!(au (gv r) 0))
  (K (.an [.agg [af [],A (0:Int)],.one (A (gv r))]) [])
  (len b3*24<=140737488355328 /\
  (len b3+len (r::[]))*24<=140737488355328 /\
  rec vo (DW 0 (len (cat b3 (r::[])):Int) 0 r (cat b3 (r::[])) [] 0 ws fu [])))))) ?_
 unfold fO lg at D;simp only[len]at ad;refine bN (fun h=>?_) (fun h=>?_)
 ·rw[if_neg h,if_neg h]at D;exact D
 rw[if_pos h]at D;refine⟨aw,bN (fun G=>?_) (fun G=>?_)⟩
 ·rw[if_neg G,if_neg G]at D;exact D
 rw[if_pos G]at D;obtain⟨bK,bX,dh,eW⟩:=nG h;obtain⟨bA,bb,cr,du⟩:=jh bK;obtain⟨hs,gu⟩:=q1 bA;simp only at bX dh eW bb cr du hs gu;obtain⟨gm,hy,hM⟩:=pw G;have hlen:(b3++[r]).length=b3.length+1:=by simp
 obtain⟨rs,oP⟩:∃rs,b3++[r]=rs:=⟨_,rfl⟩
 have abL:iJ rs=true:=by
  rw[<- oP];unfold iJ at nV |-; rw[List.all_append,nV];simp only[List.all_cons,List.all_nil,Bool.and_true,Bool.true_and,decide_eq_true_eq];omega
 rw[oP]at hlen |-;refine⟨by simp only[len];omega,by simp only[len,List.length_cons,List.length_nil];omega,?_⟩;rw[show cat b3 [r]=rs from oP];rw[oP]at D;have dY:dy (rs.take 0)=[]:=by simp[dy]
 have l0:(dy (rs.take 0)).length=0:=by rw[dY];rfl
 refine S2 ws r fu rs (by omega) abL K (fun e bp bs=>?_) (fun gx bs ll=>?_) rs.length 0 (by omega) (by omega) (by omega) (by rw[l0,List.drop_zero])
 ·rw[bs,if_neg bp]at D;exact D
 rw[bs,if_pos rfl]at D;rw[bW (L:=vo),U3 rfl rfl rfl rfl rfl rfl rfl rfl rfl rfl rfl rfl rfl rfl rfl rfl rfl rfl rfl rfl rfl,cM];unfold sq at D;have pM:=td ws;have IG:=wE du (ed ws);have wJ:eX ws=e0 ws (ed ws):=rfl;have es:∀s:Nat,Int.toNat (s:Int)=s:=fun _=>rfl
 simp only[oP]at D;obtain⟨s,av⟩:∃s,ed ws=s:=⟨_,rfl⟩
 rw[av]at D pM |-;obtain⟨g,IF⟩:∃g,eX ws=g:=⟨_,rfl⟩
 rw[IF]at D wJ dh eW |-;rw[cc (n:=(s:Int)+1) (by omega) (by omega),cc (n:=((s:Int)+1)*32) (by omega) (by omega)];have zi:(((len (me r)):Nat):Int)=(r.length:Int)+1:=by simp only[len,yh];omega
 have sC:nth (me r) (Int.toNat (0:Int)) (z.H z.int)=42240+(r.length:Int):=rfl;rw[zi,sC,es s];simp only[len];have Q5:=fun(m4:K (.an [.agg [af (gl (b9 ⟨ws,fu⟩ (g9 (1-s) rs (g+1)))).1.words,A (gl (b9 ⟨ws,fu⟩ (g9 (1-s) rs (g+1)))).1.fuel],.one (A (gl (b9 ⟨ws,fu⟩ (g9 (1-s) rs (g+1)))).2)]) []) =>
  ai5 ws (dy rs) fu g s pM bX gu bb cr (by omega) (by omega) ll (fun x=>K (.an [.agg [af x.1.words,A x.1.fuel],.one (A x.2)]) []) m4
 refine co (by omega) ⟨⟨bX,du⟩,by omega,by omega,⟨by omega,by omega,bX,gu,du⟩,?_⟩;cases h7:(iy ws s).2 with
 |none =>
  rw[h7]at D;simp only[room,Bool.false_eq_true,if_false]at D;simp only[n5];refine fa (eC.2 (by omega)) (cz (fun br=>?_) (fun br=>?_))
  ·rw[if_pos br]at D;exact D
  ·rw[if_neg br]at D;obtain⟨t1,t2,t3,t4,t5,t6⟩:=Q5 D;refine⟨⟨bb,cr,t1.1,t1.2,gu⟩,eF t2 (fun cJ=>⟨t3,eF (t4 cJ) (fun cE=>⟨t5,eF (fun ey=>?_) (fun ey=>?_)⟩)⟩)⟩
   ·have:=t6 cJ cE;rw[ey]at this;exact this
   ·have:=t6 cJ cE;rw[ey]at this;exact this
 |some a =>
  have bh:=VS (by omega) h7;rw[h7]at D;simp only[n5];rw[cc (n:=32*(s:Int)+1+a+((r.length:Int)+1)) (by omega) (by omega),cc (n:=32*(s:Int)+1+a+1) (by omega) (by omega)];refine gb (fV.2 (by omega)) (cn (fun br=>?_) (fun br=>?_))
  ·rw[fV]at br;rw[if_pos (show room r.length (some a)=true from by simp only[room,decide_eq_true_eq];omega)]at D;simp only[Option.getD_some,nS]at D;rw[show((32*s+1+a:Nat):Int)=32*(s:Int)+1+a by omega,wq]at D;obtain⟨f1,f2⟩:=ru ⟨ws,fu⟩ (cX (32*(s:Int)+1+a+1) r) bb cr;have dV:=sz ⟨ws,fu⟩ (cX (32*(s:Int)+1+a+1) r);simp only at dV;refine⟨⟨bb,cr,by omega,by omega,gu⟩,eF (fun cJ=>?_) (fun cJ=>⟨⟨by omega,by omega⟩,⟨f1,f2,by omega,by simp only[List.length_cons,List.length_nil];omega,by omega⟩,eF (fun cE=>?_) (fun cE=>?_)⟩)⟩
   ·rw[if_neg (by simp[cJ])]at D;simpa only[gl,cJ,j7]using D
   ·rw[if_pos cJ]at D;simp only[gl]at D;rw[show(b9 (b9 ⟨ws,fu⟩ (cX (32*(s:Int)+1+a+1) r)).1 (cX (32*(s:Int)+1+a) [42240+(r.length:Int)])).2=false from cE]at D;exact D
   ·rw[if_pos cJ]at D;simp only[gl]at D;rw[show(b9 (b9 ⟨ws,fu⟩ (cX (32*(s:Int)+1+a+1) r)).1 (cX (32*(s:Int)+1+a) [42240+(r.length:Int)])).2=true from cE]at D;exact D
  ·rw[eC]at br;rw[if_neg (show ¬room r.length (some a)=true from by simp only[room,decide_eq_true_eq];omega)]at D;refine cz (fun br=>?_) (fun br=>?_)
   ·rw[if_pos br]at D;exact D
   ·rw[if_neg br]at D;obtain⟨t1,t2,t3,t4,t5,t6⟩:=Q5 D;refine⟨⟨bb,cr,t1.1,t1.2,gu⟩,eF t2 (fun cJ=>⟨t3,eF (t4 cJ) (fun cE=>⟨t5,eF (fun ey=>?_) (fun ey=>?_)⟩)⟩)⟩
    ·have:=t6 cJ cE;rw[ey]at this;exact this
    ·have:=t6 cJ cE;rw[ey]at this;exact this

def FZ:bd
 |[.one (.ptr 0 0)],[.box [.E (.list .int) ws,.E .int fu,.E .bool up,.E .int ak,.E (.list .int) ah,.E .int aj,.E .int ai,.own 1,.own 2],.arr .bool Y,.arr .bool aa]=>some (none,.an [],[.box [af (rD ⟨⟨ws,fu⟩,up,⟨⟨ak,ah,aj⟩,ai⟩,Y,aa⟩).f.words,A (rD ⟨⟨ws,fu⟩,up,⟨⟨ak,ah,aj⟩,ai⟩,Y,aa⟩).f.fuel,ay (rD ⟨⟨ws,fu⟩,up,⟨⟨ak,ah,aj⟩,ai⟩,Y,aa⟩).up,A (rD ⟨⟨ws,fu⟩,up,⟨⟨ak,ah,aj⟩,ai⟩,Y,aa⟩).t.r.version,af (rD ⟨⟨ws,fu⟩,up,⟨⟨ak,ah,aj⟩,ai⟩,Y,aa⟩).t.r.keys,A (rD ⟨⟨ws,fu⟩,up,⟨⟨ak,ah,aj⟩,ai⟩,Y,aa⟩).t.r.ej,A (rD ⟨⟨ws,fu⟩,up,⟨⟨ak,ah,aj⟩,ai⟩,Y,aa⟩).t.version,.own 1,.own 2],.arr .bool (rD ⟨⟨ws,fu⟩,up,⟨⟨ak,ah,aj⟩,ai⟩,Y,aa⟩).cF,.arr .bool (rD ⟨⟨ws,fu⟩,up,⟨⟨ak,ah,aj⟩,ai⟩,Y,aa⟩).did])
 |_,_=>none

theorem Ma:bw 154 FZ:=b2 3 bv Tryz.func154 (by kernel_rfl) fun vs ar=>by
 unfold FZ;split;rotate_left;trivial;rename_i ws fu up ak ah aj ai Y aa;refine⟨by kernel_rfl,fun K D=>?_⟩;refine⟨1,?_⟩;refine ck (fun rec=>(by kernel_rfl:_=(
  K (.an []) [.box [af ws,A fu,ay up,A ak,af ah,A aj,A ai,.own 1,.own 2],.arr z.bool (c6 (len Y) (z.H z.bool)),.arr z.bool (c6 (len aa) (z.H z.bool))]))) ?_
 exact D

def OC:bd
 |[.one (.ptr 0 0),.one (.E (.list .int) r)],[.box [.E (.list .int) ws,.E .int fu,.E .bool up,.E .int ak,.E (.list .int) ah,.E .int aj,.E .int ai,.own 1,.own 2],.arr .bool Y,.arr .bool aa]=>some (some (eQ r),.one (ay (dJ ⟨⟨ws,fu⟩,up,⟨⟨ak,ah,aj⟩,ai⟩,Y,aa⟩ r).2),[.box [af (dJ ⟨⟨ws,fu⟩,up,⟨⟨ak,ah,aj⟩,ai⟩,Y,aa⟩ r).1.f.words,A (dJ ⟨⟨ws,fu⟩,up,⟨⟨ak,ah,aj⟩,ai⟩,Y,aa⟩ r).1.f.fuel,ay (dJ ⟨⟨ws,fu⟩,up,⟨⟨ak,ah,aj⟩,ai⟩,Y,aa⟩ r).1.up,A (dJ ⟨⟨ws,fu⟩,up,⟨⟨ak,ah,aj⟩,ai⟩,Y,aa⟩ r).1.t.r.version,af (dJ ⟨⟨ws,fu⟩,up,⟨⟨ak,ah,aj⟩,ai⟩,Y,aa⟩ r).1.t.r.keys,A (dJ ⟨⟨ws,fu⟩,up,⟨⟨ak,ah,aj⟩,ai⟩,Y,aa⟩ r).1.t.r.ej,A (dJ ⟨⟨ws,fu⟩,up,⟨⟨ak,ah,aj⟩,ai⟩,Y,aa⟩ r).1.t.version,.own 1,.own 2],.arr .bool (dJ ⟨⟨ws,fu⟩,up,⟨⟨ak,ah,aj⟩,ai⟩,Y,aa⟩ r).1.cF,.arr .bool (dJ ⟨⟨ws,fu⟩,up,⟨⟨ak,ah,aj⟩,ai⟩,Y,aa⟩ r).1.did])
 |_,_=>none
def XC:Ctx:=[(79,FV),(159,F0),(158,Cb),(154,FZ)]
theorem aeY(ws:aJ)(fu:Int)(up:Bool)(ak:Int)(ah:aJ)(aj ai:Int)(Y aa:c9)(r:aJ)(rec:bZ)(K:aW) v0 (b0:v0=bL ⟨ws,fu⟩) v1 (cd:v1=l4 ⟨v0.n,v0.version,v0.dv,v0.abort,v0.ended⟩) aC (cR:aC=iJ v1) v3 (ef:v3=fO ⟨ws,fu⟩ r v1) v4 (e1:v4=J (au v3.snd 7)
 (K (.one (ay (au v3.snd 0))) [.box [af v3.fst.words,A v3.fst.fuel,ay false,A ak,af ah,A aj,A ai,.own 1,.own 2],.arr z.bool (c6 (List.length Y) false),.arr z.bool (c6 (List.length aa) false)])
 (K (.one (ay (au v3.snd 0))) [.box [af v3.fst.words,A v3.fst.fuel,ay up,A ak,af ah,A aj,A ai,.own 1,.own 2],.arr z.bool Y,.arr z.bool aa])):b7 XC tab Tryz.f119 3 K rec [.code (bF Tryz.f119)] (df [.one (.ptr 0 0),.one (af r)] [.box [af ws,A fu,ay up,A ak,af ah,A aj,A ai,.own 1,.own 2],.arr z.bool Y,.arr z.bool aa])=(
 (List.length r<=140737488355328/\len v1*24<=140737488351232/\aC=true) /\
 J (!(au v3.snd 0))
 (J (!(au v3.snd 7))
 (K (.one (ay false)) [.box [af ws,A fu,ay up,A ak,af ah,A aj,A ai,.own 1,.own 2],.arr z.bool Y,.arr z.bool aa])
 v4)
 v4):=by subst_vars;kernel_rfl

theorem Mb:bw 119 OC:=b2 (Γ:=XC) 3 ((((bv.f Ma).f Ml).f ahp).f Wo) Tryz.func119 (by kernel_rfl) fun vs ar=>by
 unfold OC;split;rotate_left;trivial;rename_i r ws fu up ak ah aj ai Y aa;refine⟨by kernel_rfl,fun ag K D=>?_⟩;refine⟨1,?_⟩;rw[eO,aeY _ _ _ _ _ _ _ _ _ _ _ _ _ rfl _ rfl _ rfl _ rfl _ rfl];unfold dJ wh at D;simp only at D;have dY:(⟨(bL ⟨ws,fu⟩).n,(bL ⟨ws,fu⟩).version,(bL ⟨ws,fu⟩).dv,(bL ⟨ws,fu⟩).abort,(bL ⟨ws,fu⟩).ended⟩:bE.h0)=bL ⟨ws,fu⟩:=rfl;rw[dY];obtain⟨bK,bX⟩:=RI (bL ⟨ws,fu⟩);refine⟨⟨ag,by simp only[len];omega,bK⟩,?_⟩;obtain⟨fo,aw⟩:∃fo,fO ⟨ws,fu⟩ r (l4 (bL ⟨ws,fu⟩))=fo:=⟨_,rfl⟩
 rw[aw]at D |-;refine bN (fun h=>?_) (fun h=>?_)
 ·rw[if_neg h]at D;refine bN (fun G=>?_) (fun G=>?_)
  ·rw[if_neg G]at D;exact D
  ·rw[if_pos G]at D;refine ji G ?_;rw[show au fo.2 0=false from oy.2 h];exact D
 ·rw[if_pos h]at D;refine iC (by omega) ?_;rw[show au fo.2 0=true from kA.2 h];exact D

def F4:bd
 |[.agg [.E (.list .str) b],.one (.E (.list .signed) l),.agg [.E (.list .int) ws,.E .int fu,.E .bool up,.E .int ak,.E (.list .int) ah,.E .int aj,.E .int ai,.E (.list .bool) Y,.E (.list .bool) aa],.agg [.E (.list .root) rs,.E (.list (.list .int)) rg,.E .int bR,.E .int b4,.E (.list .target) ts,.E (.list .int) a7,.E (.list (.list .int)) bG],.one (.E .int now)],[]=>some (some (b.length<=140737488355328),.an [.agg (jB (iB b l ⟨⟨ws,fu⟩,up,⟨⟨ak,ah,aj⟩,ai⟩,Y,aa⟩ ⟨rs,rg,⟨bR,b4,ts⟩,a7,bG⟩ now).1),.one (A (iB b l ⟨⟨ws,fu⟩,up,⟨⟨ak,ah,aj⟩,ai⟩,Y,aa⟩ ⟨rs,rg,⟨bR,b4,ts⟩,a7,bG⟩ now).2.1),.one (A (iB b l ⟨⟨ws,fu⟩,up,⟨⟨ak,ah,aj⟩,ai⟩,Y,aa⟩ ⟨rs,rg,⟨bR,b4,ts⟩,a7,bG⟩ now).2.2)],[])
 |_,_=>none

theorem ahu:bw 112 F4:=b2 0 ((((((bv.f Ma).f Mb).f Ej).f ag4).f Ei).f Mc) Tryz.func112 (by kernel_rfl) fun vs ar=>by
 unfold F4;split;rotate_left;trivial;rename_i b l ws fu up ak ah aj ai Y aa rs rg bR b4 ts a7 bG now;refine⟨by kernel_rfl,fun ag K D=>?_⟩;refine⟨1,?_⟩;obtain⟨aC,cR⟩:∃aC,aC=g1 b l ⟨⟨ak,ah,aj⟩,ai⟩ ⟨rs,rg,⟨bR,b4,ts⟩,a7,bG⟩ now (len Y:Int):=⟨_,rfl⟩
 obtain⟨v3,ef⟩:∃v3,v3=dJ ⟨⟨ws,fu⟩,up,⟨⟨ak,ah,aj⟩,ai⟩,Y,aa⟩ ((1:Int)::W ((bL ⟨ws,fu⟩).n+1)::bR::[]):=⟨_,rfl⟩
 obtain⟨v4,e1⟩:∃v4,v4=J (au (bL ⟨ws,fu⟩).n 8)
  (K (.an [.agg [af [],A (0:Int),ay false,A (0:Int),af [],A (0:Int),A (0:Int),bj [],bj []],.one (A 0),.one (A 8)]) [])
  (List.length b<=140737488355328 /\
  J (!(au aC.snd 0))
  (K (.an [.agg [af [],A (0:Int),ay false,A (0:Int),af [],A (0:Int),A (0:Int),bj [],bj []],.one (A 0),.one (A aC.snd)]) [])
  ((len ws*8<=140737488355328/\len ah*8<=140737488355328/\len Y<=1000/\len aa<=1000) /\
  List.length ((1:Int)::W ((bL ⟨ws,fu⟩).n+1)::bR::[])<=140737488355328 /\
  J (!v3.snd)
  (K (.an [.agg (jB v3.fst),.one (A 0),.one (A 0)]) [])
  (K (.an [.agg [af v3.fst.f.words,A v3.fst.f.fuel,ay v3.fst.up,A aC.fst.r.version,af aC.fst.r.keys,A aC.fst.r.ej,A aC.fst.version,bj (c6 (List.length v3.fst.cF) false),bj (c6 (List.length v3.fst.did) false)],.one (A (W ((bL ⟨ws,fu⟩).n+1))),.one (A 0)]) []))):=⟨_,rfl⟩
 refine ck (fun rec=>(by subst e1 ef cR;kernel_rfl:_=(
  J (!(au (hP ⟨⟨ws,fu⟩,up,⟨⟨ak,ah,aj⟩,ai⟩,Y,aa⟩) 0))
  (K (.an [.agg [af [],A (0:Int),ay false,A (0:Int),af [],A (0:Int),A (0:Int),bj [],bj []],.one (A 0),.one (A (hP ⟨⟨ws,fu⟩,up,⟨⟨ak,ah,aj⟩,ai⟩,Y,aa⟩))]) [])
  (J (aN 0 (bL ⟨ws,fu⟩).n)
  (J (!(bL ⟨ws,fu⟩).ended)
  (K (.an [.agg [af [],A (0:Int),ay false,A (0:Int),af [],A (0:Int),A (0:Int),bj [],bj []],.one (A 0),.one (A 12)]) [])
  v4)
  v4)))) ?_
 subst e1 ef cR;unfold iB qn ou at D;simp only at D;have b0:=q0 ⟨ws,fu⟩;obtain⟨s,av⟩:∃s,bL ⟨ws,fu⟩=s:=⟨_,rfl⟩
 rw[av]at D b0 |-;obtain⟨t,bl⟩:∃t,g1 b l ⟨⟨ak,ah,aj⟩,ai⟩ ⟨rs,rg,⟨bR,b4,ts⟩,a7,bG⟩ now (Y.length:Int)=t:=⟨_,rfl⟩
 rw[show((len Y:Nat):Int)=(Y.length:Int)from rfl];rw[bl]at D |-;have mD:=b0.mD;have n2:=b0.n2;have zl:W (s.n+1)=s.n+1:=cc (by omega) (by omega);rw[zl];refine bN (fun h=>?_) (fun h=>?_)
 ·rw[if_neg h,if_neg h]at D;exact D
 have az:dM ⟨⟨ws,fu⟩,up,⟨⟨ak,ah,aj⟩,ai⟩,Y,aa⟩=0:=vD h;obtain⟨ix,jb,lc,o3⟩:=rp az;obtain⟨_,_,dV,gT,_⟩:=qZ (r:=[1,s.n+1,bR]) (im az).1;rw[if_pos h]at D
 by_cases c:0<s.n/\s.ended=false
 ·rw[if_pos c,if_neg (by omega)]at D;exact cS c.1 (JU c.2 D)
 rw[if_neg c]at D;have key:J (au s.n 8) (K (.an [.agg [af [],A (0:Int),ay false,A (0:Int),af [],A (0:Int),A (0:Int),bj [],bj []],.one (A (0:Int)),.one (A (8:Int))]) []) (((List.length b)<=140737488355328) /\
   (J (!(au t.2 (0:Int)))
    (K (.an [.agg [af [],A (0:Int),ay false,A (0:Int),af [],A (0:Int),A (0:Int),bj [],bj []],.one (A (0:Int)),.one (A t.2)]) [])
    (((((len ws)*8)<=140737488355328)/\((((len ah)*8)<=140737488355328)/\(((len Y)<=1000)/\((len aa)<=1000)))) /\
     (((List.length ((1:Int)::(s.n+1)::(bR::[])))<=140737488355328) /\
     (J (!(dJ ⟨⟨ws,fu⟩,up,⟨⟨ak,ah,aj⟩,ai⟩,Y,aa⟩ [1,s.n+1,bR]).2)
      (K (.an [.agg [af (((dJ ⟨⟨ws,fu⟩,up,⟨⟨ak,ah,aj⟩,ai⟩,Y,aa⟩ [1,s.n+1,bR]).1).f).words,A (((dJ ⟨⟨ws,fu⟩,up,⟨⟨ak,ah,aj⟩,ai⟩,Y,aa⟩ [1,s.n+1,bR]).1).f).fuel,ay ((dJ ⟨⟨ws,fu⟩,up,⟨⟨ak,ah,aj⟩,ai⟩,Y,aa⟩ [1,s.n+1,bR]).1).up,A ((((dJ ⟨⟨ws,fu⟩,up,⟨⟨ak,ah,aj⟩,ai⟩,Y,aa⟩ [1,s.n+1,bR]).1).t).r).version,af ((((dJ ⟨⟨ws,fu⟩,up,⟨⟨ak,ah,aj⟩,ai⟩,Y,aa⟩ [1,s.n+1,bR]).1).t).r).keys,A ((((dJ ⟨⟨ws,fu⟩,up,⟨⟨ak,ah,aj⟩,ai⟩,Y,aa⟩ [1,s.n+1,bR]).1).t).r).ej,A (((dJ ⟨⟨ws,fu⟩,up,⟨⟨ak,ah,aj⟩,ai⟩,Y,aa⟩ [1,s.n+1,bR]).1).t).version,bj ((dJ ⟨⟨ws,fu⟩,up,⟨⟨ak,ah,aj⟩,ai⟩,Y,aa⟩ [1,s.n+1,bR]).1).cF,bj ((dJ ⟨⟨ws,fu⟩,up,⟨⟨ak,ah,aj⟩,ai⟩,Y,aa⟩ [1,s.n+1,bR]).1).did],.one (A (0:Int)),.one (A (0:Int))]) [])
      (K (.an [.agg [af (((dJ ⟨⟨ws,fu⟩,up,⟨⟨ak,ah,aj⟩,ai⟩,Y,aa⟩ [1,s.n+1,bR]).1).f).words,A (((dJ ⟨⟨ws,fu⟩,up,⟨⟨ak,ah,aj⟩,ai⟩,Y,aa⟩ [1,s.n+1,bR]).1).f).fuel,ay ((dJ ⟨⟨ws,fu⟩,up,⟨⟨ak,ah,aj⟩,ai⟩,Y,aa⟩ [1,s.n+1,bR]).1).up,A ((t.fst).r).version,af ((t.fst).r).keys,A ((t.fst).r).ej,A (t.fst).version,bj (c6 (List.length ((dJ ⟨⟨ws,fu⟩,up,⟨⟨ak,ah,aj⟩,ai⟩,Y,aa⟩ [1,s.n+1,bR]).1).cF) false),bj (c6 (List.length ((dJ ⟨⟨ws,fu⟩,up,⟨⟨ak,ah,aj⟩,ai⟩,Y,aa⟩ [1,s.n+1,bR]).1).did) false)],.one (A (s.n+1)),.one (A (0:Int))]) [])))))):=by
  refine cz (fun bb=>?_) (fun bb=>?_)
  ·rw[if_pos bb,if_neg (by omega)]at D;exact D
  rw[if_neg bb]at D;refine⟨ag,bN (fun cr=>?_) (fun cr=>⟨⟨ix,jb,lc,o3⟩,by simp,?_⟩)⟩
  ·rw[if_neg cr]at D;exact D
  rw[if_pos cr]at D;rw[dV,gT];refine eF (fun du=>?_) (fun du=>?_)
  ·rw[if_neg (by rw[du];simp)]at D;exact D
  ·rw[if_pos du]at D;exact D
 refine bq (fun bA=>eF (fun bb=>absurd ⟨bA,bb⟩ c) (fun _=>key)) (fun _=>key)

def OP:bd
 |[.one (.ptr 0 0),.agg [.E (.list .root) rs,.E (.list (.list .int)) rg,.E .int bR,.E .int b4,.E (.list .target) ts,.E (.list .int) a7,.E (.list (.list .int)) bG]],[.box [.E (.list .str) aM,.E (.list .signed) vs,.E (.list .int) ws,.E .int fu,.E .bool up,.E .int ak,.E (.list .int) ah,.E .int aj,.E .int ai,.E (.list .bool) Y,.E (.list .bool) aa,.own 1,.own 2,.own 3,.E .int now],.arr .aT us,.arr .aU cs,.arr .message U]=>some (some (okW ⟨aM,vs,⟨⟨ws,fu⟩,up,⟨⟨ak,ah,aj⟩,ai⟩,Y,aa⟩,us,cs,U,now⟩=true),.one (A (k8 ⟨aM,vs,⟨⟨ws,fu⟩,up,⟨⟨ak,ah,aj⟩,ai⟩,Y,aa⟩,us,cs,U,now⟩ ⟨rs,rg,⟨bR,b4,ts⟩,a7,bG⟩).2),[.box (kX (k8 ⟨aM,vs,⟨⟨ws,fu⟩,up,⟨⟨ak,ah,aj⟩,ai⟩,Y,aa⟩,us,cs,U,now⟩ ⟨rs,rg,⟨bR,b4,ts⟩,a7,bG⟩).1 (.own 4) (.own 5) (.own 6)),.dead,.dead,.dead,.arr .aT (k8 ⟨aM,vs,⟨⟨ws,fu⟩,up,⟨⟨ak,ah,aj⟩,ai⟩,Y,aa⟩,us,cs,U,now⟩ ⟨rs,rg,⟨bR,b4,ts⟩,a7,bG⟩).1.aL,.arr .aU (k8 ⟨aM,vs,⟨⟨ws,fu⟩,up,⟨⟨ak,ah,aj⟩,ai⟩,Y,aa⟩,us,cs,U,now⟩ ⟨rs,rg,⟨bR,b4,ts⟩,a7,bG⟩).1.cp,.arr .message (k8 ⟨aM,vs,⟨⟨ws,fu⟩,up,⟨⟨ak,ah,aj⟩,ai⟩,Y,aa⟩,us,cs,U,now⟩ ⟨rs,rg,⟨bR,b4,ts⟩,a7,bG⟩).1.U])
 |_,_=>none
def XD:Ctx:=[(112,F4),(58,B6),(57,B5)]
theorem ae9(aM:cB)(vs:cD)(ws:aJ)(fu:Int)(up:Bool)(ak:Int)(ah:aJ)(aj ai:Int)(Y aa:c9)(us:c3)(cs:db)(U:cG)(now:Int)(rs:hE)(rg:cu)(bR b4:Int)(ts:LT)(a7:aJ)(bG:cu)(rec:bZ)(K:aW) v0 (b0:v0=iB aM vs ⟨⟨ws,fu⟩,up,⟨⟨ak,ah,aj⟩,ai⟩,Y,aa⟩ ⟨rs,rg,⟨bR,b4,ts⟩,a7,bG⟩ now) v1 (cd:v1=vr bG):jP XD tab Tryz.f61 4 K rec [.code (bF Tryz.f61)] (qQ [.one (.ptr 0 0),.agg [.E (z.list z.root) rs,cH rg,A bR,A b4,.E (z.list z.target) ts,af a7,cH bG]] [.box (en aM vs ws fu up ak ah aj ai Y aa (.own 1) (.own 2) (.own 3) now),.arr z.aT us,.arr z.aU cs,.arr z.message U])=(
 List.length aM<=140737488355328 /\
 J (!(au v0.snd.snd 0))
 (K (.one (A v0.snd.snd)) [.box (en aM vs ws fu up ak ah aj ai Y aa (.own 4) (.own 5) (.own 6) now),.dead,.dead,.dead,.arr z.aT us,.arr z.aU cs,.arr z.message U])
 (J (aN 0 v0.snd.fst)
 ((len bG<=1000/\v1=true) /\
 len ts*24<=140737488355328 /\
 ((0:Int)<=(0:Int)/\(0:Int)<=min (W (v0.snd.fst-1)) (len cs:Int)/\min (W (v0.snd.fst-1)) (len cs:Int)<=(len cs:Int)) /\
 (Int.toNat (min (W (v0.snd.fst-1)) (len cs:Int)-0)<=len cs/\(Int.toNat (min (W (v0.snd.fst-1)) (len cs:Int)-0)+len ((⟨v0.snd.fst,⟨bR,b4,ts⟩,bG⟩:nx)::[]))*72<=140737488355328) /\
 K (.one (A 0)) [.box [.E (z.list z.str) aM,.E (z.list z.signed) vs,af v0.fst.f.words,A v0.fst.f.fuel,ay v0.fst.up,A v0.fst.t.r.version,af v0.fst.t.r.keys,A v0.fst.t.r.ej,A v0.fst.t.version,bj v0.fst.cF,bj v0.fst.did,.own 4,.own 5,.own 6,A now],.dead,.dead,.dead,.arr z.aT us,.arr z.aU (cat (a2 cs 0 (Int.toNat (min (W (v0.snd.fst-1)) (len cs:Int)-0))) ((⟨v0.snd.fst,⟨bR,b4,ts⟩,bG⟩:nx)::[])),.arr z.message U])
 (K (.one (A 0)) [.box [.E (z.list z.str) aM,.E (z.list z.signed) vs,af v0.fst.f.words,A v0.fst.f.fuel,ay v0.fst.up,A v0.fst.t.r.version,af v0.fst.t.r.keys,A v0.fst.t.r.ej,A v0.fst.t.version,bj v0.fst.cF,bj v0.fst.did,.own 4,.own 5,.own 6,A now],.dead,.dead,.dead,.arr z.aT us,.arr z.aU cs,.arr z.message U]))):=by subst_vars;kernel_rfl

theorem ahV:bw 61 OP:=sc (Γ:=XD) 4 (((bv.f Wx).f Wy).f ahu) Tryz.func61 (by kernel_rfl) fun vs ar=>by
 unfold OP;split;rotate_left;trivial;rename_i rs rg bR b4 ts a7 bG aM vs ws fu up ak ah aj ai Y aa now us cs U;refine⟨by kernel_rfl,fun ag K D=>?_⟩;refine⟨1,?_⟩;rw[qF,ae9 _ _ _ _ _ _ _ _ _ _ _ _ _ _ _ _ _ _ _ _ _ _ _ _ _ rfl _ rfl];have aP:=p0.1 ag;have aA:=rn aP.b;have dZ:=aP.mu;obtain⟨gh,iM⟩:=aP.od;have aq:=aP.n;simp only at aA dZ iM aq;have CS:mS ⟨aM,vs,⟨⟨ws,fu⟩,up,⟨⟨ak,ah,aj⟩,ai⟩,Y,aa⟩,us,cs,U,now⟩ ⟨rs,rg,⟨bR,b4,ts⟩,a7,bG⟩=iB aM vs ⟨⟨ws,fu⟩,up,⟨⟨ak,ah,aj⟩,ai⟩,Y,aa⟩ ⟨rs,rg,⟨bR,b4,ts⟩,a7,bG⟩ now:=rfl;have jF:=Fp (v:=⟨aM,vs,⟨⟨ws,fu⟩,up,⟨⟨ak,ah,aj⟩,ai⟩,Y,aa⟩,us,cs,U,now⟩) (o:=⟨rs,rg,⟨bR,b4,ts⟩,a7,bG⟩);have zz:=Fo (b:=aM) (l:=vs) (g:=⟨⟨ws,fu⟩,up,⟨⟨ak,ah,aj⟩,ai⟩,Y,aa⟩) (o:=⟨rs,rg,⟨bR,b4,ts⟩,a7,bG⟩) (now:=now);unfold k8 at D;rw[CS]at D jF;obtain⟨B,bt⟩:∃B,iB aM vs ⟨⟨ws,fu⟩,up,⟨⟨ak,ah,aj⟩,ai⟩,Y,aa⟩ ⟨rs,rg,⟨bR,b4,ts⟩,a7,bG⟩ now=B:=⟨_,rfl⟩
 rw[bt]at D jF zz |-;refine⟨by omega,bN (fun h=>?_) (fun h=>bq (fun G=>?_) (fun G=>?_))⟩
 ·rw[if_neg h]at D;exact D
 ·rw[if_pos h]at D;obtain⟨_,_,_,_,bl,_⟩:=zz h;obtain⟨gm,hy,hM,p6,_⟩:=W8 bl;simp only at hy hM p6;rcases jF h with e|⟨_,aO,aX⟩
  ·omega
  have HM:min (W (B.2.1-1)) (((len cs):Nat):Int)=((min (B.2.1-1).toNat cs.length:Nat):Int):=by
   rw[cc (by omega) (by omega)];simp only[len];omega
  rw[HM,show Int.toNat (((min (B.2.1-1).toNat cs.length:Nat):Int)-0)=min (B.2.1-1).toNat cs.length by omega,LW,ai4];refine⟨⟨by simp only[len];omega,V7 p6⟩,by simp only[len];omega,⟨by omega,by omega,by simp only[len];omega⟩,⟨by simp only[len];omega,by simp only[len,List.length_cons,List.length_nil];omega⟩,?_⟩;unfold qp at D;simp only[if_pos G]at D;exact D
 ·rw[if_pos h]at D;unfold qp at D;simp only[if_neg (show ¬0<B.2.1 by omega)]at D;exact D

def Gr:bd
 |[.one (.own 0),.one (.E .int i),.one (.E .int j)],[.arr .message l]=>some (some (0<=i/\i<(l.length:Int)/\j=i+1/\l.length<=1000),.one (.view 0 0 (l.length-1)),[.arr .message (put (put l i.toNat (a2 l j.toNat l.length)) (l.length-1) (c6 1 (z.H z.message)))])
 |_,_=>none
def Ni:Ctx:=[]
theorem ads:fz Tryz.prog tab Ni:=bv
theorem ae6(l:cG)(i j:Int)(rec:bZ)(K:aW):jP Ni tab H5 1 K rec [.code (bF H5)] (df [.one (.own 0),.one (A i),.one (A j)] [.arr z.message l])=(
 ((0:Int)<=i/\i<=j/\j<=(len l:Int)/\(len l:Int)=(len l:Int)) /\
 J (au i j)
 (K (.one (.own 0)) [.arr z.message l])
 (((0:Int)<=(0:Int)/\(0:Int)<=i/\i<=(len l:Int)) /\
 ((0:Int)<=j/\j<=(len l:Int)/\(len l:Int)<=(len l:Int)) /\
 (Int.toNat j+Int.toNat ((len l:Int)-j)<=len l/\Int.toNat (i-0)+len (a2 l (Int.toNat j) (Int.toNat j+Int.toNat ((len l:Int)-j)))<=len l) /\
 ((0:Int)<=(((Int.toNat (i-0)+len (a2 l (Int.toNat j) (Int.toNat j+Int.toNat ((len l:Int)-j)))):Nat):Int)/\(((Int.toNat (i-0)+len (a2 l (Int.toNat j) (Int.toNat j+Int.toNat ((len l:Int)-j)))):Nat):Int)<=(len l:Int)/\(len l:Int)<=(((len (put l (Int.toNat (i-0)) (a2 l (Int.toNat j) (Int.toNat j+Int.toNat ((len l:Int)-j))))):Nat):Int)) /\
 Int.toNat (((Int.toNat (i-0)+len (a2 l (Int.toNat j) (Int.toNat j+Int.toNat ((len l:Int)-j)))):Nat):Int)+Int.toNat ((len l:Int)-(((Int.toNat (i-0)+len (a2 l (Int.toNat j) (Int.toNat j+Int.toNat ((len l:Int)-j)))):Nat):Int))<=len (put l (Int.toNat (i-0)) (a2 l (Int.toNat j) (Int.toNat j+Int.toNat ((len l:Int)-j)))) /\
 K (.one (.view 0 0 (Int.toNat (i-0)+len (a2 l (Int.toNat j) (Int.toNat j+Int.toNat ((len l:Int)-j)))))) [.arr z.message (put (put l (Int.toNat (i-0)) (a2 l (Int.toNat j) (Int.toNat j+Int.toNat ((len l:Int)-j)))) (Int.toNat (((Int.toNat (i-0)+len (a2 l (Int.toNat j) (Int.toNat j+Int.toNat ((len l:Int)-j)))):Nat):Int)) (c6 (Int.toNat ((len l:Int)-(((Int.toNat (i-0)+len (a2 l (Int.toNat j) (Int.toNat j+Int.toNat ((len l:Int)-j)))):Nat):Int))) (z.H z.message)))])):=by kernel_rfl

theorem age(ag:0<=i/\i<(l.length:Int)/\j=i+1/\l.length<=1000)(K:aW)(D:K (.one (.view 0 0 (l.length-1))) [.arr .message (put (put l i.toNat (a2 l j.toNat l.length)) (l.length-1) (c6 1 (z.H z.message)))]):XO Ni H5 1 K [.one (.own 0),.one (A i),.one (A j)] [.arr .message l]:=by
 obtain⟨fg,ft,hx,oY⟩:=ag;obtain⟨k,ad⟩:∃k:Nat,i=k:=⟨i.toNat,by omega⟩
 subst ad;subst hx;refine⟨1,?_⟩;rw[qF,ae6 _ _ _ _ _];have aO:((k:Int)-0).toNat=k:=by omega
 have aX:((k:Int)+1).toNat=k+1:=by omega
 have cY:(((len l:Nat):Int)-((k:Int)+1)).toNat=l.length-(k+1):=by simp only[len];omega
 have lQ:k+1+(l.length-(k+1))=l.length:=by omega
 have nJ:len (a2 l (k+1) l.length)=l.length-(k+1):=se l (k+1) l.length (Nat.le_refl _);have zi:k+(l.length-(k+1))=l.length-1:=by omega
 have sC:len (put l k (a2 l (k+1) l.length))=l.length:=DK l _ k (by have:(a2 l (k+1) l.length).length=l.length-(k+1):=nJ;omega);have PK:(((l.length-1:Nat):Int)).toNat=l.length-1:=by omega
 have Y6:(((len l:Nat):Int)-((l.length-1:Nat):Int)).toNat=1:=by simp only[len];omega
 have dY:((k:Int)).toNat=k:=by omega
 rw[aO,aX,cY,lQ,nJ,zi,sC,PK,Y6];rw[dY,aX]at D;exact⟨⟨by omega,by omega,by simp only[len];omega,rfl⟩,iC (by omega) ⟨⟨by omega,by omega,by simp only[len];omega⟩,⟨by omega,by simp only[len];omega,Int.le_refl _⟩,⟨by simp only[len];omega,by simp only[len];omega⟩,⟨by omega,by simp only[len];omega,Int.le_refl _⟩,by omega,D⟩⟩
theorem ahR:bw 114 Gr:=hN ads Tryz.func114 (by kernel_rfl) (by
 intro vs ar p v dB h ag;unfold Gr at h;split at h
 ·cases h;exact⟨by kernel_rfl,rfl,.inr (.inl (age _ _ _ ag.1 _ ⟨rfl,rfl⟩))⟩
 ·cases h)

def Gs:bd
 |[.one (.own 0),.one (.E .int i),.one (.E .int j)],[.arr .message l]=>some (some (0<=i/\i<(l.length:Int)/\j=i+1/\l.length<=1000),.one (.own 1),[.dead,.arr .message (l.eraseIdx i.toNat)])
 |_,_=>none
theorem YZ{α:Type}(l:List α)(k:Nat)(h:k<l.length)(d:List α):a2 (put (put l k (a2 l (k+1) l.length)) (l.length-1) d) 0 (l.length-1)=l.eraseIdx k:=by
 have nJ:(a2 l (k+1) l.length)=l.drop (k+1):=by simp[a2]
 have aO:put l k (a2 l (k+1) l.length)=l.take k++l.drop (k+1)++l.drop (k+(l.length-(k+1))):=by simp[put,nJ]
 have hlen:(l.take k++l.drop (k+1)).length=l.length-1:=by simp;omega
 rw[aO,List.eraseIdx_eq_take_drop_succ];simp only[a2,put,List.drop_zero];rw[List.take_append_of_le_length (by simp;omega),List.take_append_of_le_length (by simp;omega),List.take_append_of_le_length (by rw[hlen];exact Nat.le_refl _),<- hlen,List.take_length];rw[hlen,List.take_of_length_le (by rw[hlen];exact Nat.le_refl _)]
theorem Yb(l:cG)(i j:Int)(ag:0<=i/\i<(l.length:Int)/\j=i+1/\l.length<=1000):AC Tryz.prog tab 114 [.one (.own 0),.one (A i),.one (A j)] [.arr .message l] (.one (.own 1)) [.dead,.arr .message (l.eraseIdx i.toNat)]:=by
 obtain⟨fg,ft,hx,oY⟩:=ag;obtain⟨k,ad⟩:∃k:Nat,i=k:=⟨i.toNat,by omega⟩
 subst ad;subst hx;have dY:((k:Int)).toNat=k:=by omega
 have aX:((k:Int)+1).toNat=k+1:=by omega
 have e:=YZ l k (by omega) (c6 1 (z.H z.message));rw[dY,<- e];refine agU ahR.s [.one (.own 0),.one (A (k:Int)),.one (A ((k:Int)+1))] [.arr .message l] (some (both (some (0<=(k:Int)/\(k:Int)<(l.length:Int)/\(k:Int)+1=(k:Int)+1/\l.length<=1000)) (l.length-1<=len (put (put l k (a2 l (k+1) l.length)) (l.length-1) (c6 1 (z.H z.message)))))) _ _ ?_ ⟨⟨⟨fg,ft,rfl,oY⟩,?_⟩,trivial⟩
 ·have q:Gr [.one (.own 0),.one (A (k:Int)),.one (A ((k:Int)+1))] [.arr .message l]=some (some (0<=(k:Int)/\(k:Int)<(l.length:Int)/\(k:Int)+1=(k:Int)+1/\l.length<=1000),.one (.view 0 0 (l.length-1)),[.arr .message (put (put l k (a2 l (k+1) l.length)) (l.length-1) (c6 1 (z.H z.message)))]):=rfl;simp only[MO,q]
 ·simp only[len];have br:(a2 l (k+1) l.length).length=l.length-(k+1):=se l (k+1) l.length (Nat.le_refl _);have dm:=DK l (a2 l (k+1) l.length) k (by omega);have dZ:=DK (put l k (a2 l (k+1) l.length)) (c6 1 (z.H z.message)) (l.length-1) (by
   have dR:(c6 1 (z.H z.message)).length=1:=by simp[c6]
   omega)
  omega
theorem Wz:jf Tryz.prog tab 114 Gs:=by
 intro vs ar p v dB h ag;unfold Gs at h;split at h
 ·cases h;exact Yb _ _ _ ag.1
 ·cases h

def Ox:bd
 |[.one (.own 0),.one (.E .bool x)],[.arr .bool l]=>some (some (len l<=1000),.one (A (wT x 0 l)),[.arr .bool l])
 |_,_=>none
def EO:Ctx:=[]
def xq:List cw:=[.inLoop [8,7,4,0,1] (cZ wC [1,0,1,0,0]),.inBlock 0,.code (cZ wC [1,1])]
def Ku(F al M:Int)(ae:Bool)(ao:c9):bP:=⟨[(8,.one (A F)),(7,.one (A al)),(4,.one (A M)),(0,.one (.own 0)),(1,.one (ay ae))],[(0,.arr z.bool ao)],1⟩
theorem aeV(l:c9)(x:Bool)(rec:bZ)(K:aW):b7 EO tab wC 1 K rec [.code (bF wC)] (df [.one (.own 0),.one (ay x)] [.arr z.bool l])=(
 rec xq (Ku 0 (len l:Int) 0 x l)):=by kernel_rfl
theorem Ua{F:Int}{rec:bZ}{K:aW}{al M ae ao}{v0}(b0:v0=fun a=>Ku a al M ae ao):b7 EO tab wC 1 K rec (cQ xq) (v0 F)=(
 J (aN F al)
 (((0:Int)<=F/\F<(len ao:Int)) /\
 Int.toNat F<len ao /\
 J (jC ae (nth ao (Int.toNat F) (z.H z.bool)))
 (K (.one (A F)) [.arr z.bool ao])
 (rec xq (v0 (W (F+1)))))
 (K (.one (A (-1))) [.arr z.bool ao])):=by subst_vars;kernel_rfl

theorem SB(l:c9)(s:Bool)(ax:l.length<=1000)(K:aW):∀(d k:Nat),k+d=l.length->K (.one (A (wT s k (l.drop k)))) [.arr .bool l] ->
  cl EO tab wC 1 K (d+1) xq (Ku (k:Int) (((len l):Nat):Int) 0 s l)
 |0,k,ad,D=>by
  rw[bW (L:=xq),Ua rfl];rw[List.drop_of_length_le (by omega)]at D;exact co (by simp only[len];omega) D
 |d+1,k,ad,D=>by
  rw[bW (L:=xq),Ua rfl,cM];rw[ep (by omega) (z.H z.bool)]at D;simp only[wT]at D;refine cS (by simp only[len];omega) ⟨⟨by omega,by simp only[len];omega⟩,by simp only[len];omega,cn (fun h=>?_) (fun h=>?_)⟩
  ·rw[if_pos (of_decide_eq_true h).symm]at D;exact D
  ·rw[if_neg (fun e=>of_decide_eq_false h e.symm)]at D;rw[di (by omega)];exact SB l s ax K d (k+1) (by omega) D
theorem ahm:bw 144 Ox:=b2 (Γ:=EO) 1 bv Tryz.func144 (by kernel_rfl) fun vs ar=>by
 unfold Ox;split;rotate_left;trivial;rename_i x l;refine⟨by kernel_rfl,fun ag K D=>?_⟩;refine⟨l.length+2,?_⟩;rw[eO,aeV _ _ _ _];exact SB l x ag K l.length 0 (by omega) D

def FT:bd
 |[.one (.own 0),.one (.E .bool x)],[.arr .bool l]=>some (some (len l<=1000),.one (ay (hasB x l)),[.arr .bool l])
 |_,_=>none

theorem Wm:bw 92 FT:=b2 1 (bv.f ahm) Tryz.func92 (by kernel_rfl) fun vs ar=>by
 unfold FT;split;rotate_left;trivial;rename_i x l;refine⟨by kernel_rfl,fun ag K D=>?_⟩;refine⟨1,?_⟩;refine ck (fun rec=>(by kernel_rfl:_=(
  len l<=1000 /\
  K (.one (ay (dc 0 (wT x 0 l)))) [.arr z.bool l]))) ?_
 exact⟨ag,D⟩

def F2:bd
 |[.agg [.E .int eN,.E .int ki,.E .bool gc,.E .bool sN,.E .bool ge],.one (.E .int u),.one (.E .int n)],[]=>some (none,.agg [A (nd ⟨eN,ki,gc,sN,ge⟩ n),A u,A n,A 0,A 0,af [],ay false],[])
 |_,_=>none

theorem Wq:bw 160 F2:=b2 0 bv Tryz.func160 (by kernel_rfl) fun vs ar=>by
 unfold F2;split;rotate_left;trivial;rename_i eN ki gc sN ge u n;refine⟨by kernel_rfl,fun K D=>?_⟩;refine⟨1,?_⟩;obtain⟨v0,b0⟩:∃v0,v0=K (.agg [A (5:Int),A u,A n,A (0:Int),A (0:Int),af [],ay false]) []:=⟨_,rfl⟩
 refine ck (fun rec=>(by subst b0;kernel_rfl:_=(
  J gc
  (J (au eN n)
  (K (.agg [A (4:Int),A u,A n,A (0:Int),A (0:Int),af [],ay false]) [])
  v0)
  v0))) ?_
 subst b0;unfold nd at D;cases gc
 ·rw[if_neg (by simp)]at D;exact fa rfl D
 ·refine gb rfl (cz (fun h=>?_) (fun h=>?_))
  ·rw[if_pos ⟨rfl,h⟩]at D;exact D
  ·rw[if_neg (fun q=>h q.2)]at D;exact D

def F3:bd
 |[.agg [.E (.list .int) ws,.E .int fu,.E .bool up,.E .int ak,.E (.list .int) ah,.E .int aj,.E .int ai,.E (.list .bool) Y,.E (.list .bool) aa],.agg [.E .int mk,.E .int a8,.E .int ba,.E .int bD,.E .int cg,.E (.list .int) bT,.E .bool cy]],[]=>some (none,.an [.agg (jB (hK ⟨⟨ws,fu⟩,up,⟨⟨ak,ah,aj⟩,ai⟩,Y,aa⟩ ⟨mk,a8,ba,bD,cg,bT,cy⟩).1.1),.one (bB (hK ⟨⟨ws,fu⟩,up,⟨⟨ak,ah,aj⟩,ai⟩,Y,aa⟩ ⟨mk,a8,ba,bD,cg,bT,cy⟩).1.2),.one (A (hK ⟨⟨ws,fu⟩,up,⟨⟨ak,ah,aj⟩,ai⟩,Y,aa⟩ ⟨mk,a8,ba,bD,cg,bT,cy⟩).2)],[])
 |_,_=>none

theorem ahr:bw 155 F3:=b2 0 ((((((bv.f Wq).f Mb).f Wm).f Wo).f Ej).f yq) Tryz.func155 (by kernel_rfl) fun vs ar=>by
 unfold F3;split;rotate_left;trivial;rename_i ws fu up ak ah aj ai Y aa mk a8 ba bD cg bT cy;dsimp only[z.den]at ws fu up ak ah aj ai Y aa mk a8 ba bD cg bT cy;refine⟨by kernel_rfl,fun K D=>?_⟩;refine⟨1,?_⟩;obtain⟨v1,cd⟩:∃v1,v1=bL ⟨ws,fu⟩:=⟨_,rfl⟩
 obtain⟨dF,iG⟩:∃dF,dF=J (au mk 3)
  (K (.an [.agg [af ws,A fu,ay up,A ak,af ah,A aj,A ai,bj Y,bj aa],.one (bB []),.one (A 0)]) [])
  (J (au mk 6)
  (K (.an [.agg [af ws,A fu,ay up,A ak,af ah,A aj,A ai,bj Y,bj aa],.one (bB []),.one (A 0)]) [])
  (J (au mk 7)
  (K (.an [.agg [af ws,A fu,ay up,A ak,af ah,A aj,A ai,bj Y,bj aa],.one (bB ((⟨nd ⟨v1.n,v1.version,v1.dv,v1.abort,v1.ended⟩ ba,a8,ba,0,0,[],false⟩:fC)::[])),.one (A 0)]) [])
  (K (.an [.agg [af ws,A fu,ay up,A ak,af ah,A aj,A ai,bj Y,bj aa],.one (bB []),.one (A 0)]) []))):=⟨_,rfl⟩
 obtain⟨eG,kI⟩:∃eG,eG=J (!(hasB false (setAt aa (Int.toNat a8) true)))
  (List.length ((4:Int)::v1.n::[])<=140737488355328 /\
  K (.an [.agg (jB (dJ ⟨⟨ws,fu⟩,up,⟨⟨ak,ah,aj⟩,ai⟩,Y,setAt aa (Int.toNat a8) true⟩ ((4:Int)::v1.n::[])).fst),.one (bB []),.one (A 0)]) [])
  (K (.an [.agg [af ws,A fu,ay up,A ak,af ah,A aj,A ai,bj Y,bj (setAt aa (Int.toNat a8) true)],.one (bB []),.one (A 0)]) []):=⟨_,rfl⟩
 obtain⟨v9,j3⟩:∃v9,v9=K (.an [.agg [af ws,A fu,ay up,A ak,af ah,A aj,A ai,bj Y,bj aa],.one (bB ((⟨nd ⟨v1.n,v1.version,v1.dv,v1.abort,v1.ended⟩ ba,a8,ba,0,0,[],false⟩:fC)::[])),.one (A 0)]) []:=⟨_,rfl⟩
 obtain⟨v10,m9⟩:∃v10,v10=K (.an [.agg [af [],A (0:Int),ay false,A (0:Int),af [],A (0:Int),A (0:Int),bj [],bj []],.one (bB []),.one (A 3)]) []:=⟨_,rfl⟩
 obtain⟨v11,oR⟩:∃v11,v11=K (.an [.agg [af ws,A fu,ay up,A ak,af ah,A aj,A ai,bj Y,bj aa],.one (bB []),.one (A 0)]) []:=⟨_,rfl⟩
 refine ck (fun rec=>(by subst oR m9 j3 kI iG cd;kernel_rfl:_=(
  J (!(au (dM ⟨⟨ws,fu⟩,up,⟨⟨ak,ah,aj⟩,ai⟩,Y,aa⟩) 0))
  (K (.an [.agg [af [],A (0:Int),ay false,A (0:Int),af [],A (0:Int),A (0:Int),bj [],bj []],.one (bB []),.one (A (dM ⟨⟨ws,fu⟩,up,⟨⟨ak,ah,aj⟩,ai⟩,Y,aa⟩))]) [])
  (J (aN a8 0)
  v10
  (J (dc (len Y:Int) a8)
  v10
  (J (aN ba 1)
  v10
  (J (aN 8 ba)
  v10
  ((len ws*8<=140737488355328/\len ah*8<=140737488355328/\len Y<=1000/\len aa<=1000) /\
  J (!up)
  v11
  (J (au v1.n ba)
  (J v1.dv
  (J (au mk 3)
  (J (!(!v1.ended))
  v11
  v11)
  (J (au mk 6)
  (J (!(!v1.ended))
  v11
  (((0:Int)<=a8/\a8<(len aa:Int)) /\
  Int.toNat a8<len aa /\
  len (setAt aa (Int.toNat a8) true)<=1000 /\
  eG))
  (J (au mk 7)
  (J (!(!v1.ended))
  v9
  v9)
  v11)))
  (J (au mk 3)
  (J (!(!v1.ended))
  v11
  (J v1.abort
  v11
  (J (!cy)
  v11
  (((0:Int)<=a8/\a8<(len Y:Int)) /\
  Int.toNat a8<len Y /\
  len (setAt Y (Int.toNat a8) true)<=1000 /\
  J (!(hasB false (setAt Y (Int.toNat a8) true)))
  (List.length ((2:Int)::v1.n::[])<=140737488355328 /\
  K (.an [.agg (jB (dJ ⟨⟨ws,fu⟩,up,⟨⟨ak,ah,aj⟩,ai⟩,setAt Y (Int.toNat a8) true,aa⟩ ((2:Int)::v1.n::[])).fst),.one (bB []),.one (A 0)]) [])
  (K (.an [.agg [af ws,A fu,ay up,A ak,af ah,A aj,A ai,bj (setAt Y (Int.toNat a8) true),bj aa],.one (bB []),.one (A 0)]) [])))))
  (J (au mk 6)
  (J (!(!v1.ended))
  v11
  (J (!v1.abort)
  v11
  (((0:Int)<=a8/\a8<(len aa:Int)) /\
  Int.toNat a8<len aa /\
  len (setAt aa (Int.toNat a8) true)<=1000 /\
  eG)))
  (J (au mk 7)
  (J (!(!v1.ended))
  v9
  (J v1.abort
  v9
  v11))
  v11))))
  (J v1.dv
  dF
  dF)))))))))) ?_
 subst oR m9 j3 kI iG cd;refine bN (fun h=>?_) (fun h=>?_)
 ·rw[show hK ⟨⟨ws,fu⟩,up,⟨⟨ak,ah,aj⟩,ai⟩,Y,aa⟩ ⟨mk,a8,ba,bD,cg,bT,cy⟩=((n6,[]),dM ⟨⟨ws,fu⟩,up,⟨⟨ak,ah,aj⟩,ai⟩,Y,aa⟩)from by unfold hK rL;rw[if_neg h,if_neg h]]at D;exact D
 have tf:((len Y:Nat):Int)=(Y.length:Int):=rfl;have nZ:((len aa:Nat):Int)=(aa.length:Int):=rfl;rw[tf,nZ]
 by_cases c:a8<0\/(Y.length:Int)<=a8\/ba<1\/8<ba
 ·rw[show hK ⟨⟨ws,fu⟩,up,⟨⟨ak,ah,aj⟩,ai⟩,Y,aa⟩ ⟨mk,a8,ba,bD,cg,bT,cy⟩=((n6,[]),3)from by
   have e:rL ⟨⟨ws,fu⟩,up,⟨⟨ak,ah,aj⟩,ai⟩,Y,aa⟩ ⟨mk,a8,ba,bD,cg,bT,cy⟩=3:=by unfold rL;rw[if_pos h,if_pos (by exact c)]
   unfold hK;rw[e,if_neg (by decide)]]at D
  exact bq (fun _=>D) (fun _=>cn (fun _=>D) (fun G=>bq (fun _=>D) (fun _=>cS (by rw[eC]at G;omega) D)))
 obtain⟨ix,jb,lc,o3⟩:=rp h;obtain⟨_,v1,aC,v3,_⟩:=im h;simp only at v1 aC v3;refine co (by omega) (fa (eC.2 (by omega)) (co (by omega) (co (by omega) ⟨⟨ix,jb,lc,o3⟩,?_⟩)));rw[QG h (by simp only;omega)]at D;have Ae:len (setAt Y (Int.toNat a8) true)<=1000:=by simp only[len,tB];omega
 have Ad:len (setAt aa (Int.toNat a8) true)<=1000:=by simp only[len,tB];omega
 have Dp:Int.toNat a8<len Y:=by simp only[len];omega
 have Dn:Int.toNat a8<len aa:=by simp only[len];omega
 unfold iu at D;cases up
 ·rw[if_neg (by simp)]at D;exact JU rfl D
 rw[if_pos rfl]at D;refine Aq rfl ?_;obtain⟨s,av⟩:∃s,bL ⟨ws,fu⟩=s:=⟨_,rfl⟩
 simp only[av]at D |-;rw[show(⟨s.n,s.version,s.dv,s.abort,s.ended⟩:bE.h0)=s from rfl];obtain⟨g,bs⟩:∃g:tY,(⟨⟨ws,fu⟩,true,⟨⟨ak,ah,aj⟩,ai⟩,Y,aa⟩:tY)=g:=⟨_,rfl⟩
 have m3:gZ g s ⟨mk,a8,ba,bD,cg,bT,cy⟩=(g,[])->K (.an [.agg [af ws,A fu,ay true,A ak,af ah,A aj,A ai,bj Y,bj aa],.one (bB []),.one (A (0:Int))]) []:=fun e=>by rw[bs,e,<- bs]at D;exact D
 have rG:gZ g s ⟨mk,a8,ba,bD,cg,bT,cy⟩=(g,[qv s a8 ba])->K (.an [.agg [af ws,A fu,ay true,A ak,af ah,A aj,A ai,bj Y,bj aa],.one (bB [⟨nd s ba,a8,ba,0,0,[],false⟩]),.one (A (0:Int))]) []:=fun e=>by rw[bs,e,<- bs]at D;exact D
 have Ip:gZ g s ⟨mk,a8,ba,bD,cg,bT,cy⟩=(o8 g a8,[])->K (.an [.agg [af ws,A fu,ay true,A ak,af ah,A aj,A ai,bj (setAt Y (Int.toNat a8) true),bj aa],.one (bB []),.one (A (0:Int))]) []:=fun e=>by rw[bs,e,<- bs]at D;exact D
 have Ir:gZ g s ⟨mk,a8,ba,bD,cg,bT,cy⟩=(ox g a8,[])->K (.an [.agg [af ws,A fu,ay true,A ak,af ah,A aj,A ai,bj Y,bj (setAt aa (Int.toNat a8) true)],.one (bB []),.one (A (0:Int))]) []:=fun e=>by rw[bs,e,<- bs]at D;exact D
 have Iq:gZ g s ⟨mk,a8,ba,bD,cg,bT,cy⟩=((dJ (o8 g a8) [2,s.n]).1,[])->K (.an [.agg (jB (dJ ⟨⟨ws,fu⟩,true,⟨⟨ak,ah,aj⟩,ai⟩,setAt Y (Int.toNat a8) true,aa⟩ [2,s.n]).1),.one (bB []),.one (A (0:Int))]) []:=fun e=>by rw[bs,e,<- bs]at D;exact D
 have Is:gZ g s ⟨mk,a8,ba,bD,cg,bT,cy⟩=((dJ (ox g a8) [4,s.n]).1,[])->K (.an [.agg (jB (dJ ⟨⟨ws,fu⟩,true,⟨⟨ak,ah,aj⟩,ai⟩,Y,setAt aa (Int.toNat a8) true⟩ [4,s.n]).1),.one (bB []),.one (A (0:Int))]) []:=fun e=>by rw[bs,e,<- bs]at D;exact D
 clear D;have CC:(o8 g a8).cF=setAt Y (Int.toNat a8) true:=by rw[<- bs];rfl
 have Cw:(ox g a8).did=setAt aa (Int.toNat a8) true:=by rw[<- bs];rfl
 have ab:mk=3->gZ g s ⟨mk,a8,ba,bD,cg,bT,cy⟩=if s.n≠ba\/s.ended=true\/s.dv=true\/s.abort=true\/cy=false then(g,[])else(sj g s a8,[]):=fun e=>by unfold gZ;rw[if_pos (by exact e)]
 have bV:mk=6->gZ g s ⟨mk,a8,ba,bD,cg,bT,cy⟩=if s.n≠ba\/s.ended=true\/(s.dv=false/\s.abort=false)then(g,[])else(rv g s a8,[]):=fun e=>by unfold gZ;rw[if_neg (by simp only;omega),if_pos (by exact e)]
 have dm:mk=7->gZ g s ⟨mk,a8,ba,bD,cg,bT,cy⟩=if s.n≠ba\/s.ended=true\/s.dv=true\/s.abort=true then(g,[qv s a8 ba])else(g,[]):=fun e=>by unfold gZ;rw[if_neg (by simp only;omega),if_neg (by simp only;omega),if_pos (by exact e)]
 have a6:mk≠3->mk≠6->mk≠7->gZ g s ⟨mk,a8,ba,bD,cg,bT,cy⟩=(g,[]):=fun a b c=>by unfold gZ;rw[if_neg (by exact a),if_neg (by exact b),if_neg (by exact c)]
 have rI:(s.dv=true\/s.dv=false):=by cases s.dv<;>simp
 have zB:(s.abort=true\/s.abort=false):=by cases s.abort<;>simp
 have IB:(s.ended=true\/s.ended=false):=by cases s.ended<;>simp
 by_cases aq:s.n=ba
 ·refine ji aq ?_;rcases rI with az|az<;>rcases zB with bh|bh<;>rcases IB with bp|bp<;>rw[az,bp]<;>rw[az,bh,bp,aq]at ab bV dm<;>simp only[ne_eq,not_true_eq_false,Bool.true_eq_false,Bool.false_eq_true,true_or,or_true,false_or,or_false,and_false,false_and,and_true,true_and,and_self,if_true,if_false,Bool.not_eq_false]at ab bV dm
  all_goals
   try rw[bh]
   try simp only[J,Bool.not_true,Bool.not_false]
   refine cz (fun k=>?_) (fun dh=>cz (fun k=>?_) (fun jr=>cz (fun k=>?_) (fun lv=>m3 (a6 dh jr lv))))
   ·first
     |exact m3 (ab k)
     |(refine eF (fun q=>m3 (by rw[ab k,if_pos q])) (fun q=>⟨⟨by omega,by omega⟩,Dp,Ae,?_⟩)
       refine eF (fun cE=>⟨by simp,Iq (by rw[ab k,if_neg (by rw[q];simp)];unfold sj;rw[CC,cE];rfl)⟩) (fun cE=>Ip (by rw[ab k,if_neg (by rw[q];simp)];unfold sj;rw[CC,cE];rfl)))
   ·first
     |exact m3 (bV k)
     |(refine⟨⟨by omega,by omega⟩,Dn,Ad,eF (fun cE=>⟨by simp,Is (by rw[bV k];unfold rv;rw[Cw,cE];rfl)⟩) (fun cE=>Ir (by rw[bV k];unfold rv;rw[Cw,cE];rfl))⟩)
   ·first
     |exact rG (dm k)
     |exact m3 (dm k)
 ·refine iC aq ?_;rw[if_pos (.inl aq)]at ab bV dm;refine cn (fun _=>?_) (fun _=>?_)<;>exact cz (fun k=>m3 (ab k)) (fun dh=>cz (fun k=>m3 (bV k)) (fun jr=>cz (fun k=>rG (dm k)) (fun lv=>m3 (a6 dh jr lv))))

def Oi:bd
 |[.one (.E (.list (.list .int)) l)],[]=>some (some (len l<=1000/\tl l=true),.agg [A (hO l).slot,A (hO l).eV,A (hO l).ready],[])
 |_,_=>none
def Bg:Ctx:=[]
def p2:List cw:=[.inLoop [8,7,6,3,2] (Code.sub (bF Tryz.f137) [1,1,0,1,0,0]),.inBlock 0,.code (Code.sub (bF Tryz.f137) [1,1,1])]
def DM(F al:Int)(M:cu)(ae ao aE aH aS aZ:Int):bP:=⟨[(8,.one (A F)),(7,.one (A al)),(6,.one (cH M)),(3,.one (.ptr 0 0)),(2,.one (.ptr 1 0))],[(0,.box [A ae,A ao,A aE]),(1,.box [A aH,A aS,A aZ])],2⟩
theorem aeM(l:cu)(rec:bZ)(K:aW):b7 Bg tab Tryz.f137 0 K rec [.code (bF Tryz.f137)] (df [.one (cH l)] [])=(
 rec p2 (DM 0 (len l:Int) l 0 0 0 0 0 0)):=by kernel_rfl
theorem T5{F ae ao aE:Int}{rec:bZ}{K:aW}{al M aH aS aZ}{v0 aC v1}(b0:v0=fun a b c d=>DM a al M b c d aH aS aZ)(cR:aC=J (au (nth (nth M (Int.toNat F) (z.H (z.list z.int))) (Int.toNat 0) (z.H z.int)) 3)
 (J (au (((len (nth M (Int.toNat F) (z.H (z.list z.int)))):Nat):Int) 2)
 (rec p2 (v0 (W (F+1)) ae ao 0))
 (rec p2 (v0 (W (F+1)) ae ao aE)))
 (rec p2 (v0 (W (F+1)) ae ao aE))) (cd:v1=J (au (nth (nth M (Int.toNat F) (z.H (z.list z.int))) (Int.toNat 0) (z.H z.int)) 2)
 (J (au (((len (nth M (Int.toNat F) (z.H (z.list z.int)))):Nat):Int) 2)
 (((0:Int)<=(1:Int)/\(1:Int)<(((len (nth M (Int.toNat F) (z.H (z.list z.int)))):Nat):Int)) /\
 rec p2 (v0 (W (F+1)) ae ao (nth (nth M (Int.toNat F) (z.H (z.list z.int))) (Int.toNat 1) (z.H z.int))))
 (((0:Int)<=(0:Int)/\(0:Int)<(((len (nth M (Int.toNat F) (z.H (z.list z.int)))):Nat):Int)) /\
 aC))
 (((0:Int)<=(0:Int)/\(0:Int)<(((len (nth M (Int.toNat F) (z.H (z.list z.int)))):Nat):Int)) /\
 aC)):b7 Bg tab Tryz.f137 0 K rec (cQ p2) (v0 F ae ao aE)=(
 J (aN F al)
 (((0:Int)<=F/\F<(len M:Int)) /\
 ((0:Int)<=(0:Int)/\(0:Int)<(((len (nth M (Int.toNat F) (z.H (z.list z.int)))):Nat):Int)) /\
 J (au (nth (nth M (Int.toNat F) (z.H (z.list z.int))) (Int.toNat 0) (z.H z.int)) 1)
 (J (au (((len (nth M (Int.toNat F) (z.H (z.list z.int)))):Nat):Int) 3)
 (((0:Int)<=(1:Int)/\(1:Int)<(((len (nth M (Int.toNat F) (z.H (z.list z.int)))):Nat):Int)) /\
 J (dc (nth (nth M (Int.toNat F) (z.H (z.list z.int))) (Int.toNat 1) (z.H z.int)) 1)
 (((0:Int)<=(1:Int)/\(1:Int)<(((len (nth M (Int.toNat F) (z.H (z.list z.int)))):Nat):Int)) /\
 ((0:Int)<=(2:Int)/\(2:Int)<(((len (nth M (Int.toNat F) (z.H (z.list z.int)))):Nat):Int)) /\
 rec p2 (v0 (W (F+1)) (nth (nth M (Int.toNat F) (z.H (z.list z.int))) (Int.toNat 1) (z.H z.int)) (nth (nth M (Int.toNat F) (z.H (z.list z.int))) (Int.toNat 2) (z.H z.int)) 0))
 (((0:Int)<=(0:Int)/\(0:Int)<(((len (nth M (Int.toNat F) (z.H (z.list z.int)))):Nat):Int)) /\
 v1))
 (((0:Int)<=(0:Int)/\(0:Int)<(((len (nth M (Int.toNat F) (z.H (z.list z.int)))):Nat):Int)) /\
 v1))
 (((0:Int)<=(0:Int)/\(0:Int)<(((len (nth M (Int.toNat F) (z.H (z.list z.int)))):Nat):Int)) /\
 v1))
 (K (.agg [A ae,A ao,A aE]) [])):=by subst_vars;kernel_rfl

theorem Sw(l:cu)(ax:l.length<=1000)(aq:tl l=true)(K:aW)(aH aS aZ:Int):∀(d k:Nat) (a b c:Int),k+d=l.length->K (.agg [A ((l.drop k).foldl g8 ⟨a,b,c⟩).slot,A ((l.drop k).foldl g8 ⟨a,b,c⟩).eV,A ((l.drop k).foldl g8 ⟨a,b,c⟩).ready]) [] ->
  cl Bg tab Tryz.f137 0 K (d+1) p2 (DM (k:Int) (((len l):Nat):Int) l a b c aH aS aZ)
 |0,k,a,b,c,ad,D=>by
  rw[bW (L:=p2),T5 rfl rfl rfl];rw[List.drop_of_length_le (by omega)]at D;exact co (by simp only[len];omega) D
 |d+1,k,a,b,c,ad,D=>by
  rw[bW (L:=p2),T5 rfl rfl rfl,cM];have aB:nth l k (z.H (z.list z.int))∈l:=by
   have:k<l.length:=by omega
   simp[nth,List.getD_eq_getElem?_getD,this]
  have a6:0<(nth l k (z.H (z.list z.int))).length:=by simpa using List.all_eq_true.1 aq _ aB
  rw[ep (by omega) (z.H (z.list z.int))]at D;obtain⟨r,aw⟩:∃r,nth l k (z.H (z.list z.int))=r:=⟨_,rfl⟩
  rw[aw]at D a6 |-;rw[List.foldl_cons]at D;have hv:W ((k:Int)+1)=((k+1:Nat):Int):=di (by omega);rw[hv];have kp:∀et fq fK:Int,g8 ⟨a,b,c⟩ r=⟨et,fq,fK⟩->cl Bg tab Tryz.f137 0 K (d+1) p2 (DM ((k+1:Nat):Int) (((len l):Nat):Int) l et fq fK aH aS aZ):=fun et fq fK e=>by
   rw[e]at D;exact Sw l ax aq K aH aS aZ d (k+1) et fq fK (by omega) D
  obtain⟨iL,dY⟩:∃iL,r.getD 0 0=iL:=⟨_,rfl⟩
  obtain⟨gh,aO⟩:∃gh,r.getD 1 0=gh:=⟨_,rfl⟩
  obtain⟨jc,aX⟩:∃jc,r.getD 2 0=jc:=⟨_,rfl⟩
  have es:g8 ⟨a,b,c⟩ r=if iL=1/\r.length=3/\gh<=1 then⟨gh,jc,0⟩else if iL=2/\r.length=2 then⟨a,b,gh⟩else if iL=3/\r.length=2 then⟨a,b,0⟩else⟨a,b,c⟩:=by
   unfold g8;rw[dY,aO,aX]
  rw[show nth r (Int.toNat 0) (z.H z.int)=iL from dY,show nth r (Int.toNat 1) (z.H z.int)=gh from aO,show nth r (Int.toNat 2) (z.H z.int)=jc from aX];have hlen:len r=r.length:=rfl;rw[hlen];rw[es]at kp;clear D es;refine cS (by simp only[len];omega) ⟨⟨by omega,by simp only[len];omega⟩,⟨by omega,by omega⟩,?_⟩
  by_cases bA:iL=1
  ·refine ji bA (cz (fun G=>⟨⟨by omega,by omega⟩,cn (fun ab=>?_) (fun ab=>?_)⟩) (fun G=>?_))
   ·rw[fV]at ab;exact⟨⟨by omega,by omega⟩,⟨by omega,by omega⟩,kp _ _ _ (if_pos ⟨bA,by omega,ab⟩)⟩
   ·rw[eC]at ab;exact⟨⟨by omega,by omega⟩,iC (by omega) ⟨⟨by omega,by omega⟩,iC (by omega) (kp _ _ _ (by rw[if_neg (by omega),if_neg (by omega),if_neg (by omega)]))⟩⟩
   ·exact⟨⟨by omega,by omega⟩,iC (by omega) ⟨⟨by omega,by omega⟩,iC (by omega) (kp _ _ _ (by rw[if_neg (by omega),if_neg (by omega),if_neg (by omega)]))⟩⟩
  ·refine iC bA ⟨⟨by omega,by omega⟩,?_⟩
   by_cases bb:iL=2
   ·refine ji bb (cz (fun G=>⟨⟨by omega,by omega⟩,kp _ _ _ (by rw[if_neg (by omega),if_pos (by omega)])⟩) (fun G=>⟨⟨by omega,by omega⟩,iC (by omega) (kp _ _ _ (by rw[if_neg (by omega),if_neg (by omega),if_neg (by omega)]))⟩))
   ·refine iC bb ⟨⟨by omega,by omega⟩,cz (fun ab=>cz (fun aV=>kp _ _ _ (by rw[if_neg (by omega),if_neg (by omega),if_pos (by omega)])) (fun aV=>kp _ _ _ (by rw[if_neg (by omega),if_neg (by omega),if_neg (by omega)]))) (fun ab=>kp _ _ _ (by rw[if_neg (by omega),if_neg (by omega),if_neg (by omega)]))⟩
theorem ag7:bw 137 Oi:=b2 (Γ:=Bg) 0 bv Tryz.func137 (by kernel_rfl) fun vs ar=>by
 unfold Oi;split;rotate_left;trivial;rename_i l;refine⟨by kernel_rfl,fun ag K D=>?_⟩;refine⟨l.length+2,?_⟩;rw[eO,aeM _ _ _];exact Sw l ag.1 ag.2 K 0 0 0 l.length 0 0 0 0 (by omega) D

def Oj:bd
 |[.agg [.E (.list .int) ws,.E .int fu,.E .bool _,.E .int _,.E .int _]],[]=>some (none,.agg [A (c2 ⟨ws,fu⟩).slot,A (c2 ⟨ws,fu⟩).eV,A (c2 ⟨ws,fu⟩).ready],[])
 |_,_=>none

theorem Eh:bw 78 Oj:=b2 0 ((bv.f ag7).f Mk) Tryz.func78 (by kernel_rfl) fun vs ar=>by
 unfold Oj;split;rotate_left;trivial;rename_i ws fu up bu bx;refine⟨by kernel_rfl,fun K D=>?_⟩;refine⟨1,?_⟩;refine ck (fun rec=>(by kernel_rfl:_=(
  (len (j8 ⟨ws,fu⟩).fst<=1000/\tl (j8 ⟨ws,fu⟩).fst=true) /\
  K (.agg [A (hO (j8 ⟨ws,fu⟩).fst).slot,A (hO (j8 ⟨ws,fu⟩).fst).eV,A (hO (j8 ⟨ws,fu⟩).fst).ready]) []))) ?_
 have h:=AH ⟨ws,fu⟩;exact⟨⟨by simp only[len];omega,JS h.2⟩,D⟩

def O8:bd
 |[.agg [.E (.list .int) ws,.E .int fu],.one (.E .int slot)],[]=>some (none,.one (A (eY ⟨ws,fu⟩ slot)),[])
 |_,_=>none

theorem AX:bw 134 O8:=b2 0 (bv.f AY) Tryz.func134 (by kernel_rfl) fun vs ar=>by
 unfold O8;split;rotate_left;trivial;rename_i ws fu slot;refine⟨by kernel_rfl,fun K D=>?_⟩;refine⟨1,?_⟩;refine ck (fun rec=>(by kernel_rfl:_=(
  J (!(au (e3 (⟨ws,fu⟩:cm)) 0))
  (K (.one (A (e3 (⟨ws,fu⟩:cm)))) [])
  (J (!(au (len ws:Int) 192))
  (K (.one (A 4)) [])
  (J (!(au slot 0))
  (J (!(au slot 1))
  (K (.one (A 5)) [])
  (K (.one (A 0)) []))
  (K (.one (A 0)) [])))))) ?_
 unfold eY at D;refine bN (fun h=>?_) (fun h=>?_)
 ·rw[if_neg h]at D;exact D
 rw[if_pos h]at D;refine bN (fun G=>?_) (fun G=>?_)
 ·rw[if_neg (by simp only[len]at G |-; omega)]at D;exact D
 rw[if_pos (by simp only[len]at G |-; omega)]at D;refine bN (fun ab=>bN (fun aV=>?_) (fun aV=>?_)) (fun ab=>?_)
 ·rw[if_neg (by omega)]at D;exact D
 ·rw[if_pos (by omega)]at D;exact D
 ·rw[if_pos (by omega)]at D;exact D

def GY:bd
 |[.agg [.E (.list .int) ws,.E .int fu],.one (.E .int slot)],[]=>some (none,.an [.agg [af (hh ⟨ws,fu⟩ slot).1.words,A (hh ⟨ws,fu⟩ slot).1.fuel],.one (A (hh ⟨ws,fu⟩ slot).2)],[])
 |_,_=>none

theorem aiw:bw 200 GY:=b2 0 (((bv.f Mn).f AZ).f AX) Tryz.func200 (by kernel_rfl) fun vs ar=>by
 unfold GY;split;rotate_left;trivial;rename_i ws fu slot;refine⟨by kernel_rfl,fun K D=>?_⟩;refine⟨1,?_⟩;obtain⟨aC,cR⟩:∃aC,aC=b9 (⟨ws,fu⟩:cm) (eH (W ((2:Int)+W ((2:Int)*slot)))):=⟨_,rfl⟩
 obtain⟨v4,e1⟩:∃v4,v4=b9 (aC.fst:cm) (eH (W ((3:Int)+W ((2:Int)*slot)))):=⟨_,rfl⟩
 refine ck (fun rec=>(by subst e1 cR;kernel_rfl:_=(
  J (!(au (eY (⟨ws,fu⟩:cm) slot) 0))
  (K (.an [.agg [af [],A (0:Int)],.one (A (eY (⟨ws,fu⟩:cm) slot))]) [])
  (len ws*8<=140737488355328 /\
  ((-1)<=fu/\fu<=100000/\(0:Int)<=W ((2:Int)+W ((2:Int)*slot))/\(W ((2:Int)+W ((2:Int)*slot))+1)*32<=(len ws:Int)/\len ws<=192) /\
  J (!aC.snd)
  (K (.an [.agg [af aC.fst.words,A aC.fst.fuel],.one (A 7)]) [])
  (((-1)<=aC.fst.fuel/\aC.fst.fuel<=100000/\(0:Int)<=W ((3:Int)+W ((2:Int)*slot))/\(W ((3:Int)+W ((2:Int)*slot))+1)*32<=(len aC.fst.words:Int)/\len aC.fst.words<=192) /\
  J (!v4.snd)
  (K (.an [.agg [af v4.fst.words,A v4.fst.fuel],.one (A 7)]) [])
  (K (.an [.agg [af v4.fst.words,A v4.fst.fuel],.one (A 0)]) [])))))) ?_
 subst e1 cR;unfold hh at D;refine bN (fun h=>?_) (fun h=>?_)
 ·rw[if_neg h]at D;exact D
 rw[if_pos h]at D;obtain⟨I,G,ab⟩:=rq h;obtain⟨bA,bb,cr,du⟩:=jh I;simp only at bb cr G;rw[cc (n:=2*slot) (by omega) (by omega),cc (n:=2+2*slot) (by omega) (by omega),cc (n:=3+2*slot) (by omega) (by omega)];unfold ze at D;rw[wq]at D;have b1:=ru ⟨ws,fu⟩ (eH (2+2*slot)) bb cr;have ax:=sz ⟨ws,fu⟩ (eH (2+2*slot));simp only[len]at ax |-;refine⟨by omega,⟨bb,cr,by omega,by omega,by omega⟩,eF (fun br=>?_) (fun br=>⟨⟨b1.1,b1.2,by omega,by omega,by omega⟩,eF (fun bV=>?_) (fun bV=>?_)⟩)⟩
 ·rw[if_neg (by simp[br])]at D;simp only[gl,j7,br]at D;exact D
 ·rw[if_pos br]at D;simp only[gl,j7,bV]at D;exact D
 ·rw[if_pos br]at D;simp only[gl,j7,bV]at D;exact D

def O7:bd
 |[.one (.E .int slot)],[]=>some (some (0<=slot/\slot<=1),.one (A (64+64*slot)),[])
 |_,_=>none
def Nt:Ctx:=[]
theorem adF:fz Tryz.prog tab Nt:=bv
theorem afA(slot:Int)(rec:bZ)(K:aW):b7 Nt tab Tryz.f135 0 K rec [.code (bF Tryz.f135)] (df [.one (A slot)] [])=(
 K (.one (A (W (W ((2:Int)+W ((2:Int)*slot))*32)))) []):=by kernel_rfl

theorem ags(ag:0<=slot/\slot<=1)(K:aW)(D:K (.one (A (64+64*slot))) []):∃m,cl Nt tab Tryz.f135 0 K m [.code (bF Tryz.f135)] (df [.one (A slot)] []):=by
 refine⟨1,?_⟩;rw[eO,afA _ _ _];rw[cc (n:=2*slot) (by omega) (by omega),cc (n:=2+2*slot) (by omega) (by omega),cc (by omega) (by omega),show(2+2*slot)*32=64+64*slot by omega];exact D
theorem Em:bw 135 O7:=hN adF Tryz.func135 (by kernel_rfl) (by
 intro vs ar p v dB h ag;unfold O7 at h;split at h
 ·cases h;exact⟨by kernel_rfl,rfl,.inl (ags _ ag.1 _ ⟨rfl,rfl⟩)⟩
 ·cases h)

def OO:bd
 |[.agg [.E (.list .int) ws,.E .int fu],.one (.E .int at_),.one (.E (.list .int) l)],[]=>some (some (eQ l),.an [.agg [af (ja ⟨ws,fu⟩ at_ l).1.words,A (ja ⟨ws,fu⟩ at_ l).1.fuel],.one (A (ja ⟨ws,fu⟩ at_ l).2)],[])
 |_,_=>none

theorem Wu:bw 193 OO:=b2 0 ((((bv.f (kx.or LX Mr)).f AZ).f L9).f AY) Tryz.func193 (by kernel_rfl) fun vs ar=>by
 unfold OO;split;rotate_left;trivial;rename_i ws fu at_ l;dsimp only[z.den]at ws fu at_ l;refine⟨by kernel_rfl,fun ag K D=>?_⟩;refine⟨1,?_⟩;obtain⟨v3,ef⟩:∃v3,v3=b9 ⟨ws,fu⟩ (cX at_ l):=⟨_,rfl⟩
 obtain⟨v4,e1⟩:∃v4,v4=K (.an [.agg [af [],A (0:Int)],.one (A 5)]) []:=⟨_,rfl⟩
 refine ck (fun rec=>(by subst e1 ef;kernel_rfl:_=(
  J (!(au (e3 ⟨ws,fu⟩) 0))
  (K (.an [.agg [af [],A (0:Int)],.one (A (e3 ⟨ws,fu⟩))]) [])
  (J (aN at_ 0)
  v4
  (J (aN (len ws:Int) at_)
  v4
  (J (aN (W ((len ws:Int)-at_)) (len l:Int))
  v4
  (List.length l<=140737488355328 /\
  J (!(cK l))
  (K (.an [.agg [af [],A (0:Int)],.one (A 3)]) [])
  (len ws*8<=140737488355328 /\
  ((-1)<=fu/\fu<=100000/\(0:Int)<=at_/\at_+(len l:Int)<=(len ws:Int)/\len ws<=192) /\
  J (!v3.snd)
  (K (.an [.agg [af v3.fst.words,A v3.fst.fuel],.one (A 7)]) [])
  (K (.an [.agg [af v3.fst.words,A v3.fst.fuel],.one (A 0)]) []))))))))) ?_
 subst e1 ef;unfold ja at D;refine bN (fun h=>?_) (fun h=>?_)
 ·rw[if_neg h]at D;exact D
 rw[if_pos h]at D;obtain⟨bA,bb,cr,du⟩:=jh h;obtain⟨hs,gu⟩:=q1 bA;simp only at bb cr hs gu;have kf:¬(0<=at_/\at_<=(ws.length:Int)/\(l.length:Int)<=ws.length-at_)->K (.an [.agg [af [],A 0],.one (A 5)]) []:=fun aq=>by
  rw[if_neg aq]at D;exact D
 simp only[len];refine bq (fun I=>kf (by omega)) (fun I=>bq (fun G=>kf (by omega)) (fun G=>?_));rw[cc (by omega) (by omega)];refine bq (fun ab=>kf (by omega)) (fun ab=>⟨ag,eF (fun aV=>?_) (fun aV=>?_)⟩)
 ·rw[if_pos ⟨I,G,ab⟩,if_neg (by rw[aV];simp)]at D;exact D
 ·rw[if_pos ⟨I,G,ab⟩,if_pos aV]at D;refine⟨by omega,⟨bb,cr,I,by omega,by omega⟩,eF (fun br=>?_) (fun br=>?_)⟩
  ·simp only[gl,j7,br]at D;exact D
  ·simp only[gl,j7,br]at D;exact D

def B9:bd
 |[.agg [.E (.list .int) ws,.E .int fu],.one (.E .int slot),.one (.E .int at_),.one (.E (.list .int) l)],[]=>some (some (eQ l),.an [.agg [af (fb ⟨ws,fu⟩ slot at_ l).1.words,A (fb ⟨ws,fu⟩ slot at_ l).1.fuel],.one (A (fb ⟨ws,fu⟩ slot at_ l).2)],[])
 |_,_=>none

theorem WK:bw 169 B9:=b2 0 (((bv.f Wu).f Em).f AX) Tryz.func169 (by kernel_rfl) fun vs ar=>by
 unfold B9;split;rotate_left;trivial;rename_i ws fu slot at_ l;dsimp only[z.den]at ws fu slot at_ l;refine⟨by kernel_rfl,fun ag K D=>?_⟩;refine⟨1,?_⟩;obtain⟨v1,cd⟩:∃v1,v1=ja (⟨ws,fu⟩:cm) (W (W ((64:Int)+(64:Int)*slot+4)+at_)) l:=⟨_,rfl⟩
 obtain⟨aC,cR⟩:∃aC,aC=K (.an [.agg [af [],A (0:Int)],.one (A 2)]) []:=⟨_,rfl⟩
 refine ck (fun rec=>(by subst cR cd;kernel_rfl:_=(
  J (!(au (eY (⟨ws,fu⟩:cm) slot) 0))
  (K (.an [.agg [af [],A (0:Int)],.one (A (eY (⟨ws,fu⟩:cm) slot))]) [])
  (J (aN at_ 0)
  aC
  (J (aN 40 at_)
  aC
  (J (aN (W ((40:Int)-at_)) (len l:Int))
  aC
  (((0:Int)<=slot/\slot<=1) /\
  List.length l<=140737488355328 /\
  K (.an [.agg [af v1.fst.words,A v1.fst.fuel],.one (A v1.snd)]) []))))))) ?_
 subst cR cd;unfold fb at D;refine bN (fun h=>?_) (fun h=>?_)
 ·rw[if_neg h]at D;exact D
 rw[if_pos h]at D;obtain⟨I,G,ab⟩:=rq h;simp only[len];refine bq (fun aV=>?_) (fun aV=>bq (fun br=>?_) (fun br=>?_))
 ·rw[if_neg (by omega)]at D;exact D
 ·rw[if_neg (by omega)]at D;exact D
 rw[cc (n:=40-at_) (by omega) (by omega)];refine bq (fun bV=>?_) (fun bV=>?_)
 ·rw[if_neg (by omega)]at D;exact D
 rw[cc (n:=64+64*slot+4) (by omega) (by omega),cc (by omega) (by omega),show 64+64*slot+4+at_=68+64*slot+at_ by omega];rw[if_pos (by omega)]at D;exact⟨by omega,ag,D⟩

def Ol:bd
 |[.one (.ptr 0 0)],[.box [.E (.list .int) ws,.E .int fu,.E .bool up,.E .int bu,.E .int bx]]=>some (none,.an [],[.box (fP (Y3 ⟨⟨ws,fu⟩,up,bu,bx⟩))])
 |_,_=>none

theorem Wf:bw 157 Ol:=b2 1 bv Tryz.func157 (by kernel_rfl) fun vs ar=>by
 unfold Ol;split;rotate_left;trivial;rename_i ws fu up bu bx;refine⟨by kernel_rfl,fun K D=>?_⟩;refine⟨1,?_⟩;refine ck (fun rec=>(by kernel_rfl:_=(
  K (.an []) [.box [af ws,A fu,ay false,A (0:Int),A (0:Int)]]))) ?_
 exact D

def BV:bd
 |[.one (.ptr 0 0),.agg [.E (.list .int) gs,.E .int lV],.one (.E .int e)],[.box [.E (.list .int) ws,.E .int fu,.E .bool up,.E .int bu,.E .int bx]]=>some (none,.one (ay (e2 ⟨⟨ws,fu⟩,up,bu,bx⟩ ⟨gs,lV⟩ e).2),[.box (fP (e2 ⟨⟨ws,fu⟩,up,bu,bx⟩ ⟨gs,lV⟩ e).1)])
 |_,_=>none

theorem L6:bw 201 BV:=b2 1 (bv.f Wf) Tryz.func201 (by kernel_rfl) fun vs ar=>by
 unfold BV;split;rotate_left;trivial;rename_i gs lV e ws fu up bu bx;refine⟨by kernel_rfl,fun K D=>?_⟩;refine⟨1,?_⟩;refine ck (fun rec=>(by kernel_rfl:_=(
  J (au e 0)
  (K (.one (ay true)) [.box [af gs,A lV,ay up,A bu,A bx]])
  (J (au e 7)
  (K (.one (ay false)) [.box [af gs,A lV,ay false,A (0:Int),A (0:Int)]])
  (K (.one (ay false)) [.box [af ws,A fu,ay up,A bu,A bx]]))))) ?_
 unfold e2 at D;refine cz (fun h=>?_) (fun h=>cz (fun G=>?_) (fun G=>?_))
 ·rw[if_pos h]at D;exact D
 ·rw[if_neg h,if_pos G]at D;exact D
 ·rw[if_neg h,if_neg G]at D;exact D

def Om:bd
 |[.one (.ptr 0 0),.agg [.E .int de,.E .int fQ,.E .int fM],.agg [.E .int mk,.E .int a8,.E .int ba,.E .int bD,.E .int cg,.E (.list .int) bT,.E .bool cy]],[.box [.E (.list .int) ws,.E .int fu,.E .bool up,.E .int bu,.E .int bx]]=>some (some (0<=de/\de<=1/\0<=bD/\bD<=40/\len bT<=8),.an [],[.box (fP (oZ ⟨⟨ws,fu⟩,up,bu,bx⟩ ⟨de,fQ,fM⟩ ⟨mk,a8,ba,bD,cg,bT,cy⟩))])
 |_,_=>none
def M7:Ctx:=[(200,GY),(169,B9),(201,BV)]
theorem adj:fz Tryz.prog tab M7:=(((bv.f L6).f WK).f aiw)
theorem aeO(ws:aJ)(fu:Int)(up:Bool)(bu bx de fQ fM mk a8 ba bD cg:Int)(bT:aJ)(cy:Bool)(rec:bZ)(K:aW) v0 (b0:v0=hh ⟨ws,fu⟩ (W ((1:Int)-de))) v1 (cd:v1=e2 ⟨⟨ws,fu⟩,up,bu,bx⟩ ⟨v0.fst.words,v0.fst.fuel⟩ v0.snd) aC (cR:aC=fb ⟨v1.fst.f.words,v1.fst.f.fuel⟩ (W ((1:Int)-de)) bD bT) v3 (ef:v3=e2 ⟨⟨v1.fst.f.words,v1.fst.f.fuel⟩,v1.fst.up,ba,0⟩ ⟨aC.fst.words,aC.fst.fuel⟩ aC.snd) v4 (e1:v4=fb ⟨ws,fu⟩ (W ((1:Int)-de)) bD bT) cf (g5:cf=e2 ⟨⟨ws,fu⟩,up,bu,bx⟩ ⟨v4.fst.words,v4.fst.fuel⟩ v4.snd) dF (iG:dF=J (!(au bu ba))
 (K (.an []) [.box [af ws,A fu,ay up,A bu,A bx]])
 (J (!(au bx bD))
 (K (.an []) [.box [af ws,A fu,ay up,A bu,A bx]])
 (J (aN 40 (W (bD+(len bT:Int))))
 (K (.an []) [.box [af ws,A fu,ay up,A bu,A bx]])
 (List.length bT<=140737488355328 /\
 J cf.snd
 (K (.an []) [.box [af cf.fst.f.words,A cf.fst.f.fuel,ay cf.fst.up,A cf.fst.n,A (W (cf.fst.eE+(len bT:Int)))]])
 (K (.an []) [.box (fP cf.fst)]))))) eG (kI:eG=K (.an []) [.box [af v1.fst.f.words,A v1.fst.f.fuel,ay v1.fst.up,A ba,A (0:Int)]]) dK (km:dK=J (!v1.snd)
 (K (.an []) [.box (fP v1.fst)])
 (J (!(au ba ba))
 eG
 (J (!(au 0 bD))
 eG
 (J (aN 40 (W (bD+(len bT:Int))))
 eG
 (List.length bT<=140737488355328 /\
 J v3.snd
 (K (.an []) [.box [af v3.fst.f.words,A v3.fst.f.fuel,ay v3.fst.up,A v3.fst.n,A (W (v3.fst.eE+(len bT:Int)))]])
 (K (.an []) [.box (fP v3.fst)])))))):b7 M7 tab Tryz.f181 1 K rec [.code (bF Tryz.f181)] (df [.one (.ptr 0 0),.agg [A de,A fQ,A fM],.agg [A mk,A a8,A ba,A bD,A cg,af bT,ay cy]] [.box [af ws,A fu,ay up,A bu,A bx]])=(
 J (aN 0 fM)
 (K (.an []) [.box [af ws,A fu,ay up,A bu,A bx]])
 (J (dc ba fQ)
 (K (.an []) [.box [af ws,A fu,ay up,A bu,A bx]])
 (J (aN 8 ba)
 (K (.an []) [.box [af ws,A fu,ay up,A bu,A bx]])
 (J (au bD 0)
 (J (!(au bu ba))
 dK
 (J (au bx 0)
 dK
 dF))
 dF)))):=by subst_vars;kernel_rfl

theorem MK(K:aW)(ws:aJ)(fu:Int)(up:Bool)(bu bx de fQ fM mk a8 ba bD cg:Int)(bT:aJ)(cy:Bool)(av:0<=de/\de<=1)(bh:0<=bD/\bD<=40)(cb:len bT<=8)
  (D:K (.an []) [.box (fP (oz ⟨⟨ws,fu⟩,up,bu,bx⟩ ⟨de,fQ,fM⟩ ⟨mk,a8,ba,bD,cg,bT,cy⟩))]) :
  J (!(au bu ba))
   (K (.an []) [.box [af ws,A fu,ay up,A bu,A bx]])
   (J (!(au bx bD))
    (K (.an []) [.box [af ws,A fu,ay up,A bu,A bx]])
    (J (aN 40 (W (bD+((len bT:Nat):Int))))
     (K (.an []) [.box [af ws,A fu,ay up,A bu,A bx]])
     ((List.length bT<=140737488355328) /\
       J (e2 ⟨⟨ws,fu⟩,up,bu,bx⟩ (fb ⟨ws,fu⟩ (W (1-de)) bD bT).1 (fb ⟨ws,fu⟩ (W (1-de)) bD bT).2).2
       (K (.an []) [.box [af (e2 ⟨⟨ws,fu⟩,up,bu,bx⟩ (fb ⟨ws,fu⟩ (W (1-de)) bD bT).1 (fb ⟨ws,fu⟩ (W (1-de)) bD bT).2).1.f.words,A (e2 ⟨⟨ws,fu⟩,up,bu,bx⟩ (fb ⟨ws,fu⟩ (W (1-de)) bD bT).1 (fb ⟨ws,fu⟩ (W (1-de)) bD bT).2).1.f.fuel,ay (e2 ⟨⟨ws,fu⟩,up,bu,bx⟩ (fb ⟨ws,fu⟩ (W (1-de)) bD bT).1 (fb ⟨ws,fu⟩ (W (1-de)) bD bT).2).1.up,A (e2 ⟨⟨ws,fu⟩,up,bu,bx⟩ (fb ⟨ws,fu⟩ (W (1-de)) bD bT).1 (fb ⟨ws,fu⟩ (W (1-de)) bD bT).2).1.n,A (W ((e2 ⟨⟨ws,fu⟩,up,bu,bx⟩ (fb ⟨ws,fu⟩ (W (1-de)) bD bT).1 (fb ⟨ws,fu⟩ (W (1-de)) bD bT).2).1.eE+((len bT:Nat):Int)))]])
       (K (.an []) [.box (fP (e2 ⟨⟨ws,fu⟩,up,bu,bx⟩ (fb ⟨ws,fu⟩ (W (1-de)) bD bT).1 (fb ⟨ws,fu⟩ (W (1-de)) bD bT).2).1)])))):=by
 have ax:bT.length<=8:=cb;rw[cc (n:=1-de) (by omega) (by omega),cc (n:=bD+((len bT:Nat):Int)) (by simp only[len];omega) (by simp only[len];omega)];unfold oz at D;simp only at D;refine bN (fun h=>?_) (fun h=>bN (fun G=>?_) (fun G=>bq (fun ab=>?_) (fun ab=>⟨by omega,cn (fun aV=>?_) (fun aV=>?_)⟩)))
 ·rw[if_pos (.inl h)]at D;exact D
 ·rw[if_pos (.inr (.inl G))]at D;exact D
 ·rw[if_pos (.inr (.inr (by simp only[len]at ab;omega)))]at D;exact D
 ·rw[if_neg (by simp only[len]at ab;omega)]at D;have e:jk ⟨⟨ws,fu⟩,up,bu,bx⟩ ⟨de,fQ,fM⟩ ⟨mk,a8,ba,bD,cg,bT,cy⟩=e2 ⟨⟨ws,fu⟩,up,bu,bx⟩ (fb ⟨ws,fu⟩ (1-de) bD bT).1 (fb ⟨ws,fu⟩ (1-de) bD bT).2:=rfl;rw[e,if_pos aV]at D;have bs:(e2 ⟨⟨ws,fu⟩,up,bu,bx⟩ (fb ⟨ws,fu⟩ (1-de) bD bT).1 (fb ⟨ws,fu⟩ (1-de) bD bT).2).1.eE=bx:=by rw[(zb aV).2]
  rw[cc (by simp only[len];omega) (by simp only[len];omega)];exact D
 ·rw[if_neg (by simp only[len]at ab;omega)]at D;have e:jk ⟨⟨ws,fu⟩,up,bu,bx⟩ ⟨de,fQ,fM⟩ ⟨mk,a8,ba,bD,cg,bT,cy⟩=e2 ⟨⟨ws,fu⟩,up,bu,bx⟩ (fb ⟨ws,fu⟩ (1-de) bD bT).1 (fb ⟨ws,fu⟩ (1-de) bD bT).2:=rfl;rw[e,if_neg (by rw[aV];simp)]at D;exact D
theorem af1(ag:0<=de/\de<=1/\0<=bD/\bD<=40/\len bT<=8)(K:aW)(D:K (.an []) [.box (fP (oZ ⟨⟨ws,fu⟩,up,bu,bx⟩ ⟨de,fQ,fM⟩ ⟨mk,a8,ba,bD,cg,bT,cy⟩))]):∃m,cl M7 tab Tryz.f181 1 K m [.code (bF Tryz.f181)] (df [.one (.ptr 0 0),.agg [A de,A fQ,A fM],.agg [A mk,A a8,A ba,A bD,A cg,af bT,ay cy]] [.box [af ws,A fu,ay up,A bu,A bx]]):=by
 refine⟨1,?_⟩;rw[eO,aeO _ _ _ _ _ _ _ _ _ _ _ _ _ _ _ _ _ _ rfl _ rfl _ rfl _ rfl _ rfl _ rfl _ rfl _ rfl _ rfl];obtain⟨fg,ft,hx,oY,Ax⟩:=ag;have fill:=MK K ws fu up bu bx de fQ fM mk a8 ba bD cg bT cy ⟨fg,ft⟩ ⟨hx,oY⟩ Ax;unfold oZ at D;simp only at D;refine bq (fun h=>?_) (fun h=>cn (fun G=>?_) (fun G=>bq (fun ab=>?_) (fun ab=>?_)))
 ·rw[if_pos (.inl h)]at D;exact D
 ·rw[fV]at G;rw[if_pos (.inr (.inl G))]at D;exact D
 ·rw[if_pos (.inr (.inr ab))]at D;exact D
 rw[eC]at G;rw[if_neg (by omega)]at D;have e:h3 ⟨⟨ws,fu⟩,up,bu,bx⟩ ⟨de,fQ,fM⟩=e2 ⟨⟨ws,fu⟩,up,bu,bx⟩ (hh ⟨ws,fu⟩ (W (1-de))).1 (hh ⟨ws,fu⟩ (W (1-de))).2:=by rw[cc (by omega) (by omega)];rfl
 rw[e]at D;refine cz (fun aV=>?_) (fun aV=>?_)
 ·have clear_:∀P:Prop,(bu≠ba\/bx=0)->(∀v1,v1=e2 ⟨⟨ws,fu⟩,up,bu,bx⟩ (hh ⟨ws,fu⟩ (W (1-de))).1 (hh ⟨ws,fu⟩ (W (1-de))).2->(v1.2=false->K (.an []) [.box (fP v1.1)]) ->
    (v1.2=true->K (.an []) [.box (fP (oz ⟨v1.1.f,v1.1.up,ba,0⟩ ⟨de,fQ,fM⟩ ⟨mk,a8,ba,bD,cg,bT,cy⟩))])->P)->P:=fun P hu m4=>by
   rw[if_pos ⟨aV,hu⟩]at D;refine m4 _ rfl (fun aQ=>?_) (fun aQ=>?_)
   ·rw[if_neg (by rw[aQ];simp)]at D;exact D
   ·rw[if_pos aQ]at D;exact D
  refine bN (fun br=>?_) (fun br=>cz (fun bV=>?_) (fun bV=>?_))
  ·refine clear_ _ (.inl br) fun v1 aQ bK bX=>?_
   rw[<- aQ];refine eF (fun g=>bK g) (fun g=>?_);exact MK K v1.1.f.words v1.1.f.fuel v1.1.up ba 0 de fQ fM mk a8 ba bD cg bT cy ⟨fg,ft⟩ ⟨hx,oY⟩ Ax (bX g)
  ·refine clear_ _ (.inr bV) fun v1 aQ bK bX=>?_
   rw[<- aQ];refine eF (fun g=>bK g) (fun g=>?_);exact MK K v1.1.f.words v1.1.f.fuel v1.1.up ba 0 de fQ fM mk a8 ba bD cg bT cy ⟨fg,ft⟩ ⟨hx,oY⟩ Ax (bX g)
  ·rw[if_neg (by omega)]at D;exact fill D
 ·rw[if_neg (by omega)]at D;exact fill D
theorem ahb:bw 181 Om:=hN adj Tryz.func181 (by kernel_rfl) (by
 intro vs ar p v dB h ag;unfold Om at h;split at h
 ·cases h;exact⟨by kernel_rfl,rfl,.inl (af1 _ _ _ _ _ _ _ _ _ _ _ _ _ _ _ ag.1 _ ⟨rfl,rfl⟩)⟩
 ·cases h)

def FK:bd
 |[.one (.E .bool y),.one (.ptr 0 0)],[.box [.E .int mk,.E .int a8,.E .int ba,.E .int bD,.E .int cg,.E (.list .int) bT,.E .bool cy]]=>some (none,.one (bB (lH ⟨mk,a8,ba,bD,cg,bT,cy⟩ y)),[.box [A mk,A a8,A ba,A bD,A cg,af bT,ay cy]])
 |_,_=>none

theorem ahc:bw 202 FK:=b2 1 bv Tryz.func202 (by kernel_rfl) fun vs ar=>by
 unfold FK;split;rotate_left;trivial;rename_i y mk a8 ba bD cg bT cy;refine⟨by kernel_rfl,fun K D=>?_⟩;refine⟨1,?_⟩;refine ck (fun rec=>(by kernel_rfl:_=(
  K (.one (bB ((⟨3,a8,ba,0,0,[],y⟩:fC)::[]))) [.box [A mk,A a8,A ba,A bD,A cg,af bT,ay cy]]))) ?_
 exact D

def O2:bd
 |[.agg [.E (.list .int) ws,.E .int fu],.one (.E .int at_),.one (.E .int n)],[]=>some (some (E4 at_/\E4 n),.an [.one (af (AG ⟨ws,fu⟩ at_ n).1),.one (A (AG ⟨ws,fu⟩ at_ n).2)],[])
 |_,_=>none

theorem aih:bw 218 O2:=b2 0 ((bv.f vu).f AY) Tryz.func218 (by kernel_rfl) fun vs ar=>by
 unfold O2;split;rotate_left;trivial;rename_i ws fu at_ n;dsimp only[z.den]at ws fu at_ n;refine⟨by kernel_rfl,fun ag K D=>?_⟩;obtain⟨⟨bh,aA⟩,az,bO⟩:=ag;refine⟨1,?_⟩;refine ck (fun rec=>(by kernel_rfl:_=(
  J (!(au (e3 ⟨ws,fu⟩) 0))
  (K (.an [.one (af []),.one (A (e3 ⟨ws,fu⟩))]) [])
  (J (aN at_ 0)
  (K (.an [.one (af []),.one (A 5)]) [])
  (J (aN n 0)
  (K (.an [.one (af []),.one (A 5)]) [])
  (J (aN (len ws:Int) at_)
  (K (.an [.one (af []),.one (A 5)]) [])
  (J (aN (W ((len ws:Int)-at_)) n)
  (K (.an [.one (af []),.one (A 5)]) [])
  (((0:Int)<=at_/\at_<=W (at_+n)/\W (at_+n)<=(len ws:Int)) /\
  len (a2 ws (Int.toNat at_) (Int.toNat (W (at_+n))))*8<=140737488355328 /\
  K (.an [.one (af (a2 ws (Int.toNat at_) (Int.toNat (W (at_+n))))),.one (A 0)]) [])))))))) ?_
 unfold AG at D;refine bN (fun h=>?_) (fun h=>?_)
 ·rw[if_neg h]at D;exact D
 rw[if_pos h]at D;obtain⟨bA,bb,cr,du⟩:=jh h;obtain⟨hs,gu⟩:=q1 bA;simp only at bb cr hs gu;have kf:¬(0<=at_/\0<=n/\at_+n<=(ws.length:Int))->K (.an [.one (af []),.one (A 5)]) []:=fun aq=>by
  rw[if_neg aq]at D;exact D
 simp only[len];refine bq (fun I=>kf (by omega)) (fun I=>bq (fun G=>kf (by omega)) (fun G=>bq (fun ab=>kf (by omega)) (fun ab=>?_)));rw[cc (by omega) (by omega)];refine bq (fun aV=>kf (by omega)) (fun aV=>?_);rw[if_pos (by simp only;omega)]at D;rw[cc (by omega) (by omega)];refine⟨⟨I,by omega,by omega⟩,?_,D⟩;have:(a2 ws at_.toNat (at_+n).toNat).length<=192:=by simp[a2];omega
 omega

def GZ:bd
 |[.agg [.E (.list .int) ws,.E .int fu],.one (.E .int slot),.one (.E .int n)],[]=>some (none,.an [.one (af (mT ⟨ws,fu⟩ slot n).1),.one (A (mT ⟨ws,fu⟩ slot n).2)],[])
 |_,_=>none

theorem aix:bw 203 GZ:=b2 0 (((bv.f aih).f Em).f AX) Tryz.func203 (by kernel_rfl) fun vs ar=>by
 unfold GZ;split;rotate_left;trivial;rename_i ws fu slot n;dsimp only[z.den]at ws fu slot n;refine⟨by kernel_rfl,fun K D=>?_⟩;refine⟨1,?_⟩;obtain⟨v1,cd⟩:∃v1,v1=AG (⟨ws,fu⟩:cm) (W ((64:Int)+(64:Int)*slot+4)) n:=⟨_,rfl⟩
 refine ck (fun rec=>(by subst cd;kernel_rfl:_=(
  J (!(au (eY (⟨ws,fu⟩:cm) slot) 0))
  (K (.an [.one (af []),.one (A (eY (⟨ws,fu⟩:cm) slot))]) [])
  (J (aN n 0)
  (K (.an [.one (af []),.one (A 2)]) [])
  (J (aN 40 n)
  (K (.an [.one (af []),.one (A 2)]) [])
  (((0:Int)<=slot/\slot<=1) /\
  (((-9223372036854775808)<=W ((64:Int)+(64:Int)*slot+4)/\W ((64:Int)+(64:Int)*slot+4)<=9223372036854775807)/\(-9223372036854775808)<=n/\n<=9223372036854775807) /\
  K (.an [.one (af v1.fst),.one (A v1.snd)]) [])))))) ?_
 subst cd;unfold mT at D;refine bN (fun h=>?_) (fun h=>?_)
 ·rw[if_neg h]at D;exact D
 rw[if_pos h]at D;obtain⟨I,G,ab⟩:=rq h;simp only at G;refine bq (fun aV=>?_) (fun aV=>bq (fun br=>?_) (fun br=>?_))
 ·rw[if_neg (by omega)]at D;exact D
 ·rw[if_neg (by omega)]at D;exact D
 rw[if_pos (by omega)]at D;rw[cc (n:=64+64*slot+4) (by omega) (by omega),show 64+64*slot+4=68+64*slot by omega];refine⟨by omega,by omega,?_⟩;unfold AG;rw[if_pos I,if_pos (by simp only;omega)];exact D

def Ca:bd
 |[.agg [.E (.list .int) ws,.E .int fu],.one (.E .int slot),.one (.E .int dp),.one (.E .int name)],[]=>some (none,.an [.agg [af (gB ⟨ws,fu⟩ slot dp name).1.words,A (gB ⟨ws,fu⟩ slot dp name).1.fuel],.one (A (gB ⟨ws,fu⟩ slot dp name).2)],[])
 |_,_=>none

theorem WL:bw 170 Ca:=b2 0 (((bv.f Wu).f Em).f AX) Tryz.func170 (by kernel_rfl) fun vs ar=>by
 unfold Ca;split;rotate_left;trivial;rename_i ws fu slot dp name;dsimp only[z.den]at ws fu slot dp name;refine⟨by kernel_rfl,fun K D=>?_⟩;refine⟨1,?_⟩;obtain⟨v1,cd⟩:∃v1,v1=ja (⟨ws,fu⟩:cm) ((64:Int)+(64:Int)*slot) (dp::name::hQ 65535 dp::hQ 65535 name::[]):=⟨_,rfl⟩
 obtain⟨aC,cR⟩:∃aC,aC=K (.an [.agg [af [],A (0:Int)],.one (A 3)]) []:=⟨_,rfl⟩
 refine ck (fun rec=>(by subst cR cd;kernel_rfl:_=(
  J (!(au (eY (⟨ws,fu⟩:cm) slot) 0))
  (K (.an [.agg [af [],A (0:Int)],.one (A (eY (⟨ws,fu⟩:cm) slot))]) [])
  (J (aN dp 1)
  aC
  (J (aN 40 dp)
  aC
  (J (aN name 1)
  aC
  (J (aN 60 name)
  aC
  (((0:Int)<=slot/\slot<=1) /\
  List.length (dp::name::hQ 65535 dp::hQ 65535 name::[])<=140737488355328 /\
  K (.an [.agg [af v1.fst.words,A v1.fst.fuel],.one (A v1.snd)]) [])))))))) ?_
 subst cR cd;unfold gB at D;refine bN (fun h=>?_) (fun h=>?_)
 ·rw[if_neg h]at D;exact D
 rw[if_pos h]at D;obtain⟨I,G,ab⟩:=rq h;have three:¬(1<=dp/\dp<=40/\1<=name/\name<=60)->K (.an [.agg [af [],A 0],.one (A 3)]) []:=fun aq=>by
  rw[if_neg (by simp only[l9,Bool.and_eq_true,decide_eq_true_eq];omega)]at D;exact D
 refine bq (fun aV=>three (by omega)) (fun aV=>bq (fun br=>three (by omega)) (fun br=>bq (fun bV=>three (by omega)) (fun bV=>bq (fun dm=>three (by omega)) (fun dm=>?_))));rw[if_pos (by simp only[l9,Bool.and_eq_true,decide_eq_true_eq];omega)]at D;rw[EI (by omega) (by omega),EI (by omega) (by omega)];exact⟨by omega,by simp only[List.length_cons,List.length_nil];omega,D⟩

def G0:bd
 |[.agg [.E (.list .int) ws,.E .int fu],.one (.E .int slot)],[]=>some (none,.an [.one (af (lu ⟨ws,fu⟩ slot).1),.one (A (lu ⟨ws,fu⟩ slot).2.1),.one (A (lu ⟨ws,fu⟩ slot).2.2)],[])
 |_,_=>none

theorem WM:bw 77 G0:=b2 0 (((bv.f vu).f Em).f AX) Tryz.func77 (by kernel_rfl) fun vs ar=>by
 unfold G0;split;rotate_left;trivial;rename_i ws fu slot;dsimp only[z.den]at ws fu slot;refine⟨by kernel_rfl,fun K D=>?_⟩;refine⟨1,?_⟩;obtain⟨v1,cd⟩:∃v1,v1=K (.an [.one (af []),.one (A 0),.one (A 4)]) []:=⟨_,rfl⟩
 refine ck (fun rec=>(by subst cd;kernel_rfl:_=(
  J (!(au (eY (⟨ws,fu⟩:cm) slot) 0))
  (K (.an [.one (af []),.one (A 0),.one (A (eY (⟨ws,fu⟩:cm) slot))]) [])
  (((0:Int)<=slot/\slot<=1) /\
  ((0:Int)<=slot/\slot<=1) /\
  ((0:Int)<=(64:Int)+(64:Int)*slot/\(64:Int)+(64:Int)*slot<=W ((64:Int)+(64:Int)*slot+4)/\W ((64:Int)+(64:Int)*slot+4)<=(len ws:Int)) /\
  ((0:Int)<=(0:Int)/\(0:Int)<(((len (a2 ws (Int.toNat ((64:Int)+(64:Int)*slot)) (Int.toNat (W ((64:Int)+(64:Int)*slot+4))))):Nat):Int)) /\
  J (aN (nth (a2 ws (Int.toNat ((64:Int)+(64:Int)*slot)) (Int.toNat (W ((64:Int)+(64:Int)*slot+4)))) (Int.toNat 0) (z.H z.int)) 1)
  v1
  (((0:Int)<=(0:Int)/\(0:Int)<(((len (a2 ws (Int.toNat ((64:Int)+(64:Int)*slot)) (Int.toNat (W ((64:Int)+(64:Int)*slot+4))))):Nat):Int)) /\
  J (aN 40 (nth (a2 ws (Int.toNat ((64:Int)+(64:Int)*slot)) (Int.toNat (W ((64:Int)+(64:Int)*slot+4)))) (Int.toNat 0) (z.H z.int)))
  v1
  (((0:Int)<=(1:Int)/\(1:Int)<(((len (a2 ws (Int.toNat ((64:Int)+(64:Int)*slot)) (Int.toNat (W ((64:Int)+(64:Int)*slot+4))))):Nat):Int)) /\
  J (aN (nth (a2 ws (Int.toNat ((64:Int)+(64:Int)*slot)) (Int.toNat (W ((64:Int)+(64:Int)*slot+4)))) (Int.toNat 1) (z.H z.int)) 1)
  v1
  (((0:Int)<=(1:Int)/\(1:Int)<(((len (a2 ws (Int.toNat ((64:Int)+(64:Int)*slot)) (Int.toNat (W ((64:Int)+(64:Int)*slot+4))))):Nat):Int)) /\
  J (aN 60 (nth (a2 ws (Int.toNat ((64:Int)+(64:Int)*slot)) (Int.toNat (W ((64:Int)+(64:Int)*slot+4)))) (Int.toNat 1) (z.H z.int)))
  v1
  (((0:Int)<=(2:Int)/\(2:Int)<(((len (a2 ws (Int.toNat ((64:Int)+(64:Int)*slot)) (Int.toNat (W ((64:Int)+(64:Int)*slot+4))))):Nat):Int)) /\
  ((0:Int)<=(0:Int)/\(0:Int)<(((len (a2 ws (Int.toNat ((64:Int)+(64:Int)*slot)) (Int.toNat (W ((64:Int)+(64:Int)*slot+4))))):Nat):Int)) /\
  J (!(au (nth (a2 ws (Int.toNat ((64:Int)+(64:Int)*slot)) (Int.toNat (W ((64:Int)+(64:Int)*slot+4)))) (Int.toNat 2) (z.H z.int)) (hQ 65535 (nth (a2 ws (Int.toNat ((64:Int)+(64:Int)*slot)) (Int.toNat (W ((64:Int)+(64:Int)*slot+4)))) (Int.toNat 0) (z.H z.int)))))
  v1
  (((0:Int)<=(3:Int)/\(3:Int)<(((len (a2 ws (Int.toNat ((64:Int)+(64:Int)*slot)) (Int.toNat (W ((64:Int)+(64:Int)*slot+4))))):Nat):Int)) /\
  ((0:Int)<=(1:Int)/\(1:Int)<(((len (a2 ws (Int.toNat ((64:Int)+(64:Int)*slot)) (Int.toNat (W ((64:Int)+(64:Int)*slot+4))))):Nat):Int)) /\
  J (!(au (nth (a2 ws (Int.toNat ((64:Int)+(64:Int)*slot)) (Int.toNat (W ((64:Int)+(64:Int)*slot+4)))) (Int.toNat 3) (z.H z.int)) (hQ 65535 (nth (a2 ws (Int.toNat ((64:Int)+(64:Int)*slot)) (Int.toNat (W ((64:Int)+(64:Int)*slot+4)))) (Int.toNat 1) (z.H z.int)))))
  v1
  (((0:Int)<=slot/\slot<=1) /\
  ((0:Int)<=slot/\slot<=1) /\
  ((0:Int)<=(0:Int)/\(0:Int)<(((len (a2 ws (Int.toNat ((64:Int)+(64:Int)*slot)) (Int.toNat (W ((64:Int)+(64:Int)*slot+4))))):Nat):Int)) /\
  ((0:Int)<=W ((64:Int)+(64:Int)*slot+4)/\W ((64:Int)+(64:Int)*slot+4)<=W (W ((64:Int)+(64:Int)*slot+4)+nth (a2 ws (Int.toNat ((64:Int)+(64:Int)*slot)) (Int.toNat (W ((64:Int)+(64:Int)*slot+4)))) (Int.toNat 0) (z.H z.int))/\W (W ((64:Int)+(64:Int)*slot+4)+nth (a2 ws (Int.toNat ((64:Int)+(64:Int)*slot)) (Int.toNat (W ((64:Int)+(64:Int)*slot+4)))) (Int.toNat 0) (z.H z.int))<=(len ws:Int)) /\
  len (a2 ws (Int.toNat (W ((64:Int)+(64:Int)*slot+4))) (Int.toNat (W (W ((64:Int)+(64:Int)*slot+4)+nth (a2 ws (Int.toNat ((64:Int)+(64:Int)*slot)) (Int.toNat (W ((64:Int)+(64:Int)*slot+4)))) (Int.toNat 0) (z.H z.int)))))*8<=140737488355328 /\
  ((0:Int)<=(1:Int)/\(1:Int)<(((len (a2 ws (Int.toNat ((64:Int)+(64:Int)*slot)) (Int.toNat (W ((64:Int)+(64:Int)*slot+4))))):Nat):Int)) /\
  K (.an [.one (af (a2 ws (Int.toNat (W ((64:Int)+(64:Int)*slot+4))) (Int.toNat (W (W ((64:Int)+(64:Int)*slot+4)+nth (a2 ws (Int.toNat ((64:Int)+(64:Int)*slot)) (Int.toNat (W ((64:Int)+(64:Int)*slot+4)))) (Int.toNat 0) (z.H z.int)))))),.one (A (nth (a2 ws (Int.toNat ((64:Int)+(64:Int)*slot)) (Int.toNat (W ((64:Int)+(64:Int)*slot+4)))) (Int.toNat 1) (z.H z.int))),.one (A 0)]) [])))))))))) ?_
 subst cd;unfold lu at D;refine bN (fun h=>?_) (fun h=>?_)
 ·rw[if_neg h]at D;exact D
 rw[if_pos h]at D;obtain⟨I,G,ab⟩:=rq h;simp only at G;obtain⟨b,aA⟩:∃b,lO slot=b:=⟨_,rfl⟩
 have gA:(64+64*slot)=(b:Int):=by unfold lO at aA;omega
 rw[gA,cc (n:=(b:Int)+4) (by omega) (by omega),show Int.toNat ((b:Int)+4)=b+4 by omega,cM];have hlen:(a2 ws b (b+4)).length=4:=by simp[a2];omega
 have e7:nth (a2 ws b (b+4)) (Int.toNat (0:Int)) (z.H z.int)=ws.getD b 0:=o4 ws b (b+4) 0 (by omega);have a1:nth (a2 ws b (b+4)) (Int.toNat (1:Int)) (z.H z.int)=ws.getD (b+1) 0:=o4 ws b (b+4) 1 (by omega);have bf:nth (a2 ws b (b+4)) (Int.toNat (2:Int)) (z.H z.int)=ws.getD (b+2) 0:=o4 ws b (b+4) 2 (by omega);have cj:nth (a2 ws b (b+4)) (Int.toNat (3:Int)) (z.H z.int)=ws.getD (b+3) 0:=o4 ws b (b+4) 3 (by omega);rw[e7,a1,bf,cj];simp only[len,hlen];unfold na at D;simp only[aA]at D;have four:¬(l9 (ws.getD b 0) (ws.getD (b+1) 0)=true/\ws.getD (b+2) 0=65535-ws.getD b 0/\ws.getD (b+3) 0=65535-ws.getD (b+1) 0)->K (.an [.one (af []),.one (A 0),.one (A 4)]) []:=fun aq=>by
  have:ob ws b=false:=by
   unfold ob;cases dn:l9 (ws.getD b 0) (ws.getD (b+1) 0)
   ·rfl
   ·simp only[Bool.true_and,Bool.and_eq_false_iff,decide_eq_false_iff_not]
    by_cases c:ws.getD (b+2) 0=65535-ws.getD b 0
    ·exact .inr fun bb=>aq ⟨dn,c,bb⟩
    ·exact .inl c
  rw[this]at D;exact D
 have bO:l9 (ws.getD b 0) (ws.getD (b+1) 0)=true↔(1<=ws.getD b 0/\ws.getD b 0<=40/\1<=ws.getD (b+1) 0/\ws.getD (b+1) 0<=60):=by
  simp only[l9,Bool.and_eq_true,decide_eq_true_eq];omega
 rw[bO]at four;refine⟨by omega,by omega,by omega,by omega,bq (fun aV=>four (by omega)) (fun aV=>⟨by omega,bq (fun br=>four (by omega)) (fun br=>⟨by omega,bq (fun bV=>four (by omega)) (fun bV=>⟨by omega,bq (fun dm=>four (by omega)) (fun dm=>⟨by omega,by omega,?_⟩)⟩)⟩)⟩)⟩;rw[EI (a:=ws.getD b 0) (by omega) (by omega),EI (a:=ws.getD (b+1) 0) (by omega) (by omega)];refine bN (fun dZ=>four (by omega)) (fun dZ=>⟨by omega,by omega,bN (fun iE=>four (by omega)) (fun iE=>?_)⟩);rw[cc (by omega) (by omega),show Int.toNat ((b:Int)+4+ws.getD b 0)=b+4+(ws.getD b 0).toNat by omega];have av:ob ws b=true:=by
  unfold ob;rw[bO.2 (by omega)];simp only[Bool.true_and,Bool.and_eq_true,decide_eq_true_eq];exact⟨dZ,iE⟩
 rw[av]at D;have pL:(a2 ws (b+4) (b+4+(ws.getD b 0).toNat)).length<=192:=by simp[a2];omega
 exact⟨by omega,by omega,by omega,by omega,by omega,by omega,D⟩

def Ok:bd
 |[.agg [.E .int de,.E .int fQ,.E .int fM]],[]=>some (none,.one (cH (nY fQ de fM)),[])
 |_,_=>none

theorem ag8:bw 219 Ok:=b2 0 bv Tryz.func219 (by kernel_rfl) fun vs ar=>by
 unfold Ok;split;rotate_left;trivial;rename_i de fQ fM;refine⟨by kernel_rfl,fun K D=>?_⟩;refine⟨1,?_⟩;refine ck (fun rec=>(by kernel_rfl:_=(
  J (aN 0 fM)
  ((len (((1:Int)::de::fQ::[])::[])+len (((2:Int)::fM::[])::[]))*24<=140737488355328 /\
  K (.one (cH (cat (((1:Int)::de::fQ::[])::[]) (((2:Int)::fM::[])::[])))) [])
  (K (.one (cH (((1:Int)::de::fQ::[])::[]))) [])))) ?_
 unfold nY at D;refine bq (fun h=>?_) (fun h=>?_)
 ·rw[if_pos h]at D;exact⟨by simp[len],D⟩
 ·rw[if_neg (by omega)]at D;exact D

def BW:bd
 |[.one (.ptr 0 0),.one (.E (.list .int) r)],[.box [.E (.list .int) ws,.E .int fu,.E .bool up,.E .int bu,.E .int bx]]=>some (some (eQ r),.one (ay (e9 ⟨⟨ws,fu⟩,up,bu,bx⟩ r).2),[.box (fP (e9 ⟨⟨ws,fu⟩,up,bu,bx⟩ r).1)])
 |_,_=>none

theorem Wg:bw 204 BW:=b2 1 ((((bv.f L6).f Ml).f ag8).f Eh) Tryz.func204 (by kernel_rfl) fun vs ar=>by
 unfold BW;split;rotate_left;trivial;rename_i r ws fu up bu bx;refine⟨by kernel_rfl,fun ag K D=>?_⟩;refine⟨1,?_⟩;obtain⟨v1,cd⟩:∃v1,v1=nY (c2 ⟨ws,fu⟩).eV (c2 ⟨ws,fu⟩).slot (c2 ⟨ws,fu⟩).ready:=⟨_,rfl⟩
 obtain⟨v4,e1⟩:∃v4,v4=e2 ⟨⟨ws,fu⟩,up,bu,bx⟩ (fO ⟨ws,fu⟩ r v1).fst (fO ⟨ws,fu⟩ r v1).snd:=⟨_,rfl⟩
 refine ck (fun rec=>(by subst e1 cd;kernel_rfl:_=(
  (List.length r<=140737488355328/\len v1*24<=140737488351232/\iJ v1=true) /\
  K (.one (ay v4.snd)) [.box (fP v4.fst)]))) ?_
 subst e1 cd;have h:=ach (c2 ⟨ws,fu⟩).eV (c2 ⟨ws,fu⟩).slot (c2 ⟨ws,fu⟩).ready;exact⟨⟨ag,by simp only[len];omega,h.1⟩,D⟩

def BM:bd
 |[.one (.E (.list .int) a),.one (.E (.list .int) b)],[]=>some (some (eQ a),.one (ay (gj a b)),[])
 |_,_=>none
def MZ:Ctx:=[]
def xa:List cw:=[.inLoop [13,12,4,0,1] (Code.sub (bF Tryz.f23) [1,1,0,1,0,0]),.inBlock 0,.code (Code.sub (bF Tryz.f23) [1,1,1])]
def Kb(F al:Int)(M:Bool)(ae ao:aJ):bP:=⟨[(13,.one (A F)),(12,.one (A al)),(4,.one (ay M)),(0,.one (af ae)),(1,.one (af ao))],[],0⟩
theorem TR{F:Int}{rec:bZ}{K:aW}{al M ae ao}{v0}(b0:v0=fun a=>Kb a al M ae ao):b7 MZ tab Tryz.f23 0 K rec (cQ xa) (v0 F)=(
 J (aN F al)
 (((0:Int)<=F/\F<(len ae:Int)) /\
 ((0:Int)<=F/\F<(len ao:Int)) /\
 J (!(au (nth ae (Int.toNat F) (z.H z.int)) (nth ao (Int.toNat F) (z.H z.int))))
 (K fi [])
 (rec xa (v0 (W (F+1)))))
 (K og [])):=by subst_vars;kernel_rfl

theorem Sm(a b:aJ)(ax:a.length=b.length)(av:eQ a)(K:aW)(D:K (.one (ay (gj a b))) []):∀(d k:Nat),k+d=a.length->a.take k=b.take k ->
  cl MZ tab Tryz.f23 0 K (d+1) xa (Kb (k:Int) (((len a):Nat):Int) false a b)
 |0,k,ad,bp=>by
  rw[bW (L:=xa),TR rfl];refine co (by simp only[len];omega) ?_;rw[List.take_of_length_le (by omega),List.take_of_length_le (by omega)]at bp;rw[show gj a b=true from by simp[gj,bp]]at D;exact D
 |d+1,k,ad,bp=>by
  unfold eQ at av;rw[bW (L:=xa),TR rfl];refine cS (by simp only[len];omega) ⟨⟨by omega,by simp only[len];omega⟩,⟨by omega,by simp only[len];omega⟩,bN (fun dz=>?_) (fun heq=>?_)⟩
  ·rw[show gj a b=false from by simp only[gj,decide_eq_false_iff_not];rintro rfl;exact dz rfl]at D;exact D
  ·rw[di (by omega)];refine Sm a b ax ‹eQ a› K D d (k+1) (by omega) ?_;rw[ie (by omega) (z.H z.int),ie (by omega) (z.H z.int),bp];rw[cM]at heq;rw[heq]
theorem vt:bw 23 BM:=b2 (Γ:=MZ) 0 bv Tryz.func23 (by kernel_rfl) fun vs ar=>by
 unfold BM;split;rotate_left;trivial;rename_i a b;refine⟨by kernel_rfl,fun ag K D=>?_⟩;refine⟨a.length+2,?_⟩;refine ck (fun rec=>(by kernel_rfl:_=(
  J (!(au (len a:Int) (len b:Int)))
  (K fi [])
  (rec xa (Kb 0 (len a:Int) false a b))))) ?_
 refine bN (fun h=>?_) (fun h=>?_)
 ·rw[show gj a b=false from by simp only[gj,decide_eq_false_iff_not];rintro rfl;exact h rfl]at D;exact D
 ·exact Sm a b (by simp only[len]at h;omega) ag K D a.length 0 (by omega) rfl

def On:bd
 |[.agg [.E (.list .str) b],.one (.ptr 0 0),.agg [.E .int de,.E .int fQ,.E .int fM],.agg [.E .int mk,.E .int a8,.E .int ba,.E .int bD,.E .int cg,.E (.list .int) bT,.E .bool cy]],[.box [.E (.list .int) ws,.E .int fu,.E .bool up,.E .int bu,.E .int bx]]=>some (some (0<=de/\de<=1/\b.length<=140737488355328),.one (bB (o0 b ⟨⟨ws,fu⟩,up,bu,bx⟩ ⟨de,fQ,fM⟩ ⟨mk,a8,ba,bD,cg,bT,cy⟩).2),[.box (fP (o0 b ⟨⟨ws,fu⟩,up,bu,bx⟩ ⟨de,fQ,fM⟩ ⟨mk,a8,ba,bD,cg,bT,cy⟩).1)])
 |_,_=>none
def M8:Ctx:=[(202,FK),(203,GZ),(132,za),(170,Ca),(201,BV),(77,G0),(204,BW),(23,BM)]
theorem adk:fz Tryz.prog tab M8:=((((((((bv.f vt).f Wg).f WM).f L6).f WL).f Mv).f aix).f ahc)
theorem aeP(b:cB)(ws:aJ)(fu:Int)(up:Bool)(bu bx de fQ fM mk a8 ba bD cg:Int)(bT:aJ)(cy:Bool)(rec:bZ)(K:aW) v0 (b0:v0=lH ⟨mk,a8,ba,bD,cg,bT,cy⟩ true) v1 (cd:v1=lH ⟨mk,a8,ba,bD,cg,bT,cy⟩ false) aC (cR:aC=mT ⟨ws,fu⟩ (W ((1:Int)-de)) bD) v3 (ef:v3=hk b aC.fst) v4 (e1:v4=gB ⟨ws,fu⟩ (W ((1:Int)-de)) bD cg) cf (g5:cf=e2 ⟨⟨ws,fu⟩,up,bu,bx⟩ ⟨v4.fst.words,v4.fst.fuel⟩ v4.snd) dK (km:dK=lu ⟨cf.fst.f.words,cf.fst.f.fuel⟩ (W ((1:Int)-de))) dF (iG:dF=gj dK.fst aC.fst) eG (kI:eG=e9 ⟨⟨cf.fst.f.words,cf.fst.f.fuel⟩,cf.fst.up,0,0⟩ ((2:Int)::ba::[])) v9 (j3:v9=K (.one (bB v1)) [.box [af cf.fst.f.words,A cf.fst.f.fuel,ay cf.fst.up,A (0:Int),A (0:Int)]]) v10 (m9:v10=K (.one (bB v1)) [.box [af ws,A fu,ay up,A bu,A bx]]):b7 M8 tab Tryz.f182 1 K rec [.code (bF Tryz.f182)] (df [.agg [.E (z.list z.str) b],.one (.ptr 0 0),.agg [A de,A fQ,A fM],.agg [A mk,A a8,A ba,A bD,A cg,af bT,ay cy]] [.box [af ws,A fu,ay up,A bu,A bx]])=(
 J (dc ba fQ)
 (K (.one (bB ((⟨6,a8,ba,0,0,[],false⟩:fC)::[]))) [.box [af ws,A fu,ay up,A bu,A bx]])
 (J (au fM ba)
 (K (.one (bB v0)) [.box [af ws,A fu,ay up,A bu,A bx]])
 (J (aN 0 fM)
 v10
 (J (!(au aC.snd 0))
 v10
 (J (!(au bu ba))
 v10
 (J (!(au bx bD))
 v10
 (List.length b<=140737488355328 /\
 J (!(au v3.snd 0))
 v10
 (J (au v3.fst 0)
 v10
 (J (!(au v3.fst cg))
 v10
 (J (!cf.snd)
 (K (.one (bB [])) [.box (fP cf.fst)])
 (J (!(au dK.snd.snd 0))
 v9
 (J (!(au dK.snd.fst cg))
 v9
 (List.length dK.fst<=140737488355328 /\
 J (!dF)
 v9
 (List.length ((2:Int)::ba::[])<=140737488355328 /\
 J (!eG.snd)
 (K (.one (bB [])) [.box (fP eG.fst)])
 (K (.one (bB v0)) [.box (fP eG.fst)]))))))))))))))):=by subst_vars;kernel_rfl

theorem af2(ag:0<=de/\de<=1/\b.length<=140737488355328)(K:aW)(D:K (.one (bB (o0 b ⟨⟨ws,fu⟩,up,bu,bx⟩ ⟨de,fQ,fM⟩ ⟨mk,a8,ba,bD,cg,bT,cy⟩).2)) [.box (fP (o0 b ⟨⟨ws,fu⟩,up,bu,bx⟩ ⟨de,fQ,fM⟩ ⟨mk,a8,ba,bD,cg,bT,cy⟩).1)]):∃m,cl M8 tab Tryz.f182 1 K m [.code (bF Tryz.f182)] (df [.agg [.E (z.list z.str) b],.one (.ptr 0 0),.agg [A de,A fQ,A fM],.agg [A mk,A a8,A ba,A bD,A cg,af bT,ay cy]] [.box [af ws,A fu,ay up,A bu,A bx]]):=by
 refine⟨1,?_⟩;rw[eO,aeP _ _ _ _ _ _ _ _ _ _ _ _ _ _ _ _ _ _ _ rfl _ rfl _ rfl _ rfl _ rfl _ rfl _ rfl _ rfl _ rfl _ rfl _ rfl];obtain⟨fg,ft,hx⟩:=ag;rw[cc (n:=1-de) (by omega) (by omega)];unfold o0 at D;simp only at D;refine cn (fun h=>?_) (fun h=>cz (fun G=>?_) (fun G=>bq (fun ab=>?_) (fun ab=>?_)))
 ·rw[fV]at h;rw[if_pos h]at D;exact D
 ·rw[eC]at h;rw[if_neg (by omega),if_pos G]at D;exact D
 ·rw[eC]at h;rw[if_neg (by omega),if_neg G,if_pos ab]at D;exact D
 rw[eC]at h;rw[if_neg (by omega),if_neg G,if_neg (by omega)]at D;refine bN (fun aV=>?_) (fun aV=>bN (fun br=>?_) (fun br=>bN (fun bV=>?_) (fun bV=>⟨hx,bN (fun dm=>?_) (fun dm=>cz (fun dZ=>?_) (fun dZ=>bN (fun iE=>?_) (fun iE=>?_)))⟩)))
 ·rw[if_neg (fun g=>aV g.1)]at D;exact D
 ·rw[if_neg (fun g=>br g.2.1)]at D;exact D
 ·rw[if_neg (fun g=>bV g.2.2)]at D;exact D
 all_goals rw[if_pos ⟨aV,br,bV⟩]at D
 ·rw[if_neg (fun g=>dm g.1)]at D;exact D
 ·rw[if_neg (fun g=>g.2.1 dZ)]at D;exact D
 ·rw[if_neg (fun g=>iE g.2.2)]at D;exact D
 rw[if_pos ⟨dm,dZ,iE⟩]at D;refine eF (fun g=>?_) (fun g=>?_)
 ·rw[if_neg (by rw[show(lD ⟨⟨ws,fu⟩,up,bu,bx⟩ ⟨de,fQ,fM⟩ ⟨mk,a8,ba,bD,cg,bT,cy⟩).2=false from g];simp)]at D;exact D
 rw[if_pos (show(lD ⟨⟨ws,fu⟩,up,bu,bx⟩ ⟨de,fQ,fM⟩ ⟨mk,a8,ba,bD,cg,bT,cy⟩).2=true from g)]at D;obtain⟨cf,aQ⟩:∃cf,lD ⟨⟨ws,fu⟩,up,bu,bx⟩ ⟨de,fQ,fM⟩ ⟨mk,a8,ba,bD,cg,bT,cy⟩=cf:=⟨_,rfl⟩
 rw[aQ]at D;have kH:e2 ⟨⟨ws,fu⟩,up,bu,bx⟩ (gB ⟨ws,fu⟩ (1-de) bD cg).1 (gB ⟨ws,fu⟩ (1-de) bD cg).2=cf:=aQ;unfold AP at D;simp only at D;refine bN (fun bK=>?_) (fun bK=>bN (fun bX=>?_) (fun bX=>⟨?_,eF (fun dh=>?_) (fun dh=>⟨by simp,eF (fun eW=>?_) (fun eW=>?_)⟩)⟩))
 ·rw[kH]at bK |-; rw[if_neg (fun g=>bK g.1)]at D;exact D
 ·rw[kH]at bX |-; rw[if_neg (fun g=>bX g.2.1)]at D;exact D
 ·rw[kH]at bK |-;exact aca bK
 ·rw[kH]at dh |-;rw[if_neg (fun g=>by rw[show gj _ _=true from decide_eq_true g.2.2]at dh;cases dh)]at D;exact D
 ·rw[kH]at bK bX dh eW |-;rw[if_pos ⟨bK,bX,of_decide_eq_true dh⟩,if_neg (by rw[show(e9 _ _).2=false from eW];simp)]at D;exact D
 ·rw[kH]at bK bX dh eW |-;rw[if_pos ⟨bK,bX,of_decide_eq_true dh⟩,if_pos eW]at D;exact D
theorem ahd:bw 182 On:=hN adk Tryz.func182 (by kernel_rfl) (by
 intro vs ar p v dB h ag;unfold On at h;split at h
 ·cases h;exact⟨by kernel_rfl,rfl,.inl (af2 _ _ _ _ _ _ _ _ _ _ _ _ _ _ _ _ ag.1 _ ⟨rfl,rfl⟩)⟩
 ·cases h)

def Oo:bd
 |[.one (.ptr 0 0),.agg [.E .int de,.E .int fQ,.E .int fM],.agg [.E .int mk,.E .int a8,.E .int ba,.E .int bD,.E .int cg,.E (.list .int) bT,.E .bool cy]],[.box [.E (.list .int) ws,.E .int fu,.E .bool up,.E .int bu,.E .int bx]]=>some (some (0<=de/\de<=1),.one (bB (mw ⟨⟨ws,fu⟩,up,bu,bx⟩ ⟨de,fQ,fM⟩ ⟨mk,a8,ba,bD,cg,bT,cy⟩).2),[.box (fP (mw ⟨⟨ws,fu⟩,up,bu,bx⟩ ⟨de,fQ,fM⟩ ⟨mk,a8,ba,bD,cg,bT,cy⟩).1)])
 |_,_=>none
def M9:Ctx:=[(204,BW)]
theorem adl:fz Tryz.prog tab M9:=(bv.f Wg)
theorem aeQ(ws:aJ)(fu:Int)(up:Bool)(bu bx de fQ fM mk a8 ba bD cg:Int)(bT:aJ)(cy:Bool)(rec:bZ)(K:aW) v0 (b0:v0=e9 ⟨⟨ws,fu⟩,up,bu,bx⟩ ((1:Int)::W ((1:Int)-de)::ba::[])) v1 (cd:v1=e9 ⟨⟨ws,fu⟩,up,bu,bx⟩ ((3:Int)::ba::[])) aC (cR:aC=K (.one (bB ((⟨6,a8,ba,0,0,[],false⟩:fC)::[]))) [.box [af ws,A fu,ay up,A bu,A bx]]) v3 (ef:v3=K (.one (bB [])) [.box [af ws,A fu,ay up,A bu,A bx]]):b7 M9 tab Tryz.f183 1 K rec [.code (bF Tryz.f183)] (df [.one (.ptr 0 0),.agg [A de,A fQ,A fM],.agg [A mk,A a8,A ba,A bD,A cg,af bT,ay cy]] [.box [af ws,A fu,ay up,A bu,A bx]])=(
 J (au mk 4)
 (J (au fQ ba)
 aC
 (J (!(au fM ba))
 v3
 (List.length ((1:Int)::W ((1:Int)-de)::ba::[])<=140737488355328 /\
 J (!v0.snd)
 (K (.one (bB [])) [.box (fP v0.fst)])
 (K (.one (bB ((⟨6,a8,ba,0,0,[],false⟩:fC)::[]))) [.box (fP v0.fst)]))))
 (J (dc ba fQ)
 v3
 (J (au fM ba)
 (List.length ((3:Int)::ba::[])<=140737488355328 /\
 J (!v1.snd)
 (K (.one (bB [])) [.box (fP v1.fst)])
 (J (au v1.fst.n ba)
 (K (.one (bB ((⟨6,a8,ba,0,0,[],false⟩:fC)::[]))) [.box [af v1.fst.f.words,A v1.fst.f.fuel,ay v1.fst.up,A (0:Int),A (0:Int)]])
 (K (.one (bB ((⟨6,a8,ba,0,0,[],false⟩:fC)::[]))) [.box (fP v1.fst)])))
 (J (au bu ba)
 (K (.one (bB ((⟨6,a8,ba,0,0,[],false⟩:fC)::[]))) [.box [af ws,A fu,ay up,A (0:Int),A (0:Int)]])
 aC)))):=by subst_vars;kernel_rfl

theorem af3(ag:0<=de/\de<=1)(K:aW)(D:K (.one (bB (mw ⟨⟨ws,fu⟩,up,bu,bx⟩ ⟨de,fQ,fM⟩ ⟨mk,a8,ba,bD,cg,bT,cy⟩).2)) [.box (fP (mw ⟨⟨ws,fu⟩,up,bu,bx⟩ ⟨de,fQ,fM⟩ ⟨mk,a8,ba,bD,cg,bT,cy⟩).1)]):∃m,cl M9 tab Tryz.f183 1 K m [.code (bF Tryz.f183)] (df [.one (.ptr 0 0),.agg [A de,A fQ,A fM],.agg [A mk,A a8,A ba,A bD,A cg,af bT,ay cy]] [.box [af ws,A fu,ay up,A bu,A bx]]):=by
 refine⟨1,?_⟩;rw[eO,aeQ _ _ _ _ _ _ _ _ _ _ _ _ _ _ _ _ _ _ rfl _ rfl _ rfl _ rfl];obtain⟨fg,ft⟩:=ag;rw[cc (n:=1-de) (by omega) (by omega)];unfold mw at D;simp only at D;refine cz (fun h=>?_) (fun h=>?_)
 ·rw[if_pos h]at D;refine cz (fun G=>?_) (fun G=>bN (fun ab=>?_) (fun ab=>⟨by simp,eF (fun aV=>?_) (fun aV=>?_)⟩))
  ·rw[if_pos G]at D;exact D
  ·rw[if_neg G,if_neg ab]at D;exact D
  ·rw[if_neg G,if_pos ab,if_neg (by rw[aV];simp)]at D;exact D
  ·rw[if_neg G,if_pos ab,if_pos aV]at D;exact D
 ·rw[if_neg h]at D;refine cn (fun G=>?_) (fun G=>cz (fun ab=>⟨by simp,eF (fun aV=>?_) (fun aV=>?_)⟩) (fun ab=>?_))
  ·rw[fV]at G;rw[if_pos G]at D;exact D
  ·rw[eC]at G;rw[if_neg (by omega),if_pos ab,if_neg (by rw[aV];simp)]at D;exact D
  ·rw[eC]at G;rw[if_neg (by omega),if_pos ab,if_pos aV]at D;unfold pE at D;refine cz (fun br=>?_) (fun br=>?_)
   ·rw[if_pos br]at D;exact D
   ·rw[if_neg br]at D;exact D
  ·rw[eC]at G;rw[if_neg (by omega),if_neg ab]at D;unfold pE at D;refine cz (fun br=>?_) (fun br=>?_)
   ·rw[if_pos br]at D;exact D
   ·rw[if_neg br]at D;exact D
theorem ahe:bw 183 Oo:=hN adl Tryz.func183 (by kernel_rfl) (by
 intro vs ar p v dB h ag;unfold Oo at h;split at h
 ·cases h;exact⟨by kernel_rfl,rfl,.inl (af3 _ _ _ _ _ _ _ _ _ _ _ _ _ _ _ ag.1 _ ⟨rfl,rfl⟩)⟩
 ·cases h)

def FM:bd
 |[.agg [.E (.list .str) b],.agg [.E (.list .int) ws,.E .int fu,.E .bool up,.E .int bu,.E .int bx],.agg [.E .int mk,.E .int a8,.E .int ba,.E .int bD,.E .int cg,.E (.list .int) bT,.E .bool cy]],[]=>some (some (b.length<=140737488355328),.an [.agg (fP (hV b ⟨⟨ws,fu⟩,up,bu,bx⟩ ⟨mk,a8,ba,bD,cg,bT,cy⟩).1.1),.one (bB (hV b ⟨⟨ws,fu⟩,up,bu,bx⟩ ⟨mk,a8,ba,bD,cg,bT,cy⟩).1.2),.one (A (hV b ⟨⟨ws,fu⟩,up,bu,bx⟩ ⟨mk,a8,ba,bD,cg,bT,cy⟩).2)],[])
 |_,_=>none

theorem ahf:bw 156 FM:=b2 0 ((((((((bv.f ahe).f ahd).f ahb).f Eh).f L5).f Wh).f AV).f Ep) Tryz.func156 (by kernel_rfl) fun vs ar=>by
 unfold FM;split;rotate_left;trivial;rename_i b ws fu up bu bx mk a8 ba bD cg bT cy;refine⟨by kernel_rfl,fun ag K D=>?_⟩;refine⟨1,?_⟩;obtain⟨v3,ef⟩:∃v3,v3=c2 ⟨ws,fu⟩:=⟨_,rfl⟩
 obtain⟨cf,g5⟩:∃cf,cf=o0 b ⟨⟨ws,fu⟩,up,bu,bx⟩ ⟨v3.slot,v3.eV,v3.ready⟩ ⟨mk,a8,ba,bD,cg,bT,cy⟩:=⟨_,rfl⟩
 obtain⟨dK,km⟩:∃dK,dK=mw ⟨⟨ws,fu⟩,up,bu,bx⟩ ⟨v3.slot,v3.eV,v3.ready⟩ ⟨mk,a8,ba,bD,cg,bT,cy⟩:=⟨_,rfl⟩
 obtain⟨dF,iG⟩:∃dF,dF=K (.an [.agg [af ws,A fu,ay up,A bu,A bx],.one (bB []),.one (A 0)]) []:=⟨_,rfl⟩
 obtain⟨eG,kI⟩:∃eG,eG=K (.an [.agg (fP dK.fst),.one (bB dK.snd),.one (A 0)]) []:=⟨_,rfl⟩
 refine ck (fun rec=>(by subst kI iG km g5 ef;kernel_rfl:_=(
  J (!(au (fH b) 0))
  (K (.an [.agg [af [],A (0:Int),ay false,A (0:Int),A (0:Int)],.one (bB []),.one (A (fH b))]) [])
  (J (!(au (eZ ⟨⟨ws,fu⟩,up,bu,bx⟩) 0))
  (K (.an [.agg [af [],A (0:Int),ay false,A (0:Int),A (0:Int)],.one (bB []),.one (A (eZ ⟨⟨ws,fu⟩,up,bu,bx⟩))]) [])
  (J (!(au (gd ⟨mk,a8,ba,bD,cg,bT,cy⟩) 0))
  (K (.an [.agg [af [],A (0:Int),ay false,A (0:Int),A (0:Int)],.one (bB []),.one (A (gd ⟨mk,a8,ba,bD,cg,bT,cy⟩))]) [])
  (len ws*8<=140737488355328 /\
  J (!up)
  dF
  (J (au mk 1)
  (((0:Int)<=v3.slot/\v3.slot<=1/\(0:Int)<=bD/\bD<=40/\len bT<=8) /\
  K (.an [.agg (fP (oZ ⟨⟨ws,fu⟩,up,bu,bx⟩ ⟨v3.slot,v3.eV,v3.ready⟩ ⟨mk,a8,ba,bD,cg,bT,cy⟩)),.one (bB []),.one (A 0)]) [])
  (J (au mk 2)
  (((0:Int)<=v3.slot/\v3.slot<=1/\List.length b<=140737488355328) /\
  K (.an [.agg (fP cf.fst),.one (bB cf.snd),.one (A 0)]) [])
  (J (au mk 4)
  (J (au mk 4)
  (((0:Int)<=v3.slot/\v3.slot<=1) /\
  eG)
  dF)
  (J (au mk 5)
  (((0:Int)<=v3.slot/\v3.slot<=1) /\
  eG)
  dF)))))))))) ?_
 subst kI iG km g5 ef;have bad:∀e:Int,e≠0->rK b ⟨⟨ws,fu⟩,up,bu,bx⟩ ⟨mk,a8,ba,bD,cg,bT,cy⟩=e->K (.an [.agg [af [],A 0,ay false,A 0,A 0],.one (bB []),.one (A e)]) []:=fun e bp h=>by
  rw[show hV b ⟨⟨ws,fu⟩,up,bu,bx⟩ ⟨mk,a8,ba,bD,cg,bT,cy⟩=((u7,[]),e)from by unfold hV;rw[if_neg (by rw[h];exact bp),h]]at D;exact D
 refine bN (fun h=>bad _ h (if_neg h)) (fun h=>?_);have em:rK b ⟨⟨ws,fu⟩,up,bu,bx⟩ ⟨mk,a8,ba,bD,cg,bT,cy⟩=_:=if_pos h;refine bN (fun G=>bad _ G (em.trans (if_neg G))) (fun G=>?_);have dL:=em.trans (if_pos G);refine bN (fun ab=>bad _ ab dL) (fun ab=>?_);rw[show hV b ⟨⟨ws,fu⟩,up,bu,bx⟩ ⟨mk,a8,ba,bD,cg,bT,cy⟩=(g3 b ⟨⟨ws,fu⟩,up,bu,bx⟩ ⟨mk,a8,ba,bD,cg,bT,cy⟩,0)from if_pos (dL.trans ab)]at D;obtain⟨_,bb,_⟩:=qs G;obtain⟨_,_,_,_,_,_,e8,gU,_,_,hm,_⟩:=ov ab;obtain⟨⟨ix,jb⟩,_⟩:=w4 ⟨ws,fu⟩;simp only at bb e8 gU hm;unfold g3 at D;simp only at D;refine⟨by simp only[len];omega,eF (fun aV=>?_) (fun aV=>?_)⟩
 ·rw[if_neg (by rw[aV];simp)]at D;exact D
 rw[if_pos aV]at D;refine cz (fun br=>⟨⟨ix,jb,e8,gU,hm⟩,?_⟩) (fun br=>cz (fun bV=>⟨⟨ix,jb,ag⟩,?_⟩) (fun bV=>cz (fun dm=>ji dm ⟨⟨ix,jb⟩,?_⟩) (fun dm=>cz (fun dZ=>⟨⟨ix,jb⟩,?_⟩) (fun dZ=>?_))))
 ·rw[if_pos br]at D;exact D
 ·rw[if_neg br,if_pos bV]at D;exact D
 ·rw[if_neg br,if_neg bV,if_pos (.inl dm)]at D;exact D
 ·rw[if_neg br,if_neg bV,if_pos (.inr dZ)]at D;exact D
 ·rw[if_neg br,if_neg bV,if_neg (by omega)]at D;exact D

def B7:bd
 |[.one (.ptr 0 0),.one (.E (.list .message) l)],[.box [.E (.list .str) aM,.E (.list .signed) vs,.E (.list .int) ws,.E .int fu,.E .bool up,.E .int ak,.E (.list .int) ah,.E .int aj,.E .int ai,.E (.list .bool) Y,.E (.list .bool) aa,.own 1,.own 2,.own 3,.E .int now],.arr .aT us,.arr .aU cs,.arr .message U]=>some (some (U.length<=1000/\l.length<=1000/\mM l=true),.an [],[.box (kX (kO ⟨aM,vs,⟨⟨ws,fu⟩,up,⟨⟨ak,ah,aj⟩,ai⟩,Y,aa⟩,us,cs,U,now⟩ l) (.own 4) (.own 5) (.own 6)),.dead,.dead,.dead,.arr .aT (kO ⟨aM,vs,⟨⟨ws,fu⟩,up,⟨⟨ak,ah,aj⟩,ai⟩,Y,aa⟩,us,cs,U,now⟩ l).aL,.arr .aU (kO ⟨aM,vs,⟨⟨ws,fu⟩,up,⟨⟨ak,ah,aj⟩,ai⟩,Y,aa⟩,us,cs,U,now⟩ l).cp,.arr .message (kO ⟨aM,vs,⟨⟨ws,fu⟩,up,⟨⟨ak,ah,aj⟩,ai⟩,Y,aa⟩,us,cs,U,now⟩ l).U])
 |_,_=>none
def EP:Ctx:=[(60,y5)]
def vj:List cw:=[.inLoop [8,7,6,0] (Code.sub (bF Tryz.f115) [1,0,0]),.inBlock 0]
def KQ(F al:Int)(M:cG)(ae:cB)(ao:cD)(aE:aJ)(aH:Int)(aS:Bool)(aZ:Int)(bc:aJ)(bn bo:Int)(bm bC:c9)(bJ:Int)(bI:c3)(bM:db)(bz:cG):bP:=⟨[(8,.one (A F)),(7,.one (A al)),(6,.one (bB M)),(0,.one (.ptr 0 0))],[(0,.box [.E (z.list z.str) ae,.E (z.list z.signed) ao,af aE,A aH,ay aS,A aZ,af bc,A bn,A bo,bj bm,bj bC,.own 4,.own 5,.own 6,A bJ]),(1,.dead),(2,.dead),(3,.dead),(4,.arr z.aT bI),(5,.arr z.aU bM),(6,.arr z.message bz)],7⟩
theorem ae8(aM:cB)(vs:cD)(ws:aJ)(fu:Int)(up:Bool)(ak:Int)(ah:aJ)(aj ai:Int)(Y aa:c9)(us:c3)(cs:db)(U:cG)(now:Int)(l:cG)(rec:bZ)(K:aW):jP EP tab Tryz.f115 4 K rec [.code (bF Tryz.f115)] (qQ [.one (.ptr 0 0),.one (bB l)] [.box (en aM vs ws fu up ak ah aj ai Y aa (.own 1) (.own 2) (.own 3) now),.arr z.aT us,.arr z.aU cs,.arr z.message U])=(
 rec vj (KQ 0 (len l:Int) l aM vs ws fu up ak ah aj ai Y aa now us cs U)):=by kernel_rfl
theorem Uy{F:Int}{bz:cG}{rec:bZ}{K:aW}{al M ae ao aE aH aS aZ bc bn bo bm bC bJ bI bM}{v0}(b0:v0=fun a b=>KQ a al M ae ao aE aH aS aZ bc bn bo bm bC bJ bI bM b):jP EP tab Tryz.f115 4 K rec (cQ vj) (v0 F bz)=(
 J (aN F al)
 (((0:Int)<=F/\F<(len M:Int)) /\
 J (aN (len bz:Int) 24)
 (len (nth M (Int.toNat F) (z.H z.message)).words*8<=140737488355328 /\
 (len bz+len (((nth M (Int.toNat F) (z.H z.message)):fC)::[]))*72<=140737488355328 /\
 rec vj (v0 (W (F+1)) (cat bz (((nth M (Int.toNat F) (z.H z.message)):fC)::[]))))
 (rec vj (v0 (W (F+1)) bz)))
 (K (.an []) [.box [.E (z.list z.str) ae,.E (z.list z.signed) ao,af aE,A aH,ay aS,A aZ,af bc,A bn,A bo,bj bm,bj bC,.own 4,.own 5,.own 6,A bJ],.dead,.dead,.dead,.arr z.aT bI,.arr z.aU bM,.arr z.message bz])):=by subst_vars;kernel_rfl

theorem JB(l:cG)(ax:l.length<=1000)(av:mM l=true)(aM:cB)(vs:cD)(ws:aJ)(fu:Int)(up:Bool)(ak:Int)(ah:aJ)(aj ai:Int)(Y aa:c9)(now:Int)(us:c3)(cs:db)(K:aW):∀(d k:Nat) (U:cG),k+d=l.length->U.length<=1000 ->
  K (.an []) [.box (en aM vs ws fu up ak ah aj ai Y aa (.own 4) (.own 5) (.own 6) now),.dead,.dead,.dead,.arr z.aT us,.arr z.aU cs,.arr z.message (hz U (l.drop k))] ->
  h5 EP tab Tryz.f115 4 K (d+1) vj (KQ (k:Int) (((len l):Nat):Int) l aM vs ws fu up ak ah aj ai Y aa now us cs U)
 |0,k,U,ad,aq,D=>by
  rw[kh (L:=vj),Uy rfl];rw[List.drop_of_length_le (by omega),VX]at D;exact co (by simp only[len];omega) D
 |d+1,k,U,ad,aq,D=>by
  rw[kh (L:=vj),Uy rfl,cM,di (by omega)];rw[ep (by omega) (z.H z.message),VW]at D;have aB:(nth l k (z.H z.message)).words.length<=1000:=of_decide_eq_true (List.all_eq_true.1 av _ (h9 (by omega) _));obtain⟨m,fe⟩:∃m,nth l k (z.H z.message)=m:=⟨_,rfl⟩
  rw[fe]at D aB |-;refine cS (by simp only[len];omega) ⟨⟨by omega,by simp only[len];omega⟩,bq (fun h=>⟨by simp only[len];omega,by simp only[len,List.length_cons,List.length_nil];omega,?_⟩) (fun h=>?_)⟩
  ·rw[if_pos (by simp only[len]at h;omega)]at D;exact JB l ax av aM vs ws fu up ak ah aj ai Y aa now us cs K d (k+1) _ (by omega) (by simp only[cat,List.length_append,List.length_cons,List.length_nil];simp only[len]at h;omega) D
  ·rw[if_neg (by simp only[len]at h;omega)]at D;exact JB l ax av aM vs ws fu up ak ah aj ai Y aa now us cs K d (k+1) _ (by omega) aq D
theorem El:bw 115 B7:=sc (Γ:=EP) 4 (bv.f yp) Tryz.func115 (by kernel_rfl) fun vs ar=>by
 unfold B7;split;rotate_left;trivial;rename_i l aM vs ws fu up ak ah aj ai Y aa now us cs U;refine⟨by kernel_rfl,fun ag K D=>?_⟩;obtain⟨fg,ft,hx⟩:=ag;refine⟨l.length+2,?_⟩;rw[qF,ae8 _ _ _ _ _ _ _ _ _ _ _ _ _ _ _ _ _ _];exact JB l ft hx aM vs ws fu up ak ah aj ai Y aa now us cs K l.length 0 U (by omega) fg D

def OQ:bd
 |[.one (.ptr 0 0),.one (.E .int k)],[.box [.E (.list .str) aM,.E (.list .signed) vs,.E (.list .int) ws,.E .int fu,.E .bool up,.E .int ak,.E (.list .int) ah,.E .int aj,.E .int ai,.E (.list .bool) Y,.E (.list .bool) aa,.own 1,.own 2,.own 3,.E .int now],.arr .aT us,.arr .aU cs,.arr .message U]=>some (some (okW ⟨aM,vs,⟨⟨ws,fu⟩,up,⟨⟨ak,ah,aj⟩,ai⟩,Y,aa⟩,us,cs,U,now⟩=true/\0<=k/\k<(U.length:Int)),.an [],[.box (kX (ik ⟨aM,vs,⟨⟨ws,fu⟩,up,⟨⟨ak,ah,aj⟩,ai⟩,Y,aa⟩,us,cs,U,now⟩ k.toNat) (.own 4) (.own 5) (.own 6)),.dead,.dead,.dead,.arr .aT (ik ⟨aM,vs,⟨⟨ws,fu⟩,up,⟨⟨ak,ah,aj⟩,ai⟩,Y,aa⟩,us,cs,U,now⟩ k.toNat).aL,.arr .aU (ik ⟨aM,vs,⟨⟨ws,fu⟩,up,⟨⟨ak,ah,aj⟩,ai⟩,Y,aa⟩,us,cs,U,now⟩ k.toNat).cp,.arr .message (ik ⟨aM,vs,⟨⟨ws,fu⟩,up,⟨⟨ak,ah,aj⟩,ai⟩,Y,aa⟩,us,cs,U,now⟩ k.toNat).U])
 |_,_=>none
def Nj:Ctx:=[(114,Gs),(155,F3),(156,FM),(115,B7)]
theorem adu:fz Tryz.prog tab Nj:=((((bv.f El).f ahf).f ahr).f ⟨⟨_,Tryz.func114,(by kernel_rfl)⟩,Wz⟩)
theorem afa(aM:cB)(vs:cD)(ws:aJ)(fu:Int)(up:Bool)(ak:Int)(ah:aJ)(aj ai:Int)(Y aa:c9)(us:c3)(cs:db)(U:cG)(now k:Int)(rec:bZ)(K:aW) v0 (b0:v0=hK ⟨⟨ws,fu⟩,up,⟨⟨ak,ah,aj⟩,ai⟩,Y,aa⟩ ⟨(nth U (Int.toNat k) (z.H z.message)).kind,(nth U (Int.toNat k) (z.H z.message)).unit,(nth U (Int.toNat k) (z.H z.message)).n,(nth U (Int.toNat k) (z.H z.message)).at_,(nth U (Int.toNat k) (z.H z.message)).image,(nth U (Int.toNat k) (z.H z.message)).words,(nth U (Int.toNat k) (z.H z.message)).yes⟩) v1 (cd:v1=mM v0.fst.snd) aC (cR:aC=hz (List.eraseIdx U (Int.toNat k)) v0.fst.snd) v3 (ef:v3=hV aM ⟨⟨((nth us (Int.toNat (nth U (Int.toNat k) (z.H z.message)).unit) (z.H z.aT)).f).words,((nth us (Int.toNat (nth U (Int.toNat k) (z.H z.message)).unit) (z.H z.aT)).f).fuel⟩,(nth us (Int.toNat (nth U (Int.toNat k) (z.H z.message)).unit) (z.H z.aT)).up,(nth us (Int.toNat (nth U (Int.toNat k) (z.H z.message)).unit) (z.H z.aT)).n,(nth us (Int.toNat (nth U (Int.toNat k) (z.H z.message)).unit) (z.H z.aT)).eE⟩ ⟨(nth U (Int.toNat k) (z.H z.message)).kind,(nth U (Int.toNat k) (z.H z.message)).unit,(nth U (Int.toNat k) (z.H z.message)).n,(nth U (Int.toNat k) (z.H z.message)).at_,(nth U (Int.toNat k) (z.H z.message)).image,(nth U (Int.toNat k) (z.H z.message)).words,(nth U (Int.toNat k) (z.H z.message)).yes⟩) v4 (e1:v4=mM v3.fst.snd) cf (g5:cf=hz (List.eraseIdx U (Int.toNat k)) v3.fst.snd) eG (kI:eG=K (.an []) [.box (en aM vs ws fu up ak ah aj ai Y aa (.own 4) (.own 5) (.own 6) now),.dead,.dead,.dead,.arr z.aT us,.arr z.aU cs,.arr z.message (List.eraseIdx U (Int.toNat k))]) dK (km:dK=J (au v3.snd 0)
 (((0:Int)<=(nth U (Int.toNat k) (z.H z.message)).unit/\(nth U (Int.toNat k) (z.H z.message)).unit<(len us:Int)) /\
 Int.toNat (nth U (Int.toNat k) (z.H z.message)).unit<len us /\
 (List.length (List.eraseIdx U (Int.toNat k))<=1000/\List.length v3.fst.snd<=1000/\v4=true) /\
 K (.an []) [.box (en aM vs ws fu up ak ah aj ai Y aa (.own 4) (.own 5) (.own 6) now),.dead,.dead,.dead,.arr z.aT (setAt us (Int.toNat (nth U (Int.toNat k) (z.H z.message)).unit) ⟨⟨v3.fst.fst.f.words,v3.fst.fst.f.fuel⟩,v3.fst.fst.up,v3.fst.fst.n,v3.fst.fst.eE⟩),.arr z.aU cs,.arr z.message cf])
 eG) dF (iG:dF=J (au v0.snd 0)
 ((List.length (List.eraseIdx U (Int.toNat k))<=1000/\List.length v0.fst.snd<=1000/\v1=true) /\
 K (.an []) [.box [.E (z.list z.str) aM,.E (z.list z.signed) vs,af v0.fst.fst.f.words,A v0.fst.fst.f.fuel,ay v0.fst.fst.up,A v0.fst.fst.t.r.version,af v0.fst.fst.t.r.keys,A v0.fst.fst.t.r.ej,A v0.fst.fst.t.version,bj v0.fst.fst.cF,bj v0.fst.fst.did,.own 4,.own 5,.own 6,A now],.dead,.dead,.dead,.arr z.aT us,.arr z.aU cs,.arr z.message aC])
 eG):jP Nj tab Tryz.f113 4 K rec [.code (bF Tryz.f113)] (qQ [.one (.ptr 0 0),.one (A k)] [.box (en aM vs ws fu up ak ah aj ai Y aa (.own 1) (.own 2) (.own 3) now),.arr z.aT us,.arr z.aU cs,.arr z.message U])=(
 ((0:Int)<=k/\k<(len U:Int)) /\
 Int.toNat k<len U /\
 ((0:Int)<=k/\k<(((List.length U):Nat):Int)/\W (k+1)=k+1/\List.length U<=1000) /\
 J (au (nth U (Int.toNat k) (z.H z.message)).kind 3)
 (J (au (nth U (Int.toNat k) (z.H z.message)).kind 3)
 dF
 (((0:Int)<=(nth U (Int.toNat k) (z.H z.message)).unit/\(nth U (Int.toNat k) (z.H z.message)).unit<(len us:Int)) /\
 Int.toNat (nth U (Int.toNat k) (z.H z.message)).unit<len us /\
 List.length aM<=140737488355328 /\
 dK))
 (J (au (nth U (Int.toNat k) (z.H z.message)).kind 6)
 (J (au (nth U (Int.toNat k) (z.H z.message)).kind 6)
 dF
 (((0:Int)<=(nth U (Int.toNat k) (z.H z.message)).unit/\(nth U (Int.toNat k) (z.H z.message)).unit<(len us:Int)) /\
 Int.toNat (nth U (Int.toNat k) (z.H z.message)).unit<len us /\
 List.length aM<=140737488355328 /\
 dK))
 (J (au (nth U (Int.toNat k) (z.H z.message)).kind 7)
 dF
 (((0:Int)<=(nth U (Int.toNat k) (z.H z.message)).unit/\(nth U (Int.toNat k) (z.H z.message)).unit<(len us:Int)) /\
 Int.toNat (nth U (Int.toNat k) (z.H z.message)).unit<len us /\
 List.length aM<=140737488355328 /\
 dK)))):=by subst_vars;kernel_rfl

theorem agh(ag:okW ⟨aM,vs,⟨⟨ws,fu⟩,up,⟨⟨ak,ah,aj⟩,ai⟩,Y,aa⟩,us,cs,U,now⟩=true/\0<=k/\k<(U.length:Int))(K:aW)(D:K (.an []) [.box (kX (ik ⟨aM,vs,⟨⟨ws,fu⟩,up,⟨⟨ak,ah,aj⟩,ai⟩,Y,aa⟩,us,cs,U,now⟩ k.toNat) (.own 4) (.own 5) (.own 6)),.dead,.dead,.dead,.arr .aT (ik ⟨aM,vs,⟨⟨ws,fu⟩,up,⟨⟨ak,ah,aj⟩,ai⟩,Y,aa⟩,us,cs,U,now⟩ k.toNat).aL,.arr .aU (ik ⟨aM,vs,⟨⟨ws,fu⟩,up,⟨⟨ak,ah,aj⟩,ai⟩,Y,aa⟩,us,cs,U,now⟩ k.toNat).cp,.arr .message (ik ⟨aM,vs,⟨⟨ws,fu⟩,up,⟨⟨ak,ah,aj⟩,ai⟩,Y,aa⟩,us,cs,U,now⟩ k.toNat).U]):∃m,h5 Nj tab Tryz.f113 4 K m [.code (bF Tryz.f113)] (qQ [.one (.ptr 0 0),.one (A k)] [.box (en aM vs ws fu up ak ah aj ai Y aa (.own 1) (.own 2) (.own 3) now),.arr .aT us,.arr .aU cs,.arr .message U]):=by
 obtain⟨fg,ft,hx⟩:=ag;refine⟨1,?_⟩;rw[qF,afa _ _ _ _ _ _ _ _ _ _ _ _ _ _ _ _ _ _ _ rfl _ rfl _ rfl _ rfl _ rfl _ rfl _ rfl _ rfl _ rfl];have aP:=p0.1 fg;have aA:=rn aP.b;have oK:=aP.k6;obtain⟨gh,iM⟩:=aP.od;simp only at aA oK iM;have aB:=aP.msg _ (h9 (l:=U) (k:=k.toNat) (by omega) (z.H z.message));obtain⟨rP,s3⟩:=aB;obtain⟨_,_,hm,tg,_⟩:=ov rP;have hm:0<=(nth U k.toNat (z.H z.message)).unit:=hm;have tg:(nth U k.toNat (z.H z.message)).unit<=3:=tg;have pO:U.getD k.toNat l7=nth U k.toNat (z.H z.message):=rfl;obtain⟨v,aQ⟩:∃v:hq,v=⟨aM,vs,⟨⟨ws,fu⟩,up,⟨⟨ak,ah,aj⟩,ai⟩,Y,aa⟩,us,cs,U,now⟩:=⟨_,rfl⟩
 have nP:v.U.getD k.toNat l7=nth U k.toNat (z.H z.message):=by rw[aQ];rfl
 rw[<- aQ]at D;obtain⟨m,fe⟩:∃m,nth U k.toNat (z.H z.message)=m:=⟨_,rfl⟩
 rw[fe]at nP s3 hm tg |-;simp only at s3;have a1:lF m=true->(hK ⟨⟨ws,fu⟩,up,⟨⟨ak,ah,aj⟩,ai⟩,Y,aa⟩ m).2=0->ik v k.toNat=kO ⟨aM,vs,(hK ⟨⟨ws,fu⟩,up,⟨⟨ak,ah,aj⟩,ai⟩,Y,aa⟩ m).1.1,us,cs,U.eraseIdx k.toNat,now⟩ (hK ⟨⟨ws,fu⟩,up,⟨⟨ak,ah,aj⟩,ai⟩,Y,aa⟩ m).1.2:=fun h e=>by
  unfold ik;rw[nP,if_pos h,aQ];exact if_pos e
 have e7:lF m=true->(hK ⟨⟨ws,fu⟩,up,⟨⟨ak,ah,aj⟩,ai⟩,Y,aa⟩ m).2≠0->ik v k.toNat=⟨aM,vs,⟨⟨ws,fu⟩,up,⟨⟨ak,ah,aj⟩,ai⟩,Y,aa⟩,us,cs,U.eraseIdx k.toNat,now⟩:=fun h e=>by
  unfold ik;rw[nP,if_pos h,aQ];exact if_neg e
 have ajd:lF m=false->(hV aM (nth us m.unit.toNat (z.H z.aT)) m).2=0->ik v k.toNat=kO ⟨aM,vs,⟨⟨ws,fu⟩,up,⟨⟨ak,ah,aj⟩,ai⟩,Y,aa⟩,setAt us m.unit.toNat (hV aM (nth us m.unit.toNat (z.H z.aT)) m).1.1,cs,U.eraseIdx k.toNat,now⟩ (hV aM (nth us m.unit.toNat (z.H z.aT)) m).1.2:=fun h e=>by
  unfold ik;rw[nP,if_neg (by rw[h];simp),aQ];exact if_pos e
 have ajc:lF m=false->(hV aM (nth us m.unit.toNat (z.H z.aT)) m).2≠0->ik v k.toNat=⟨aM,vs,⟨⟨ws,fu⟩,up,⟨⟨ak,ah,aj⟩,ai⟩,Y,aa⟩,us,cs,U.eraseIdx k.toNat,now⟩:=fun h e=>by
  unfold ik;rw[nP,if_neg (by rw[h];simp),aQ];exact if_neg e
 have le:(U.eraseIdx k.toNat).length<=1000:=by
  have:=List.length_eraseIdx_le U k.toNat;omega
 have bs:=aar ⟨⟨ws,fu⟩,up,⟨⟨ak,ah,aj⟩,ai⟩,Y,aa⟩ m;have hu:=aav aM (nth us m.unit.toNat (z.H z.aT)) m;refine⟨⟨ft,by simp only[len];omega⟩,by simp only[len];omega,⟨ft,by omega,by rw[cc (by omega) (by omega)],by omega⟩,?_⟩;refine cz (fun h=>ji h (cz (fun e=>⟨⟨le,bs.1,bs.2⟩,by rw[a1 (by simp[lF,h]) e]at D;exact D⟩) (fun e=>by rw[e7 (by simp[lF,h]) e]at D;exact D))) (fun ab=>cz (fun h=>ji h (cz (fun e=>⟨⟨le,bs.1,bs.2⟩,by rw[a1 (by simp[lF,h]) e]at D;exact D⟩) (fun e=>by rw[e7 (by simp[lF,h]) e]at D;exact D))) (fun bV=>cz (fun h=>cz (fun e=>⟨⟨le,bs.1,bs.2⟩,by rw[a1 (by simp[lF,h]) e]at D;exact D⟩) (fun e=>by rw[e7 (by simp[lF,h]) e]at D;exact D)) (fun dm=>?_)));have h:lF m=false:=by simp[lF,ab,bV,dm]
 exact⟨⟨hm,by simp only[len];omega⟩,by simp only[len];omega,by omega,cz (fun e=>⟨⟨hm,by simp only[len];omega⟩,by simp only[len];omega,⟨le,hu.1,hu.2⟩,by rw[ajd h e]at D;exact D⟩) (fun e=>by rw[ajc h e]at D;exact D)⟩
theorem ahW:bw 113 OQ:=hN adu Tryz.func113 (by kernel_rfl) (by
 intro vs ar p v dB h ag;unfold OQ at h;split at h
 ·cases h;exact⟨by kernel_rfl,rfl,.inr (.inr (.inl (agh _ _ _ _ _ _ _ _ _ _ _ _ _ _ _ _ ag.1 _ ⟨rfl,rfl⟩)))⟩
 ·cases h)

def OU:bd
 |[.one (.ptr 0 0),.agg [.E .int ad,.E .int _,.E .int aq,.E (.list .root) _,.E (.list (.list .int)) _,.E .int _,.E .int _,.E (.list .target) _,.E (.list .int) _,.E (.list (.list .int)) _]],[.box [.E (.list .str) aM,.E (.list .signed) vs,.E (.list .int) ws,.E .int fu,.E .bool up,.E .int ak,.E (.list .int) ah,.E .int aj,.E .int ai,.E (.list .bool) Y,.E (.list .bool) aa,.own 1,.own 2,.own 3,.E .int now],.arr .aT us,.arr .aU cs,.arr .message U]=>some (some (okW ⟨aM,vs,⟨⟨ws,fu⟩,up,⟨⟨ak,ah,aj⟩,ai⟩,Y,aa⟩,us,cs,U,now⟩=true),.one (A (jK ⟨aM,vs,⟨⟨ws,fu⟩,up,⟨⟨ak,ah,aj⟩,ai⟩,Y,aa⟩,us,cs,U,now⟩ ad aq).2),[.box (kX (jK ⟨aM,vs,⟨⟨ws,fu⟩,up,⟨⟨ak,ah,aj⟩,ai⟩,Y,aa⟩,us,cs,U,now⟩ ad aq).1 (.own 4) (.own 5) (.own 6)),.dead,.dead,.dead,.arr .aT (jK ⟨aM,vs,⟨⟨ws,fu⟩,up,⟨⟨ak,ah,aj⟩,ai⟩,Y,aa⟩,us,cs,U,now⟩ ad aq).1.aL,.arr .aU (jK ⟨aM,vs,⟨⟨ws,fu⟩,up,⟨⟨ak,ah,aj⟩,ai⟩,Y,aa⟩,us,cs,U,now⟩ ad aq).1.cp,.arr .message (jK ⟨aM,vs,⟨⟨ws,fu⟩,up,⟨⟨ak,ah,aj⟩,ai⟩,Y,aa⟩,us,cs,U,now⟩ ad aq).1.U])
 |_,_=>none

theorem ah0:bw 62 OU:=sc 4 (((bv.f El).f ⟨⟨_,Tryz.func114,(by kernel_rfl)⟩,Wz⟩).f ahW) Tryz.func62 (by kernel_rfl) fun vs ar=>by
 unfold OU;split;rotate_left;trivial;rename_i ad hu aq rs rg bR b4 ts a7 bG aM vs ws fu up ak ah aj ai Y aa now us cs U;dsimp only[z.den]at ad hu aq rs rg bR b4 ts a7 bG aM vs ws fu up ak ah aj ai Y aa now us cs U;refine⟨by kernel_rfl,fun ag K D=>?_⟩;refine⟨1,?_⟩;obtain⟨v1,cd⟩:∃v1,v1=ik ⟨aM,vs,⟨⟨ws,fu⟩,up,⟨⟨ak,ah,aj⟩,ai⟩,Y,aa⟩,us,cs,U,now⟩ (Int.toNat aq):=⟨_,rfl⟩
 obtain⟨v4,e1⟩:∃v4,v4=K (.one (A 5)) [.box (en aM vs ws fu up ak ah aj ai Y aa (.own 4) (.own 5) (.own 6) now),.dead,.dead,.dead,.arr z.aT us,.arr z.aU cs,.arr z.message U]:=⟨_,rfl⟩
 refine kD (fun rec=>(by subst e1 cd;kernel_rfl:_=(
  J (aN aq 0)
  v4
  (J (dc (len U:Int) aq)
  v4
  (J (au ad 3)
  ((okW ⟨aM,vs,⟨⟨ws,fu⟩,up,⟨⟨ak,ah,aj⟩,ai⟩,Y,aa⟩,us,cs,U,now⟩=true/\(0:Int)<=aq/\aq<(((List.length U):Nat):Int)) /\
  K (.one (A 0)) [.box (kX v1 (.own 4) (.own 5) (.own 6)),.dead,.dead,.dead,.arr z.aT v1.aL,.arr z.aU v1.cp,.arr z.message v1.U])
  (J (au ad 4)
  (((0:Int)<=aq/\aq<(((List.length U):Nat):Int)/\W (aq+1)=aq+1/\List.length U<=1000) /\
  K (.one (A 0)) [.box (en aM vs ws fu up ak ah aj ai Y aa (.own 4) (.own 5) (.own 6) now),.dead,.dead,.dead,.arr z.aT us,.arr z.aU cs,.arr z.message (List.eraseIdx U (Int.toNat aq))])
  (J (au ad 5)
  (J (au (len U:Int) 24)
  (K (.one (A 8)) [.box (en aM vs ws fu up ak ah aj ai Y aa (.own 4) (.own 5) (.own 6) now),.dead,.dead,.dead,.arr z.aT us,.arr z.aU cs,.arr z.message U])
  (((0:Int)<=aq/\aq<(len U:Int)) /\
  Int.toNat aq<len U /\
  (List.length U<=1000/\List.length (((nth U (Int.toNat aq) (z.H z.message)):fC)::[])<=1000/\mM (((nth U (Int.toNat aq) (z.H z.message)):fC)::[])=true) /\
  K (.one (A 0)) [.box (en aM vs ws fu up ak ah aj ai Y aa (.own 4) (.own 5) (.own 6) now),.dead,.dead,.dead,.arr z.aT us,.arr z.aU cs,.arr z.message (hz U (((nth U (Int.toNat aq) (z.H z.message)):fC)::[]))]))
  (K (.one (A 0)) [.box (en aM vs ws fu up ak ah aj ai Y aa (.own 4) (.own 5) (.own 6) now),.dead,.dead,.dead,.arr z.aT us,.arr z.aU cs,.arr z.message U])))))))) ?_
 subst e1 cd;have aP:=p0.1 ag;have oK:=aP.k6;have CR:=aP.msg;simp only at oK CR;obtain⟨v,aQ⟩:∃v:hq,v=⟨aM,vs,⟨⟨ws,fu⟩,up,⟨⟨ak,ah,aj⟩,ai⟩,Y,aa⟩,us,cs,U,now⟩:=⟨_,rfl⟩
 have rQ:v.U=U:=by rw[aQ]
 by_cases bA:aq<0\/(U.length:Int)<=aq
 ·rw[<- aQ]at D;have e:jK v ad aq=(v,5):=if_pos (by rw[rQ];exact bA);rw[e,aQ]at D;refine bq (fun _=>D) (fun h=>gb (by rw[fV];simp only[len];omega) D)
 refine co (by omega) (fa (by rw[eC];simp only[len];omega) ?_);have em:jK v ad aq=_:=if_neg (by rw[rQ];exact bA);rw[<- aQ]at D;refine cz (fun h=>⟨⟨ag,by omega,by omega⟩,?_⟩) (fun h=>cz (fun G=>⟨⟨by omega,by omega,cc (by omega) (by omega),by omega⟩,?_⟩) (fun G=>cz (fun ab=>cz (fun aV=>?_) (fun aV=>⟨⟨by omega,by simp only[len];omega⟩,by simp only[len];omega,⟨by omega,by simp,?_⟩,?_⟩)) (fun ab=>?_)))
 ·rw[em.trans (if_pos h),aQ]at D;exact D
 ·rw[(em.trans (if_neg h)).trans (if_pos G),aQ]at D;exact D
 ·rw[((em.trans (if_neg h)).trans (if_neg G)).trans ((if_pos ab).trans (if_pos (by rw[rQ];simp only[len]at aV;omega))),aQ]at D;exact D
 ·have:=(ov (CR _ (h9 (l:=U) (k:=aq.toNat) (by omega) (z.H z.message))).1).2.2.2.2.2.2.2.2.2.2.1;exact V4 fun m aB=>by
   simp only[List.mem_singleton]at aB;subst aB;exact this
 ·rw[((em.trans (if_neg h)).trans (if_neg G)).trans ((if_pos ab).trans (if_neg (by rw[rQ];simp only[len]at aV;omega))),aQ]at D;exact D
 ·rw[((em.trans (if_neg h)).trans (if_neg G)).trans (if_neg ab),aQ]at D;exact D

def OE:bd
 |[.agg [.E (.list .int) ws,.E .int fu,.E .bool up,.E .int ak,.E (.list .int) ah,.E .int aj,.E .int ai,.E (.list .bool) Y,.E (.list .bool) aa]],[]=>some (none,.an [.agg (jB (su ⟨⟨ws,fu⟩,up,⟨⟨ak,ah,aj⟩,ai⟩,Y,aa⟩).1),.one (A (su ⟨⟨ws,fu⟩,up,⟨⟨ak,ah,aj⟩,ai⟩,Y,aa⟩).2)],[])
 |_,_=>none

theorem ahs:bw 116 OE:=b2 0 (((bv.f Ma).f Ej).f yq) Tryz.func116 (by kernel_rfl) fun vs ar=>by
 unfold OE;split;rotate_left;trivial;rename_i ws fu up ak ah aj ai Y aa;refine⟨by kernel_rfl,fun K D=>?_⟩;refine⟨1,?_⟩;refine ck (fun rec=>(by kernel_rfl:_=(
  J (!(au (dM ⟨⟨ws,fu⟩,up,⟨⟨ak,ah,aj⟩,ai⟩,Y,aa⟩) 0))
  (K (.an [.agg [af [],A (0:Int),ay false,A (0:Int),af [],A (0:Int),A (0:Int),bj [],bj []],.one (A (dM ⟨⟨ws,fu⟩,up,⟨⟨ak,ah,aj⟩,ai⟩,Y,aa⟩))]) [])
  ((len ws*8<=140737488355328/\len ah*8<=140737488355328/\len Y<=1000/\len aa<=1000) /\
  K (.an [.agg [af ws,A (-1),ay true,A ak,af ah,A aj,A ai,bj (c6 (List.length Y) false),bj (c6 (List.length aa) false)],.one (A 0)]) [])))) ?_
 unfold su at D;refine bN (fun h=>?_) (fun h=>?_)
 ·rw[if_neg h]at D;exact D
 ·rw[if_pos h]at D;obtain⟨ix,jb,lc,o3⟩:=rp h;exact⟨⟨ix,jb,lc,o3⟩,D⟩

def Oq:bd
 |[.agg [.E (.list .int) ws,.E .int fu,.E .bool up,.E .int bu,.E .int bx]],[]=>some (none,.an [.agg (fP (qo ⟨⟨ws,fu⟩,up,bu,bx⟩).1),.one (A (qo ⟨⟨ws,fu⟩,up,bu,bx⟩).2)],[])
 |_,_=>none

theorem ahg:bw 117 Oq:=b2 0 (((bv.f Wf).f L5).f AV) Tryz.func117 (by kernel_rfl) fun vs ar=>by
 unfold Oq;split;rotate_left;trivial;rename_i ws fu up bu bx;refine⟨by kernel_rfl,fun K D=>?_⟩;refine⟨1,?_⟩;refine ck (fun rec=>(by kernel_rfl:_=(
  J (!(au (eZ ⟨⟨ws,fu⟩,up,bu,bx⟩) 0))
  (K (.an [.agg [af [],A (0:Int),ay false,A (0:Int),A (0:Int)],.one (A (eZ ⟨⟨ws,fu⟩,up,bu,bx⟩))]) [])
  (len ws*8<=140737488355328 /\
  K (.an [.agg [af ws,A (-1),ay true,A (0:Int),A (0:Int)],.one (A 0)]) [])))) ?_
 unfold qo at D;refine bN (fun h=>?_) (fun h=>⟨?_,?_⟩)
 ·rw[if_neg h]at D;exact D
 ·have:=(qs h).2.1;simp only at this;simp only[len];omega
 ·rw[if_pos h]at D;exact D

def OR:bd
 |[.one (.ptr 0 0),.agg [.E .int ad,.E .int hu,.E .int aq,.E (.list .root) _,.E (.list (.list .int)) _,.E .int _,.E .int _,.E (.list .target) _,.E (.list .int) _,.E (.list (.list .int)) _]],[.box [.E (.list .str) aM,.E (.list .signed) vs,.E (.list .int) ws,.E .int fu,.E .bool up,.E .int ak,.E (.list .int) ah,.E .int aj,.E .int ai,.E (.list .bool) Y,.E (.list .bool) aa,.own 1,.own 2,.own 3,.E .int now],.arr .aT us,.arr .aU cs,.arr .message U]=>some (some (okW ⟨aM,vs,⟨⟨ws,fu⟩,up,⟨⟨ak,ah,aj⟩,ai⟩,Y,aa⟩,us,cs,U,now⟩=true),.one (A (jN ⟨aM,vs,⟨⟨ws,fu⟩,up,⟨⟨ak,ah,aj⟩,ai⟩,Y,aa⟩,us,cs,U,now⟩ ad hu aq).2),[.box (kX (jN ⟨aM,vs,⟨⟨ws,fu⟩,up,⟨⟨ak,ah,aj⟩,ai⟩,Y,aa⟩,us,cs,U,now⟩ ad hu aq).1 (.own 4) (.own 5) (.own 6)),.dead,.dead,.dead,.arr .aT (jN ⟨aM,vs,⟨⟨ws,fu⟩,up,⟨⟨ak,ah,aj⟩,ai⟩,Y,aa⟩,us,cs,U,now⟩ ad hu aq).1.aL,.arr .aU (jN ⟨aM,vs,⟨⟨ws,fu⟩,up,⟨⟨ak,ah,aj⟩,ai⟩,Y,aa⟩,us,cs,U,now⟩ ad hu aq).1.cp,.arr .message (jN ⟨aM,vs,⟨⟨ws,fu⟩,up,⟨⟨ak,ah,aj⟩,ai⟩,Y,aa⟩,us,cs,U,now⟩ ad hu aq).1.U])
 |_,_=>none

theorem ahX:bw 63 OR:=sc 4 ((bv.f ahg).f ahs) Tryz.func63 (by kernel_rfl) fun vs ar=>by
 unfold OR;split;rotate_left;trivial;rename_i ad hu aq rs rg bR b4 ts a7 bG aM vs ws fu up ak ah aj ai Y aa now us cs U;dsimp only[z.den]at ad hu aq rs rg bR b4 ts a7 bG aM vs ws fu up ak ah aj ai Y aa now us cs U;refine⟨by kernel_rfl,fun ag K D=>?_⟩;refine⟨1,?_⟩;obtain⟨v0,b0⟩:∃v0,v0=su ⟨⟨ws,fu⟩,up,⟨⟨ak,ah,aj⟩,ai⟩,Y,aa⟩:=⟨_,rfl⟩
 obtain⟨v3,ef⟩:∃v3,v3=K (.one (A 5)) [.box (en aM vs ws fu up ak ah aj ai Y aa (.own 4) (.own 5) (.own 6) now),.dead,.dead,.dead,.arr z.aT us,.arr z.aU cs,.arr z.message U]:=⟨_,rfl⟩
 obtain⟨v4,e1⟩:∃v4,v4=K (.one (A 3)) [.box (en aM vs ws fu up ak ah aj ai Y aa (.own 4) (.own 5) (.own 6) now),.dead,.dead,.dead,.arr z.aT us,.arr z.aU cs,.arr z.message U]:=⟨_,rfl⟩
 obtain⟨cf,g5⟩:∃cf,cf=J (au ad 6)
  (((0:Int)<=hu/\hu<(len us:Int)) /\
  Int.toNat hu<len us /\
  K (.one (A 0)) [.box (en aM vs ws fu up ak ah aj ai Y aa (.own 4) (.own 5) (.own 6) now),.dead,.dead,.dead,.arr z.aT (setAt us (Int.toNat hu) ⟨⟨((nth us (Int.toNat hu) (z.H z.aT)).f).words,aq⟩,(nth us (Int.toNat hu) (z.H z.aT)).up,(nth us (Int.toNat hu) (z.H z.aT)).n,(nth us (Int.toNat hu) (z.H z.aT)).eE⟩),.arr z.aU cs,.arr z.message U])
  (J (aN hu 0)
  (K (.one (A 0)) [.box [.E (z.list z.str) aM,.E (z.list z.signed) vs,af v0.fst.f.words,A v0.fst.f.fuel,ay v0.fst.up,A v0.fst.t.r.version,af v0.fst.t.r.keys,A v0.fst.t.r.ej,A v0.fst.t.version,bj v0.fst.cF,bj v0.fst.did,.own 4,.own 5,.own 6,A now],.dead,.dead,.dead,.arr z.aT us,.arr z.aU cs,.arr z.message U])
  (((0:Int)<=hu/\hu<(len us:Int)) /\
  Int.toNat hu<len us /\
  ((0:Int)<=hu/\hu<(len us:Int)) /\
  Int.toNat hu<len us /\
  K (.one (A 0)) [.box (en aM vs ws fu up ak ah aj ai Y aa (.own 4) (.own 5) (.own 6) now),.dead,.dead,.dead,.arr z.aT (setAt us (Int.toNat hu) (qo ⟨(nth us (Int.toNat hu) (z.H z.aT)).f,(nth us (Int.toNat hu) (z.H z.aT)).up,(nth us (Int.toNat hu) (z.H z.aT)).n,(nth us (Int.toNat hu) (z.H z.aT)).eE⟩).fst),.arr z.aU cs,.arr z.message U])):=⟨_,rfl⟩
 obtain⟨aC,cR⟩:∃aC,aC=J (au ad 6)
  (J (aN hu 0)
  (K (.one (A 0)) [.box [.E (z.list z.str) aM,.E (z.list z.signed) vs,af ws,A aq,ay up,A ak,af ah,A aj,A ai,bj Y,bj aa,.own 4,.own 5,.own 6,A now],.dead,.dead,.dead,.arr z.aT us,.arr z.aU cs,.arr z.message U])
  cf)
  cf:=⟨_,rfl⟩
 refine kD (fun rec=>(by subst cR g5 e1 ef b0;kernel_rfl:_=(
  J (aN hu (-1))
  v3
  (J (dc (len us:Int) hu)
  v3
  (J (au ad 6)
  (J (aN aq 0)
  v4
  (J (aN 100000 aq)
  v4
  aC))
  aC))))) ?_
 subst cR g5 e1 ef b0;have aP:=p0.1 ag;obtain⟨gh,iM⟩:=aP.od;simp only at iM;obtain⟨v,aQ⟩:∃v:hq,v=⟨aM,vs,⟨⟨ws,fu⟩,up,⟨⟨ak,ah,aj⟩,ai⟩,Y,aa⟩,us,cs,U,now⟩:=⟨_,rfl⟩
 have wR:v.aL.length=us.length:=by rw[aQ]
 rw[<- aQ]at D
 by_cases bA:hu < -1\/(us.length:Int)<=hu
 ·have e:jN v ad hu aq=(v,5):=if_pos (by rw[wR];exact bA);rw[e,aQ]at D;refine bq (fun _=>D) (fun h=>gb (by rw[fV];simp only[len];omega) D)
 refine co (by omega) (fa (by rw[eC];simp only[len];omega) ?_);have em:jN v ad hu aq=_:=if_neg (by rw[wR];exact bA);have tail:¬(ad=6/\(aq<0\/100000<aq))->jN v ad hu aq=if ad=6 then(if hu<0 then(Ih v aq,0)else(q4 v hu (zv (iN v hu) aq),0))else if hu<0 then(v8 v,0)else(q4 v hu (qo (iN v hu)).1,0):=fun h=>em.trans (if_neg h)
 refine cz (fun bV=>?_) (fun bV=>?_)
 ·by_cases bb:aq<0\/100000<aq
  ·have e:=em.trans (if_pos ⟨bV,bb⟩);rw[e,aQ]at D;exact bq (fun _=>D) (fun h=>cS (by omega) D)
  have e:=(tail (fun h=>bb h.2)).trans (if_pos bV);refine co (by omega) (co (by omega) (ji bV (bq (fun h=>?_) (fun h=>ji bV ⟨⟨h,by simp only[len];omega⟩,by simp only[len];omega,?_⟩))))
  ·rw[e,if_pos h,aQ]at D;exact D
  ·rw[e,if_neg (by omega),aQ]at D;exact D
 ·have e:=(tail (fun h=>bV h.1)).trans (if_neg bV);refine iC bV (iC bV (bq (fun h=>?_) (fun h=>⟨⟨h,by simp only[len];omega⟩,by simp only[len];omega,⟨h,by simp only[len];omega⟩,by simp only[len];omega,?_⟩)))
  ·rw[e,if_pos h,aQ]at D;exact D
  ·rw[e,if_neg (by omega),aQ]at D;exact D

def OH:bd
 |[.agg [.E (.list .int) ws,.E .int fu,.E .bool up,.E .int ak,.E (.list .int) ah,.E .int aj,.E .int ai,.E (.list .bool) Y,.E (.list .bool) aa]],[]=>some (none,.an [.agg (jB (j1 ⟨⟨ws,fu⟩,up,⟨⟨ak,ah,aj⟩,ai⟩,Y,aa⟩).1),.one (A (j1 ⟨⟨ws,fu⟩,up,⟨⟨ak,ah,aj⟩,ai⟩,Y,aa⟩).2)],[])
 |_,_=>none

theorem ahv:bw 64 OH:=b2 0 ((((bv.f Mb).f Ej).f Ei).f Mc) Tryz.func64 (by kernel_rfl) fun vs ar=>by
 unfold OH;split;rotate_left;trivial;rename_i ws fu up ak ah aj ai Y aa;refine⟨by kernel_rfl,fun K D=>?_⟩;refine⟨1,?_⟩;obtain⟨v3,ef⟩:∃v3,v3=K (.an [.agg [af [],A (0:Int),ay false,A (0:Int),af [],A (0:Int),A (0:Int),bj [],bj []],.one (A 12)]) []:=⟨_,rfl⟩
 refine ck (fun rec=>(by subst ef;kernel_rfl:_=(
  J (!(au (hP ⟨⟨ws,fu⟩,up,⟨⟨ak,ah,aj⟩,ai⟩,Y,aa⟩) 0))
  (K (.an [.agg [af [],A (0:Int),ay false,A (0:Int),af [],A (0:Int),A (0:Int),bj [],bj []],.one (A (hP ⟨⟨ws,fu⟩,up,⟨⟨ak,ah,aj⟩,ai⟩,Y,aa⟩))]) [])
  (J (au (bL ⟨ws,fu⟩).n 0)
  v3
  (J (bL ⟨ws,fu⟩).dv
  v3
  (J (bL ⟨ws,fu⟩).abort
  v3
  ((len ws*8<=140737488355328/\len ah*8<=140737488355328/\len Y<=1000/\len aa<=1000) /\
  List.length ((3:Int)::(bL ⟨ws,fu⟩).n::[])<=140737488355328 /\
  K (.an [.agg (jB (dJ ⟨⟨ws,fu⟩,up,⟨⟨ak,ah,aj⟩,ai⟩,Y,aa⟩ ((3:Int)::(bL ⟨ws,fu⟩).n::[])).fst),.one (A 0)]) []))))))) ?_
 subst ef;unfold j1 pC at D;simp only at D;obtain⟨s,av⟩:∃s,bL ⟨ws,fu⟩=s:=⟨_,rfl⟩
 rw[av]at D |-;refine bN (fun h=>?_) (fun h=>?_)
 ·rw[if_neg h,if_neg h]at D;exact D
 have az:dM ⟨⟨ws,fu⟩,up,⟨⟨ak,ah,aj⟩,ai⟩,Y,aa⟩=0:=vD h;obtain⟨ix,jb,lc,o3⟩:=rp az;rw[if_pos h]at D
 by_cases c:s.n=0\/s.dv=true\/s.abort=true
 ·rw[if_pos c,if_neg (by omega)]at D;refine cz (fun _=>D) (fun bA=>cn (fun _=>D) (fun bb=>cn (fun _=>D) (fun cr=>?_)));rw[bb,cr]at c;simp[bA]at c
 ·rw[if_neg c,if_pos rfl]at D;simp only[not_or,Bool.not_eq_true]at c;exact iC c.1 (fa c.2.1 (fa c.2.2 ⟨⟨ix,jb,lc,o3⟩,by simp,D⟩))

def FX:bd
 |[.agg [.E (.list .int) ws,.E .int fu,.E .bool up,.E .int ak,.E (.list .int) ah,.E .int aj,.E .int ai,.E (.list .bool) Y,.E (.list .bool) aa]],[]=>some (none,.an [.agg [A (ks ⟨⟨ws,fu⟩,up,⟨⟨ak,ah,aj⟩,ai⟩,Y,aa⟩).1.n,A (ks ⟨⟨ws,fu⟩,up,⟨⟨ak,ah,aj⟩,ai⟩,Y,aa⟩).1.version,ay (ks ⟨⟨ws,fu⟩,up,⟨⟨ak,ah,aj⟩,ai⟩,Y,aa⟩).1.dv,ay (ks ⟨⟨ws,fu⟩,up,⟨⟨ak,ah,aj⟩,ai⟩,Y,aa⟩).1.abort,ay (ks ⟨⟨ws,fu⟩,up,⟨⟨ak,ah,aj⟩,ai⟩,Y,aa⟩).1.ended],.one (A (ks ⟨⟨ws,fu⟩,up,⟨⟨ak,ah,aj⟩,ai⟩,Y,aa⟩).2)],[])
 |_,_=>none

theorem Wp:bw 22 FX:=b2 0 ((bv.f Ei).f yq) Tryz.func22 (by kernel_rfl) fun vs ar=>by
 unfold FX;split;rotate_left;trivial;rename_i ws fu up ak ah aj ai Y aa;refine⟨by kernel_rfl,fun K D=>?_⟩;refine⟨1,?_⟩;refine ck (fun rec=>(by kernel_rfl:_=(
  J (!(au (dM ⟨⟨ws,fu⟩,up,⟨⟨ak,ah,aj⟩,ai⟩,Y,aa⟩) 0))
  (K (.an [.agg [A (0:Int),A (0:Int),ay false,ay false,ay false],.one (A (dM ⟨⟨ws,fu⟩,up,⟨⟨ak,ah,aj⟩,ai⟩,Y,aa⟩))]) [])
  (K (.an [.agg [A (bL ⟨ws,fu⟩).n,A (bL ⟨ws,fu⟩).version,ay (bL ⟨ws,fu⟩).dv,ay (bL ⟨ws,fu⟩).abort,ay (bL ⟨ws,fu⟩).ended],.one (A 0)]) [])))) ?_
 unfold ks at D;refine bN (fun h=>?_) (fun h=>?_)
 ·rw[if_neg h]at D;exact D
 ·rw[if_pos h]at D;exact D

def OD:bd
 |[.agg [.E (.list .int) ws,.E .int fu,.E .bool up,.E .int ak,.E (.list .int) ah,.E .int aj,.E .int ai,.E (.list .bool) Y,.E (.list .bool) aa],.agg [.E .int eJ,.E .int e4,.E .int eo,.E (.list .target) dT,.E (.list (.list .int)) cU],.one (.E .int u)],[]=>some (some (dT.length<=140737488355328/\cU.length<=140737488355328),.an [.one (bB (hj ⟨⟨ws,fu⟩,up,⟨⟨ak,ah,aj⟩,ai⟩,Y,aa⟩ ⟨eJ,⟨e4,eo,dT⟩,cU⟩ u).1),.one (A (hj ⟨⟨ws,fu⟩,up,⟨⟨ak,ah,aj⟩,ai⟩,Y,aa⟩ ⟨eJ,⟨e4,eo,dT⟩,cU⟩ u).2)],[])
 |_,_=>none
def Nb:Ctx:=[(118,F1),(79,FU),(160,F2),(60,y6)]
def xv:List cw:=[.inLoop [12,11,10,9,7,6,4,2] (Code.sub (bF Tryz.f120) [1,1,1,1,1,1,1,1,1,1,0,1,0,0]),.inBlock 0,.code (Code.sub (bF Tryz.f120) [1,1,1,1,1,1,1,1,1,1,1])]
def Kx(F:Int)(al:aJ)(M ae:Int)(ao:cG)(aE aH:Int)(aS aZ bc:Bool)(bn:cG)(bo bm bC:Int)(bJ:LT)(bI:cu):bP:=⟨[(12,.one (A F)),(11,.one (.own 0)),(10,.one (af al)),(9,.one (.ptr 1 0)),(7,.one (A M)),(6,.one (.own 2)),(4,.one (.ptr 3 0)),(2,.one (A ae))],[(0,.arr z.message ao),(1,.box [A aE,A aH,ay aS,ay aZ,ay bc]),(2,.arr z.message bn),(3,.box [A bo,A bm,A bC,.E (z.list z.target) bJ,cH bI])],4⟩
theorem Ue{F:Int}{ao:cG}{rec:bZ}{K:aW}{al M ae aE aH aS aZ bc bn bo bm bC bJ bI}{v0}(b0:v0=fun a b=>Kx a al M ae b aE aH aS aZ bc bn bo bm bC bJ bI):b7 Nb tab Tryz.f120 0 K rec (cQ xv) (v0 F ao)=(
 J (aN F (len al:Int))
 (((0:Int)<=F/\F<=min (W (F+8)) (len al:Int)/\min (W (F+8)) (len al:Int)<=(len al:Int)) /\
 len (a2 al (Int.toNat F) (Int.toNat (min (W (F+8)) (len al:Int))))*8<=140737488355328 /\
 (len ao+len ((⟨1,ae,aE,F,0,a2 al (Int.toNat F) (Int.toNat (min (W (F+8)) (len al:Int))),false⟩:fC)::[]))*72<=140737488355328 /\
 rec xv (v0 (W (F+8)) (cat ao ((⟨1,ae,aE,F,0,a2 al (Int.toNat F) (Int.toNat (min (W (F+8)) (len al:Int))),false⟩:fC)::[]))))
 (((0:Int)<=ae/\ae<(len bJ:Int)) /\
 (len ao+len ((⟨2,ae,aE,(len al:Int),(nth bJ (Int.toNat ae) (z.H z.target)).image,[],false⟩:fC)::[]))*72<=140737488355328 /\
 K (.an [.one (bB (cat ao ((⟨2,ae,aE,(len al:Int),(nth bJ (Int.toNat ae) (z.H z.target)).image,[],false⟩:fC)::[]))),.one (A 0)]) [])):=by subst_vars;kernel_rfl

theorem SF(w:aJ)(u n:Int)(cb:w.length<=40)(a b:Int)(c d e:Bool)(ml:cG)(eJ e4 eo:Int)(dT:LT)(cU:cu)(hu:0<=u/\u<(dT.length:Int))(K:aW) :
  ∀(f k:Nat) (acc:cG),w.length<=k+8*f->k<=48->acc.length+f<=6->K (.an [.one (bB (acc++(iZ u n w f k++[⟨2,u,n,(w.length:Int),(nth dT u.toNat ⟨0,0,0⟩).image,[],false⟩]))),.one (A (0:Int))]) [] ->
  cl Nb tab Tryz.f120 0 K (f+1) xv (Kx (k:Int) w a u acc n b c d e ml eJ e4 eo dT cU)
 |0,k,acc,ad,ZS,bh,D=>by
  rw[bW (L:=xv),Ue rfl];exact co (by simp only[len];omega) ⟨⟨hu.1,by simp only[len];omega⟩,by simp only[len,List.length_cons,List.length_nil];omega,D⟩
 |f+1,k,acc,ad,ZS,bh,D=>by
  rw[bW (L:=xv),Ue rfl]
  by_cases c:k<w.length
  ·simp only[iZ,if_pos c]at D;have HM:min (W ((k:Int)+8)) (((len w:Nat)):Int)=((min (k+8) w.length:Nat):Int):=by rw[cc (by omega) (by omega)];simp only[len];omega
   rw[HM,cM,cM,show W ((k:Int)+8)=((k+8:Nat):Int)by rw[cc (by omega) (by omega)];omega];have aks:len (a2 w k (min (k+8) w.length))<=8:=by simp only[len,a2,List.length_drop,List.length_take];omega
   refine cS (by simp only[len];omega) ⟨⟨by omega,by omega,by simp only[len];omega⟩,by omega,by simp only[len,List.length_cons,List.length_nil];omega,?_⟩;refine SF w u n cb a b _ d e ml eJ e4 eo dT cU hu K f (k+8) _ (by omega) (by omega) (by simp only[cat,List.length_append,List.length_cons,List.length_nil];omega) ?_;simp only[cat,List.append_assoc,List.cons_append,List.nil_append]at D |-;exact D
  ·simp only[iZ,if_neg c]at D;exact co (by simp only[len];omega) ⟨⟨hu.1,by simp only[len];omega⟩,by simp only[len,List.length_cons,List.length_nil];omega,D⟩
theorem ahq:bw 120 OD:=b2 (Γ:=Nb) 0 ((((bv.f vu).f Wq).f Ei).f Mc) Tryz.func120 (by kernel_rfl) fun vs ar=>by
 unfold OD;split;rotate_left;trivial;rename_i ws fu up ak ah aj ai Y aa eJ e4 eo dT cU u;dsimp only[z.den]at ws fu up ak ah aj ai Y aa eJ e4 eo dT cU u;refine⟨by kernel_rfl,fun ag K D=>?_⟩;unfold hj wv sB at D;simp only at D;have tf:((len Y:Nat):Int)=(Y.length:Int):=rfl;have nZ:((len aa:Nat):Int)=(aa.length:Int):=rfl;have wX:((len cU:Nat):Int)=(cU.length:Int):=rfl;have lt:((len dT:Nat):Int)=(dT.length:Int):=rfl;obtain⟨s,av⟩:∃s,bL ⟨ws,fu⟩=s:=⟨_,rfl⟩
 rw[av]at D;refine⟨7+1,?_⟩;obtain⟨v1,cd⟩:∃v1,v1=bL ⟨ws,fu⟩:=⟨_,rfl⟩
 obtain⟨v3,ef⟩:∃v3,v3=J (nth aa (Int.toNat u) (z.H z.bool))
  (K (.an [.one (bB []),.one (A 0)]) [])
  (K (.an [.one (bB ((⟨nd v1 v1.n,u,v1.n,0,0,[],false⟩:fC)::[])),.one (A 0)]) []):=⟨_,rfl⟩
 refine ck (fun rec=>(by subst ef cd;kernel_rfl:_=(
  J (!(au (hP ⟨⟨ws,fu⟩,up,⟨⟨ak,ah,aj⟩,ai⟩,Y,aa⟩) 0))
  (K (.an [.one (bB []),.one (A (hP ⟨⟨ws,fu⟩,up,⟨⟨ak,ah,aj⟩,ai⟩,Y,aa⟩))]) [])
  (J (au v1.n 0)
  (K (.an [.one (bB []),.one (A 12)]) [])
  (J v1.ended
  (K (.an [.one (bB []),.one (A 12)]) [])
  (J (aN u 0)
  (K (.an [.one (bB []),.one (A 5)]) [])
  (J (dc (len Y:Int) u)
  (K (.an [.one (bB []),.one (A 5)]) [])
  (J (!(au eJ v1.n))
  (K (.an [.one (bB []),.one (A 5)]) [])
  (J (dc (len cU:Int) u)
  (K (.an [.one (bB []),.one (A 5)]) [])
  (J (dc (len dT:Int) u)
  (K (.an [.one (bB []),.one (A 5)]) [])
  (J v1.dv
  (((0:Int)<=u/\u<(len aa:Int)) /\
  v3)
  (J v1.abort
  (((0:Int)<=u/\u<(len aa:Int)) /\
  v3)
  (((0:Int)<=u/\u<(len Y:Int)) /\
  J (nth Y (Int.toNat u) (z.H z.bool))
  (K (.an [.one (bB []),.one (A 0)]) [])
  (((0:Int)<=u/\u<(len cU:Int)) /\
  J (aN 40 (((len (nth cU (Int.toNat u) (z.H (z.list z.int)))):Nat):Int))
  (K (.an [.one (bB []),.one (A 2)]) [])
  (rec xv (Kx 0 (nth cU (Int.toNat u) (z.H (z.list z.int))) 0 u [] v1.n v1.version v1.dv v1.abort v1.ended [] eJ e4 eo dT cU)))))))))))))))) ?_
 subst ef cd;rw[av,tf,nZ,wX,lt];refine bN (fun h=>?_) (fun h=>?_)
 ·rw[if_neg h,if_neg h]at D;exact D
 have az:dM ⟨⟨ws,fu⟩,up,⟨⟨ak,ah,aj⟩,ai⟩,Y,aa⟩=0:=vD h;obtain⟨_,v1,aC,v3,_⟩:=im az;simp only at v1 aC v3;rw[if_pos h]at D
 by_cases bA:s.n=0\/s.ended=true
 ·rw[if_pos bA,if_neg (by decide)]at D;exact cz (fun _=>D) (fun q=>gb (bA.resolve_left q) D)
 rw[if_neg bA]at D;simp only[not_or,Bool.not_eq_true]at bA;refine iC bA.1 (fa bA.2 ?_)
 by_cases bb:u<0\/(Y.length:Int)<=u\/eJ≠s.n\/(cU.length:Int)<=u\/(dT.length:Int)<=u
 ·rw[if_pos bb,if_neg (by decide)]at D;exact bq (fun _=>D) (fun cJ=>cn (fun _=>D) (fun cE=>bN (fun _=>D) (fun ey=>cn (fun _=>D) (fun gw=>gb (fV.2 (by rw[eC]at cE gw;omega)) D))))
 rw[if_neg bb,if_pos rfl]at D;refine co (by omega) (fa (eC.2 (by omega)) (u5 (by omega) (fa (eC.2 (by omega)) (fa (eC.2 (by omega)) ?_))));have dec:s.dv=true\/s.abort=true->J (nth aa (Int.toNat u) (z.H z.bool)) (K (.an [.one (bB []),.one (A (0:Int))]) [])
   (K (.an [.one (bB ((⟨nd s s.n,u,s.n,(0:Int),(0:Int),[],false⟩:fC)::[])),.one (A (0:Int))]) []):=fun bO=>by
  rw[if_pos bO]at D;refine cn (fun q=>?_) (fun q=>?_)
  ·rw[if_pos (by exact q)]at D;exact D
  ·rw[if_neg (by exact Bool.eq_false_iff.1 q)]at D;exact D
 refine cn (fun d1=>⟨⟨by omega,by omega⟩,dec (.inl d1)⟩) (fun d1=>cn (fun d2=>⟨⟨by omega,by omega⟩,dec (.inr d2)⟩) (fun d2=>⟨⟨by omega,by omega⟩,?_⟩));rw[if_neg (by rw[d1,d2];simp)]at D;refine cn (fun q=>?_) (fun q=>⟨⟨by omega,by omega⟩,?_⟩)
 ·rw[if_pos (by exact q)]at D;exact D
 rw[if_neg (by exact Bool.eq_false_iff.1 q)]at D;unfold wS at D;simp only at D;obtain⟨w,cb⟩:∃w,nth cU (Int.toNat u) (z.H (z.list z.int))=w:=⟨_,rfl⟩
 have Dg:nth cU (Int.toNat u) []=w:=cb;rw[cb];rw[Dg]at D;have JG:((len w:Nat):Int)=(w.length:Int):=rfl;rw[JG]
 by_cases cr:40<w.length
 ·rw[if_pos cr]at D;exact cS (by omega) D
 ·rw[if_neg cr]at D;have ax:=SF w u s.n (by omega) 0 s.version s.dv s.abort s.ended [] eJ e4 eo dT cU ⟨by omega,by omega⟩ K 6 0 [] (by omega) (by omega) (by simp) (by rw[List.nil_append];exact D);exact co (by omega) ax

def OT:bd
 |[.one (.ptr 0 0),.one (.E .int k)],[.box [.E (.list .str) aM,.E (.list .signed) vs,.E (.list .int) ws,.E .int fu,.E .bool up,.E .int ak,.E (.list .int) ah,.E .int aj,.E .int ai,.E (.list .bool) Y,.E (.list .bool) aa,.own 1,.own 2,.own 3,.E .int now],.arr .aT us,.arr .aU cs,.arr .message U]=>some (some (okW ⟨aM,vs,⟨⟨ws,fu⟩,up,⟨⟨ak,ah,aj⟩,ai⟩,Y,aa⟩,us,cs,U,now⟩=true),.one (A (k7 ⟨aM,vs,⟨⟨ws,fu⟩,up,⟨⟨ak,ah,aj⟩,ai⟩,Y,aa⟩,us,cs,U,now⟩ k).2),[.box (kX (k7 ⟨aM,vs,⟨⟨ws,fu⟩,up,⟨⟨ak,ah,aj⟩,ai⟩,Y,aa⟩,us,cs,U,now⟩ k).1 (.own 4) (.own 5) (.own 6)),.dead,.dead,.dead,.arr .aT (k7 ⟨aM,vs,⟨⟨ws,fu⟩,up,⟨⟨ak,ah,aj⟩,ai⟩,Y,aa⟩,us,cs,U,now⟩ k).1.aL,.arr .aU (k7 ⟨aM,vs,⟨⟨ws,fu⟩,up,⟨⟨ak,ah,aj⟩,ai⟩,Y,aa⟩,us,cs,U,now⟩ k).1.cp,.arr .message (k7 ⟨aM,vs,⟨⟨ws,fu⟩,up,⟨⟨ak,ah,aj⟩,ai⟩,Y,aa⟩,us,cs,U,now⟩ k).1.U])
 |_,_=>none

theorem ahZ:bw 65 OT:=sc 4 (((bv.f El).f ahq).f Wp) Tryz.func65 (by kernel_rfl) fun vs ar=>by
 unfold OT;split;rotate_left;trivial;rename_i k aM vs ws fu up ak ah aj ai Y aa now us cs U;refine⟨by kernel_rfl,fun ag K D=>?_⟩;refine⟨1,?_⟩;obtain⟨v0,b0⟩:∃v0,v0=ks ⟨⟨ws,fu⟩,up,⟨⟨ak,ah,aj⟩,ai⟩,Y,aa⟩:=⟨_,rfl⟩
 obtain⟨v1,cd⟩:∃v1,v1=hj ⟨⟨ws,fu⟩,up,⟨⟨ak,ah,aj⟩,ai⟩,Y,aa⟩ ⟨(nth cs (Int.toNat (W (v0.fst.n-1))) (z.H z.aU)).n,⟨((nth cs (Int.toNat (W (v0.fst.n-1))) (z.H z.aU)).r).version,((nth cs (Int.toNat (W (v0.fst.n-1))) (z.H z.aU)).r).ca,((nth cs (Int.toNat (W (v0.fst.n-1))) (z.H z.aU)).r).targets⟩,(nth cs (Int.toNat (W (v0.fst.n-1))) (z.H z.aU)).cL⟩ k:=⟨_,rfl⟩
 obtain⟨v4,e1⟩:∃v4,v4=hj ⟨⟨ws,fu⟩,up,⟨⟨ak,ah,aj⟩,ai⟩,Y,aa⟩ ⟨0,⟨0,0,[]⟩,[]⟩ k:=⟨_,rfl⟩
 refine kD (fun rec=>(by subst e1 cd b0;kernel_rfl:_=(
  J (aN (len cs:Int) v0.fst.n)
  (K (.one (A 5)) [.box (en aM vs ws fu up ak ah aj ai Y aa (.own 4) (.own 5) (.own 6) now),.dead,.dead,.dead,.arr z.aT us,.arr z.aU cs,.arr z.message U])
  (J (aN 0 v0.fst.n)
  (((0:Int)<=W (v0.fst.n-1)/\W (v0.fst.n-1)<(len cs:Int)) /\
  Int.toNat (W (v0.fst.n-1))<len cs /\
  (List.length ((nth cs (Int.toNat (W (v0.fst.n-1))) (z.H z.aU)).r).targets<=140737488355328/\List.length (nth cs (Int.toNat (W (v0.fst.n-1))) (z.H z.aU)).cL<=140737488355328) /\
  J (!(au v1.snd 0))
  (K (.one (A v1.snd)) [.box (en aM vs ws fu up ak ah aj ai Y aa (.own 4) (.own 5) (.own 6) now),.dead,.dead,.dead,.arr z.aT us,.arr z.aU cs,.arr z.message U])
  ((List.length U<=1000/\List.length v1.fst<=1000/\mM v1.fst=true) /\
  K (.one (A 0)) [.box (en aM vs ws fu up ak ah aj ai Y aa (.own 4) (.own 5) (.own 6) now),.dead,.dead,.dead,.arr z.aT us,.arr z.aU cs,.arr z.message (hz U v1.fst)]))
  ((List.length ([]:List Int)<=140737488355328/\List.length ([]:List Int)<=140737488355328) /\
  J (!(au v4.snd 0))
  (K (.one (A v4.snd)) [.box (en aM vs ws fu up ak ah aj ai Y aa (.own 4) (.own 5) (.own 6) now),.dead,.dead,.dead,.arr z.aT us,.arr z.aU cs,.arr z.message U])
  ((List.length U<=1000/\List.length v4.fst<=1000/\mM v4.fst=true) /\
  K (.one (A 0)) [.box (en aM vs ws fu up ak ah aj ai Y aa (.own 4) (.own 5) (.own 6) now),.dead,.dead,.dead,.arr z.aT us,.arr z.aU cs,.arr z.message (hz U v4.fst)])))))) ?_
 subst e1 cd b0;have aP:=p0.1 ag;have oK:=aP.k6;have dZ:=aP.mu;obtain⟨gh,iM⟩:=aP.od;have ev:=aP.uh;simp only at iM oK dZ ev;obtain⟨v,aQ⟩:∃v:hq,v=⟨aM,vs,⟨⟨ws,fu⟩,up,⟨⟨ak,ah,aj⟩,ai⟩,Y,aa⟩,us,cs,U,now⟩:=⟨_,rfl⟩
 rw[<- aQ]at D;have uI:v.g=⟨⟨ws,fu⟩,up,⟨⟨ak,ah,aj⟩,ai⟩,Y,aa⟩:=by rw[aQ]
 have j2:v.cp=cs:=by rw[aQ]
 obtain⟨mD,n2⟩:=afP ⟨⟨ws,fu⟩,up,⟨⟨ak,ah,aj⟩,ai⟩,Y,aa⟩;obtain⟨n,aq⟩:∃n,(ks ⟨⟨ws,fu⟩,up,⟨⟨ak,ah,aj⟩,ai⟩,Y,aa⟩).1.n=n:=⟨_,rfl⟩
 rw[aq]at mD n2 |-;have rQ:(ks v.g).1.n=n:=by rw[uI];exact aq
 rw[cc (n:=n-1) (by omega) (by omega)];refine bq (fun h=>?_) (fun h=>?_)
 ·have e:k7 v k=(v,5):=if_pos (by rw[j2,rQ];simp only[len]at h;omega);rw[e,aQ]at D;exact D
 have em:k7 v k=_:=if_neg (show ¬(v.cp.length:Int)<(ks v.g).1.n by rw[j2,rQ];simp only[len]at h;omega);have fin:∀c,iR v=c->k7 v k=if (hj ⟨⟨ws,fu⟩,up,⟨⟨ak,ah,aj⟩,ai⟩,Y,aa⟩ c k).2=0 then(kO v (hj ⟨⟨ws,fu⟩,up,⟨⟨ak,ah,aj⟩,ai⟩,Y,aa⟩ c k).1,0)else(v,(hj ⟨⟨ws,fu⟩,up,⟨⟨ak,ah,aj⟩,ai⟩,Y,aa⟩ c k).2):=fun c az=>by rw[em,az,uI]
 refine bq (fun I=>?_) (fun I=>?_)
 ·have az:iR v=nth cs (n-1).toNat (z.H z.aU):=by
   unfold iR;rw[rQ,if_pos I,j2];rfl
  have dL:=fin _ az;have hi:(n-1).toNat<cs.length:=by simp only[len]at h;omega
  obtain⟨bb,cr,_⟩:=ev _ (h9 hi (z.H z.aU));obtain⟨c,aah⟩:∃c,nth cs (n-1).toNat (z.H z.aU)=c:=⟨_,rfl⟩
  rw[aah]at dL bb cr |-;have bO:=HK ⟨⟨ws,fu⟩,up,⟨⟨ak,ah,aj⟩,ai⟩,Y,aa⟩ c k;refine⟨⟨by omega,by simp only[len];omega⟩,by simp only[len];omega,⟨by omega,by omega⟩,bN (fun G=>?_) (fun G=>⟨⟨by omega,bO.1,bO.2⟩,?_⟩)⟩
  ·have e:=dL.trans (if_neg G);rw[e,aQ]at D;exact D
  ·have e:=dL.trans (if_pos G);rw[e,aQ]at D;exact D
 ·have az:iR v=pX:=by
   unfold iR;rw[rQ,if_neg (by omega)]
  have dL:=fin _ az;have bO:=HK ⟨⟨ws,fu⟩,up,⟨⟨ak,ah,aj⟩,ai⟩,Y,aa⟩ pX k;refine⟨⟨by simp,by simp⟩,bN (fun G=>?_) (fun G=>⟨⟨by omega,bO.1,bO.2⟩,?_⟩)⟩
  ·have e:=dL.trans (if_neg G);rw[e,aQ]at D;exact D
  ·have e:=dL.trans (if_pos G);rw[e,aQ]at D;exact D

def FH:bd
 |[.agg [.E (.list .int) ws,.E .int fu,.E .bool up,.E .int bu,.E .int bx]],[]=>some (none,.an [.agg [A (mc ⟨⟨ws,fu⟩,up,bu,bx⟩).1.slot,A (mc ⟨⟨ws,fu⟩,up,bu,bx⟩).1.eV,A (mc ⟨⟨ws,fu⟩,up,bu,bx⟩).1.ready],.one (A (mc ⟨⟨ws,fu⟩,up,bu,bx⟩).2)],[])
 |_,_=>none

theorem ag9:bw 121 FH:=b2 0 ((bv.f Eh).f AV) Tryz.func121 (by kernel_rfl) fun vs ar=>by
 unfold FH;split;rotate_left;trivial;rename_i ws fu up bu bx;refine⟨by kernel_rfl,fun K D=>?_⟩;refine⟨1,?_⟩;refine ck (fun rec=>(by kernel_rfl:_=(
  J (!(au (eZ ⟨⟨ws,fu⟩,up,bu,bx⟩) 0))
  (K (.an [.agg [A (0:Int),A (0:Int),A (0:Int)],.one (A (eZ ⟨⟨ws,fu⟩,up,bu,bx⟩))]) [])
  (K (.an [.agg [A (c2 ⟨ws,fu⟩).slot,A (c2 ⟨ws,fu⟩).eV,A (c2 ⟨ws,fu⟩).ready],.one (A 0)]) [])))) ?_
 unfold mc at D;refine bN (fun h=>?_) (fun h=>?_)
 ·rw[if_neg h]at D;exact D
 ·rw[if_pos h]at D;exact D

def OS:bd
 |[.one (.ptr 0 0),.one (.E .int k)],[.box [.E (.list .str) aM,.E (.list .signed) vs,.E (.list .int) ws,.E .int fu,.E .bool up,.E .int ak,.E (.list .int) ah,.E .int aj,.E .int ai,.E (.list .bool) Y,.E (.list .bool) aa,.own 1,.own 2,.own 3,.E .int now],.arr .aT us,.arr .aU cs,.arr .message U]=>some (some (okW ⟨aM,vs,⟨⟨ws,fu⟩,up,⟨⟨ak,ah,aj⟩,ai⟩,Y,aa⟩,us,cs,U,now⟩=true/\0<=k/\k<(us.length:Int)),.one (A (jz ⟨aM,vs,⟨⟨ws,fu⟩,up,⟨⟨ak,ah,aj⟩,ai⟩,Y,aa⟩,us,cs,U,now⟩ k).2),[.box (kX (jz ⟨aM,vs,⟨⟨ws,fu⟩,up,⟨⟨ak,ah,aj⟩,ai⟩,Y,aa⟩,us,cs,U,now⟩ k).1 (.own 4) (.own 5) (.own 6)),.dead,.dead,.dead,.arr .aT (jz ⟨aM,vs,⟨⟨ws,fu⟩,up,⟨⟨ak,ah,aj⟩,ai⟩,Y,aa⟩,us,cs,U,now⟩ k).1.aL,.arr .aU (jz ⟨aM,vs,⟨⟨ws,fu⟩,up,⟨⟨ak,ah,aj⟩,ai⟩,Y,aa⟩,us,cs,U,now⟩ k).1.cp,.arr .message (jz ⟨aM,vs,⟨⟨ws,fu⟩,up,⟨⟨ak,ah,aj⟩,ai⟩,Y,aa⟩,us,cs,U,now⟩ k).1.U])
 |_,_=>none
def Nk:Ctx:=[(121,FH),(115,B7)]
theorem adv:fz Tryz.prog tab Nk:=((bv.f El).f ag9)
theorem afb(aM:cB)(vs:cD)(ws:aJ)(fu:Int)(up:Bool)(ak:Int)(ah:aJ)(aj ai:Int)(Y aa:c9)(us:c3)(cs:db)(U:cG)(now k:Int)(rec:bZ)(K:aW) v0 (b0:v0=mc ⟨⟨((nth us (Int.toNat k) (z.H z.aT)).f).words,((nth us (Int.toNat k) (z.H z.aT)).f).fuel⟩,(nth us (Int.toNat k) (z.H z.aT)).up,(nth us (Int.toNat k) (z.H z.aT)).n,(nth us (Int.toNat k) (z.H z.aT)).eE⟩) v1 (cd:v1=mM ((⟨7,k,v0.fst.ready,0,0,[],false⟩:fC)::[])) aC (cR:aC=hz U ((⟨7,k,v0.fst.ready,0,0,[],false⟩:fC)::[])) v3 (ef:v3=K (.one (A 12)) [.box (en aM vs ws fu up ak ah aj ai Y aa (.own 4) (.own 5) (.own 6) now),.dead,.dead,.dead,.arr z.aT us,.arr z.aU cs,.arr z.message U]):jP Nk tab Tryz.f66 4 K rec [.code (bF Tryz.f66)] (qQ [.one (.ptr 0 0),.one (A k)] [.box (en aM vs ws fu up ak ah aj ai Y aa (.own 1) (.own 2) (.own 3) now),.arr z.aT us,.arr z.aU cs,.arr z.message U])=(
 ((0:Int)<=k/\k<(len us:Int)) /\
 Int.toNat k<len us /\
 J (!(nth us (Int.toNat k) (z.H z.aT)).up)
 (K (.one (A 7)) [.box (en aM vs ws fu up ak ah aj ai Y aa (.own 4) (.own 5) (.own 6) now),.dead,.dead,.dead,.arr z.aT us,.arr z.aU cs,.arr z.message U])
 (J (aN v0.fst.ready 1)
 v3
 (J (aN 8 v0.fst.ready)
 v3
 ((List.length U<=1000/\List.length ((⟨7,k,v0.fst.ready,0,0,[],false⟩:fC)::[])<=1000/\v1=true) /\
 K (.one (A 0)) [.box (en aM vs ws fu up ak ah aj ai Y aa (.own 4) (.own 5) (.own 6) now),.dead,.dead,.dead,.arr z.aT us,.arr z.aU cs,.arr z.message aC])))):=by subst_vars;kernel_rfl

theorem agi(ag:okW ⟨aM,vs,⟨⟨ws,fu⟩,up,⟨⟨ak,ah,aj⟩,ai⟩,Y,aa⟩,us,cs,U,now⟩=true/\0<=k/\k<(us.length:Int))(K:aW)(D:K (.one (A (jz ⟨aM,vs,⟨⟨ws,fu⟩,up,⟨⟨ak,ah,aj⟩,ai⟩,Y,aa⟩,us,cs,U,now⟩ k).2)) [.box (kX (jz ⟨aM,vs,⟨⟨ws,fu⟩,up,⟨⟨ak,ah,aj⟩,ai⟩,Y,aa⟩,us,cs,U,now⟩ k).1 (.own 4) (.own 5) (.own 6)),.dead,.dead,.dead,.arr .aT (jz ⟨aM,vs,⟨⟨ws,fu⟩,up,⟨⟨ak,ah,aj⟩,ai⟩,Y,aa⟩,us,cs,U,now⟩ k).1.aL,.arr .aU (jz ⟨aM,vs,⟨⟨ws,fu⟩,up,⟨⟨ak,ah,aj⟩,ai⟩,Y,aa⟩,us,cs,U,now⟩ k).1.cp,.arr .message (jz ⟨aM,vs,⟨⟨ws,fu⟩,up,⟨⟨ak,ah,aj⟩,ai⟩,Y,aa⟩,us,cs,U,now⟩ k).1.U]):∃m,h5 Nk tab Tryz.f66 4 K m [.code (bF Tryz.f66)] (qQ [.one (.ptr 0 0),.one (A k)] [.box (en aM vs ws fu up ak ah aj ai Y aa (.own 1) (.own 2) (.own 3) now),.arr .aT us,.arr .aU cs,.arr .message U]):=by
 obtain⟨fg,ft,hx⟩:=ag;refine⟨1,?_⟩;rw[qF,afb _ _ _ _ _ _ _ _ _ _ _ _ _ _ _ _ _ _ _ rfl _ rfl _ rfl _ rfl];have aP:=p0.1 fg;have oK:=aP.k6;obtain⟨gh,iM⟩:=aP.od;simp only at iM oK;obtain⟨v,aQ⟩:∃v:hq,v=⟨aM,vs,⟨⟨ws,fu⟩,up,⟨⟨ak,ah,aj⟩,ai⟩,Y,aa⟩,us,cs,U,now⟩:=⟨_,rfl⟩
 rw[<- aQ]at D;have hu:iN v k=nth us k.toNat (z.H z.aT):=by rw[aQ];rfl
 obtain⟨u,gS⟩:∃u,nth us k.toNat (z.H z.aT)=u:=⟨_,rfl⟩
 rw[gS]at hu |-;refine⟨⟨ft,by simp only[len];omega⟩,by simp only[len];omega,eF (fun h=>?_) (fun h=>?_)⟩
 ·have e:jz v k=(v,7):=if_neg (by rw[hu,h];simp);rw[e,aQ]at D;exact D
 have em:jz v k=_:=if_pos (by rw[hu];exact h);rw[hu]at em;refine bq (fun I=>?_) (fun I=>bq (fun G=>?_) (fun G=>⟨⟨by omega,by simp,rfl⟩,?_⟩))
 ·have e:=em.trans (if_pos (.inl I));rw[e,aQ]at D;exact D
 ·have e:=em.trans (if_pos (.inr G));rw[e,aQ]at D;exact D
 ·have e:=em.trans (if_neg (show ¬((mc u).1.ready<1\/8<(mc u).1.ready)from fun q=>by
   have aj2:(1:Int)<=(mc u).1.ready:=I;have aj4:(mc u).1.ready<=8:=G;omega))
  rw[e,aQ]at D;exact D
theorem ahY:bw 66 OS:=hN adv Tryz.func66 (by kernel_rfl) (by
 intro vs ar p v dB h ag;unfold OS at h;split at h
 ·cases h;exact⟨by kernel_rfl,rfl,.inr (.inr (.inl (agi _ _ _ _ _ _ _ _ _ _ _ _ _ _ _ _ ag.1 _ ⟨rfl,rfl⟩)))⟩
 ·cases h)

def Gw:bd
 |[.one (.ptr 0 0),.agg [.E .int ad,.E .int hu,.E .int aq,.E (.list .root) rs,.E (.list (.list .int)) rg,.E .int bR,.E .int b4,.E (.list .target) ts,.E (.list .int) a7,.E (.list (.list .int)) bG]],[.box [.E (.list .str) aM,.E (.list .signed) vs,.E (.list .int) ws,.E .int fu,.E .bool up,.E .int ak,.E (.list .int) ah,.E .int aj,.E .int ai,.E (.list .bool) Y,.E (.list .bool) aa,.own 1,.own 2,.own 3,.E .int now],.arr .aT us,.arr .aU cs,.arr .message U]=>some (some (okW ⟨aM,vs,⟨⟨ws,fu⟩,up,⟨⟨ak,ah,aj⟩,ai⟩,Y,aa⟩,us,cs,U,now⟩=true),.one (A (fh ⟨aM,vs,⟨⟨ws,fu⟩,up,⟨⟨ak,ah,aj⟩,ai⟩,Y,aa⟩,us,cs,U,now⟩ ⟨ad,hu,aq,⟨rs,rg,⟨bR,b4,ts⟩,a7,bG⟩⟩).2),[.box (kX (fh ⟨aM,vs,⟨⟨ws,fu⟩,up,⟨⟨ak,ah,aj⟩,ai⟩,Y,aa⟩,us,cs,U,now⟩ ⟨ad,hu,aq,⟨rs,rg,⟨bR,b4,ts⟩,a7,bG⟩⟩).1 (.own 4) (.own 5) (.own 6)),.dead,.dead,.dead,.arr .aT (fh ⟨aM,vs,⟨⟨ws,fu⟩,up,⟨⟨ak,ah,aj⟩,ai⟩,Y,aa⟩,us,cs,U,now⟩ ⟨ad,hu,aq,⟨rs,rg,⟨bR,b4,ts⟩,a7,bG⟩⟩).1.aL,.arr .aU (fh ⟨aM,vs,⟨⟨ws,fu⟩,up,⟨⟨ak,ah,aj⟩,ai⟩,Y,aa⟩,us,cs,U,now⟩ ⟨ad,hu,aq,⟨rs,rg,⟨bR,b4,ts⟩,a7,bG⟩⟩).1.cp,.arr .message (fh ⟨aM,vs,⟨⟨ws,fu⟩,up,⟨⟨ak,ah,aj⟩,ai⟩,Y,aa⟩,us,cs,U,now⟩ ⟨ad,hu,aq,⟨rs,rg,⟨bR,b4,ts⟩,a7,bG⟩⟩).1.U])
 |_,_=>none

theorem ah1:bw 12 Gw:=sc 4 ((((((bv.f ahY).f ahZ).f ahv).f ahX).f ah0).f ahV) Tryz.func12 (by kernel_rfl) fun vs ar=>by
 unfold Gw;split;rotate_left;trivial;rename_i ad hu aq rs rg bR b4 ts a7 bG aM vs ws fu up ak ah aj ai Y aa now us cs U;dsimp only[z.den]at ad hu aq rs rg bR b4 ts a7 bG aM vs ws fu up ak ah aj ai Y aa now us cs U;refine⟨by kernel_rfl,fun ag K D=>?_⟩;refine⟨1,?_⟩;obtain⟨v0,b0⟩:∃v0,v0=okW ⟨aM,vs,⟨⟨ws,fu⟩,up,⟨⟨ak,ah,aj⟩,ai⟩,Y,aa⟩,us,cs,U,now⟩:=⟨_,rfl⟩
 obtain⟨v1,cd⟩:∃v1,v1=k8 ⟨aM,vs,⟨⟨ws,fu⟩,up,⟨⟨ak,ah,aj⟩,ai⟩,Y,aa⟩,us,cs,U,now⟩ ⟨rs,rg,⟨bR,b4,ts⟩,a7,bG⟩:=⟨_,rfl⟩
 obtain⟨aC,cR⟩:∃aC,aC=jK ⟨aM,vs,⟨⟨ws,fu⟩,up,⟨⟨ak,ah,aj⟩,ai⟩,Y,aa⟩,us,cs,U,now⟩ ad aq:=⟨_,rfl⟩
 obtain⟨v3,ef⟩:∃v3,v3=jN ⟨aM,vs,⟨⟨ws,fu⟩,up,⟨⟨ak,ah,aj⟩,ai⟩,Y,aa⟩,us,cs,U,now⟩ ad hu aq:=⟨_,rfl⟩
 obtain⟨v4,e1⟩:∃v4,v4=j1 ⟨⟨ws,fu⟩,up,⟨⟨ak,ah,aj⟩,ai⟩,Y,aa⟩:=⟨_,rfl⟩
 obtain⟨cf,g5⟩:∃cf,cf=k7 ⟨aM,vs,⟨⟨ws,fu⟩,up,⟨⟨ak,ah,aj⟩,ai⟩,Y,aa⟩,us,cs,U,now⟩ hu:=⟨_,rfl⟩
 obtain⟨dK,km⟩:∃dK,dK=jz ⟨aM,vs,⟨⟨ws,fu⟩,up,⟨⟨ak,ah,aj⟩,ai⟩,Y,aa⟩,us,cs,U,now⟩ hu:=⟨_,rfl⟩
 obtain⟨eG,kI⟩:∃eG,eG=K (.one (A aC.snd)) [.box (kX aC.fst (.own 4) (.own 5) (.own 6)),.dead,.dead,.dead,.arr z.aT aC.fst.aL,.arr z.aU aC.fst.cp,.arr z.message aC.fst.U]:=⟨_,rfl⟩
 obtain⟨v11,oR⟩:∃v11,v11=J (au ad 10)
  (J (au now 100000)
  (K (.one (A 8)) [.box (en aM vs ws fu up ak ah aj ai Y aa (.own 4) (.own 5) (.own 6) now),.dead,.dead,.dead,.arr z.aT us,.arr z.aU cs,.arr z.message U])
  (K (.one (A 0)) [.box [.E (z.list z.str) aM,.E (z.list z.signed) vs,af ws,A fu,ay up,A ak,af ah,A aj,A ai,bj Y,bj aa,.own 4,.own 5,.own 6,A (W (now+1))],.dead,.dead,.dead,.arr z.aT us,.arr z.aU cs,.arr z.message U]))
  (K (.one (A 4)) [.box (en aM vs ws fu up ak ah aj ai Y aa (.own 4) (.own 5) (.own 6) now),.dead,.dead,.dead,.arr z.aT us,.arr z.aU cs,.arr z.message U]):=⟨_,rfl⟩
 obtain⟨mO,zV⟩:∃mO,mO=K (.one (A 5)) [.box (en aM vs ws fu up ak ah aj ai Y aa (.own 4) (.own 5) (.own 6) now),.dead,.dead,.dead,.arr z.aT us,.arr z.aU cs,.arr z.message U]:=⟨_,rfl⟩
 obtain⟨v10,m9⟩:∃v10,v10=J (aN hu 0)
  mO
  (J (dc (len us:Int) hu)
  mO
  (J (au ad 2)
  (v0=true /\
  K (.one (A cf.snd)) [.box (kX cf.fst (.own 4) (.own 5) (.own 6)),.dead,.dead,.dead,.arr z.aT cf.fst.aL,.arr z.aU cf.fst.cp,.arr z.message cf.fst.U])
  ((v0=true/\(0:Int)<=hu/\hu<(((List.length us):Nat):Int)) /\
  K (.one (A dK.snd)) [.box (kX dK.fst (.own 4) (.own 5) (.own 6)),.dead,.dead,.dead,.arr z.aT dK.fst.aL,.arr z.aU dK.fst.cp,.arr z.message dK.fst.U]))):=⟨_,rfl⟩
 obtain⟨v9,j3⟩:∃v9,v9=J (au ad 8)
  (J (au v4.snd 0)
  (K (.one (A v4.snd)) [.box [.E (z.list z.str) aM,.E (z.list z.signed) vs,af v4.fst.f.words,A v4.fst.f.fuel,ay v4.fst.up,A v4.fst.t.r.version,af v4.fst.t.r.keys,A v4.fst.t.r.ej,A v4.fst.t.version,bj v4.fst.cF,bj v4.fst.did,.own 4,.own 5,.own 6,A now],.dead,.dead,.dead,.arr z.aT us,.arr z.aU cs,.arr z.message U])
  (K (.one (A v4.snd)) [.box (en aM vs ws fu up ak ah aj ai Y aa (.own 4) (.own 5) (.own 6) now),.dead,.dead,.dead,.arr z.aT us,.arr z.aU cs,.arr z.message U]))
  (J (au ad 2)
  (J (au ad 2)
  v10
  v11)
  (J (au ad 9)
  v10
  v11)):=⟨_,rfl⟩
 obtain⟨hB,s7⟩:∃hB,hB=K (.one (A v3.snd)) [.box (kX v3.fst (.own 4) (.own 5) (.own 6)),.dead,.dead,.dead,.arr z.aT v3.fst.aL,.arr z.aU v3.fst.cp,.arr z.message v3.fst.U]:=⟨_,rfl⟩
 obtain⟨dF,iG⟩:∃dF,dF=J (au ad 6)
  (J (au ad 6)
  (v0=true /\
  hB)
  v9)
  (J (au ad 7)
  (v0=true /\
  hB)
  v9):=⟨_,rfl⟩
 refine kD (fun rec=>(by subst iG s7 j3 m9 zV oR kI km g5 e1 ef cR cd b0;kernel_rfl:_=(
  J (au ad 1)
  (v0=true /\
  K (.one (A v1.snd)) [.box (kX v1.fst (.own 4) (.own 5) (.own 6)),.dead,.dead,.dead,.arr z.aT v1.fst.aL,.arr z.aU v1.fst.cp,.arr z.message v1.fst.U])
  (J (au ad 3)
  (J (au ad 3)
  (v0=true /\
  eG)
  dF)
  (J (au ad 4)
  (J (au ad 4)
  (v0=true /\
  eG)
  dF)
  (J (au ad 5)
  (v0=true /\
  eG)
  dF)))))) ?_
 subst iG s7 j3 m9 zV oR kI km g5 e1 ef cR cd b0;obtain⟨v,aQ⟩:∃v:hq,v=⟨aM,vs,⟨⟨ws,fu⟩,up,⟨⟨ak,ah,aj⟩,ai⟩,Y,aa⟩,us,cs,U,now⟩:=⟨_,rfl⟩
 obtain⟨o,aY⟩:∃o:ny,o=⟨rs,rg,⟨bR,b4,ts⟩,a7,bG⟩:=⟨_,rfl⟩
 have De:v.aL.length=us.length:=by rw[aQ]
 have aa6:v.now=now:=by rw[aQ]
 have uI:v.g=⟨⟨ws,fu⟩,up,⟨⟨ak,ah,aj⟩,ai⟩,Y,aa⟩:=by rw[aQ]
 rw[<- aQ,<- aY]at D;have ix:ad=1->fh v ⟨ad,hu,aq,o⟩=k8 v o:=fun h=>if_pos h
 have lc:ad=3\/ad=4\/ad=5->fh v ⟨ad,hu,aq,o⟩=jK v ad aq:=fun h=>(if_neg (show ¬ad=1 by omega)).trans (if_pos h)
 have VI:ad=6\/ad=7->fh v ⟨ad,hu,aq,o⟩=jN v ad hu aq:=fun h=>(if_neg (show ¬ad=1 by omega)).trans ((if_neg (show ¬(ad=3\/ad=4\/ad=5)by omega)).trans (if_pos h))
 have LN:¬(ad=1\/ad=3\/ad=4\/ad=5\/ad=6\/ad=7)->fh v ⟨ad,hu,aq,o⟩=if ad=8 then qE v
  else if ad=2\/ad=9 then(if hu<0\/(v.aL.length:Int)<=hu then(v,5)else if ad=2 then k7 v hu else jz v hu)
  else if ad=10 then tG v else(v,4):=fun h=>(if_neg (show ¬ad=1 by omega)).trans ((if_neg (show ¬(ad=3\/ad=4\/ad=5)by omega)).trans (if_neg (show ¬(ad=6\/ad=7)by omega)))
 have two:ad=2\/ad=9->fh v ⟨ad,hu,aq,o⟩=if hu<0\/(v.aL.length:Int)<=hu then(v,5)else if ad=2 then k7 v hu else jz v hu:=fun h=>(LN (by omega)).trans ((if_neg (show ¬ad=8 by omega)).trans (if_pos h))
 refine cz (fun h=>?_) (fun I=>?_)
 ·rw[ix h,aQ,aY]at D;exact⟨ag,D⟩
 refine cz (fun h=>ji h ?_) (fun ab=>cz (fun h=>ji h ?_) (fun aV=>cz (fun h=>?_) (fun br=>cz (fun h=>ji h ?_) (fun bV=>cz (fun h=>?_) (fun dm=>cz (fun h=>?_) (fun dZ=>?_))))))
 ·rw[lc (by omega),aQ]at D;exact⟨ag,D⟩
 ·rw[lc (by omega),aQ]at D;exact⟨ag,D⟩
 ·rw[lc (by omega),aQ]at D;exact⟨ag,D⟩
 ·rw[VI (by omega),aQ]at D;exact⟨ag,D⟩
 ·rw[VI (by omega),aQ]at D;exact⟨ag,D⟩
 ·have e:fh v ⟨ad,hu,aq,o⟩=qE v:=(LN (by omega)).trans (if_pos h);unfold qE at e;rw[uI]at e;refine cz (fun a6=>?_) (fun a6=>?_)
  ·rw[e,if_pos a6,aQ]at D;rw[a6];exact D
  ·rw[e,if_neg a6,aQ]at D;exact D
 refine cz (fun h=>ji h ?_) (fun G=>cz (fun h=>?_) (fun iE=>?_))
 ·have a5:=two (by omega)
  by_cases c:hu<0\/(us.length:Int)<=hu
  ·rw[a5,if_pos (by rw[De];exact c),aQ]at D;exact bq (fun _=>D) (fun h=>gb (by rw[fV];simp only[len];omega) D)
  ·rw[if_neg (by rw[De];exact c)]at a5;refine co (by omega) (fa (by rw[eC];simp only[len];omega) (cz (fun G=>?_) (fun G=>?_)))
   ·rw[a5,if_pos G,aQ]at D;exact⟨ag,D⟩
   ·rw[a5,if_neg G,aQ]at D;exact⟨⟨ag,by omega,by omega⟩,D⟩
 ·have a5:=two (by omega)
  by_cases c:hu<0\/(us.length:Int)<=hu
  ·rw[a5,if_pos (by rw[De];exact c),aQ]at D;exact bq (fun _=>D) (fun h=>gb (by rw[fV];simp only[len];omega) D)
  ·rw[if_neg (by rw[De];exact c)]at a5;refine co (by omega) (fa (by rw[eC];simp only[len];omega) (cz (fun G=>?_) (fun G=>?_)))
   ·rw[a5,if_pos G,aQ]at D;exact⟨ag,D⟩
   ·rw[a5,if_neg G,aQ]at D;exact⟨⟨ag,by omega,by omega⟩,D⟩
 have a5:=(LN (by omega)).trans ((if_neg dZ).trans (if_neg (show ¬(ad=2\/ad=9)by omega)));refine cz (fun pF=>?_) (fun pF=>?_)
 ·rw[if_pos pF]at a5;have cP:tG v=if now=100000 then(v,8)else(⟨v.b,v.s,v.g,v.aL,v.cp,v.U,now+1⟩,0):=by unfold tG;rw[aa6]
  refine cz (fun a6=>?_) (fun a6=>?_)
  ·rw[a5,cP,if_pos a6,aQ]at D;exact D
  ·have aP:=p0.1 ag;have ZZ:=aP.t0;have Z0:=aP.t1;simp only at ZZ Z0;rw[cc (by omega) (by omega)];rw[a5,cP,if_neg a6,aQ]at D;exact D
 ·rw[if_neg pF]at a5;rw[a5,aQ]at D;exact D

def B8:bd
 |[.agg [.E (.list .str) aM,.E (.list .signed) vs,.E (.list .int) ws,.E .int fu,.E .bool up,.E .int ak,.E (.list .int) ah,.E .int aj,.E .int ai,.E (.list .bool) Y,.E (.list .bool) aa,.E (.list .aT) us,.E (.list .aU) cs,.E (.list .message) U,.E .int now],.one (.E (.list .fc) l)],[]=>some (none,.an [.agg (mv (p7 ⟨aM,vs,⟨⟨ws,fu⟩,up,⟨⟨ak,ah,aj⟩,ai⟩,Y,aa⟩,us,cs,U,now⟩ l).1),.one (af (p7 ⟨aM,vs,⟨⟨ws,fu⟩,up,⟨⟨ak,ah,aj⟩,ai⟩,Y,aa⟩,us,cs,U,now⟩ l).2.1),.one (A (p7 ⟨aM,vs,⟨⟨ws,fu⟩,up,⟨⟨ak,ah,aj⟩,ai⟩,Y,aa⟩,us,cs,U,now⟩ l).2.2)],[])
 |_,_=>none
def Bq:Ctx:=[(10,Gu),(11,Gv),(12,Gw)]
def vl:List cw:=[.inLoop [27,26,25,8,6,5,4,2] (Code.sub (bF Tryz.f4) [1,1,1,1,1,0,1,0,0]),.inBlock 0,.code (Code.sub (bF Tryz.f4) [1,1,1,1,1,1])]
def DR(F al:Int)(M:List rh)(ae:Int)(ao aE:aJ)(aH:Int)(aS:Bool)(aZ bc bn bo:Int)(bm:cB)(bC:cD)(bJ:aJ)(bI:Int)(bM:Bool)(bz:Int)(bS:aJ)(bY cq:Int)(cv cN:c9)(c0:Int)(c5:cB)(dq:cD)(dt dH:aJ)(dI dr:c9)(dD:c3)(dx:db)(ea:cG)(dW:c3)(eb:db)(ek:cG):bP:=⟨[(27,.one (A F)),(26,.one (A al)),(25,.one (.E (z.list z.fc) M)),(8,.one (.own 0)),(6,.one (A ae)),(5,.one (.own 1)),(4,.one (.ptr 2 0)),(2,.one (.ptr 3 0))],[(0,.arr z.int ao),(1,.arr z.int aE),(2,.box [.own 4,.own 5,.own 6,A aH,ay aS,A aZ,.own 7,A bc,A bn,.own 8,.own 9,.own 10,.own 11,.own 12,A bo]),(3,.box [.E (z.list z.str) bm,.E (z.list z.signed) bC,af bJ,A bI,ay bM,A bz,af bS,A bY,A cq,bj cv,bj cN,.own 13,.own 14,.own 15,A c0]),(4,.arr z.str c5),(5,.arr z.signed dq),(6,.arr z.int dt),(7,.arr z.int dH),(8,.arr z.bool dI),(9,.arr z.bool dr),(10,.arr z.aT dD),(11,.arr z.aU dx),(12,.arr z.message ea),(13,.arr z.aT dW),(14,.arr z.aU eb),(15,.arr z.message ek)],16⟩
def xQ:List cw:=[.inLoop [27,26,25,8,6,5,4,2] (Code.sub (bF Tryz.f4) [1,1,1,1,1,0,1,0,0]),.inBlock 0,.code (Code.sub (bF Tryz.f4) [1,1,1,1,1,1])]
def K0(F al:Int)(M:List rh)(ae:Int)(ao aE:aJ)(aH:Int)(aS:Bool)(aZ bc bn bo:Int)(bm:cB)(bC:cD)(bJ:aJ)(bI:Int)(bM:Bool)(bz:Int)(bS:aJ)(bY cq:Int)(cv cN:c9)(c0:c3)(c5:db)(dq:cG)(dt:Int)(dH:cB)(dI:cD)(dr dD:aJ)(dx ea:c9)(dW:c3)(eb:db)(ek:cG):bP:=⟨[(27,.one (A F)),(26,.one (A al)),(25,.one (.E (z.list z.fc) M)),(8,.one (.own 0)),(6,.one (A ae)),(5,.one (.own 1)),(4,.one (.ptr 2 0)),(2,.one (.ptr 3 0))],[(0,.arr z.int ao),(1,.arr z.int aE),(2,.box [.own 4,.own 5,.own 6,A aH,ay aS,A aZ,.own 7,A bc,A bn,.own 8,.own 9,.own 10,.own 11,.own 12,A bo]),(3,.box [.E (z.list z.str) bm,.E (z.list z.signed) bC,af bJ,A bI,ay bM,A bz,af bS,A bY,A cq,bj cv,bj cN,.E (z.list z.aT) c0,.E (z.list z.aU) c5,bB dq,A dt]),(4,.arr z.str dH),(5,.arr z.signed dI),(6,.arr z.int dr),(7,.arr z.int dD),(8,.arr z.bool dx),(9,.arr z.bool ea),(10,.arr z.aT dW),(11,.arr z.aU eb),(12,.arr z.message ek)],13⟩
theorem UJ{F bI bz bY cq c0:Int}{ao bJ bS:aJ}{bm:cB}{bC:cD}{bM:Bool}{cv cN:c9}{dW:c3}{eb:db}{ek:cG}{rec:bZ}{K:aW}{al M ae aE aH aS aZ bc bn bo c5 dq dt dH dI dr dD dx ea}{aC v0 v1}(cR:aC=fun a b c d e f g h i j k l m n o p q=>DR a al M ae b aE aH aS aZ bc bn bo c d e f g h i j k l m n c5 dq dt dH dI dr dD dx ea o p q)(b0:v0=okW ⟨bm,bC,⟨⟨bJ,bI⟩,bM,⟨⟨bz,bS,bY⟩,cq⟩,cv,cN⟩,dW,eb,ek,c0⟩)(cd:v1=fh ⟨bm,bC,⟨⟨bJ,bI⟩,bM,⟨⟨bz,bS,bY⟩,cq⟩,cv,cN⟩,dW,eb,ek,c0⟩ ⟨(nth M (Int.toNat F) (z.H z.fc)).kind,(nth M (Int.toNat F) (z.H z.fc)).unit,(nth M (Int.toNat F) (z.H z.fc)).k,⟨((nth M (Int.toNat F) (z.H z.fc)).o).roots,((nth M (Int.toNat F) (z.H z.fc)).o).kM,⟨(((nth M (Int.toNat F) (z.H z.fc)).o).r).version,(((nth M (Int.toNat F) (z.H z.fc)).o).r).ca,(((nth M (Int.toNat F) (z.H z.fc)).o).r).targets⟩,((nth M (Int.toNat F) (z.H z.fc)).o).sigs,((nth M (Int.toNat F) (z.H z.fc)).o).cL⟩⟩):b7 Bq tab Tryz.f4 0 K rec (cQ vl) (aC F ao bm bC bJ bI bM bz bS bY cq cv cN c0 dW eb ek)=(
 J (aN F al)
 (((0:Int)<=F/\F<(len M:Int)) /\
 v0=true /\
 v0=true /\
 J (au v1.snd 0)
 ((len ao+len (v1.snd::[]))*8<=140737488355328 /\
 rec vl (aC (W (F+1)) (cat ao (v1.snd::[])) v1.fst.b v1.fst.s v1.fst.g.f.words v1.fst.g.f.fuel v1.fst.g.up v1.fst.g.t.r.version v1.fst.g.t.r.keys v1.fst.g.t.r.ej v1.fst.g.t.version v1.fst.g.cF v1.fst.g.did v1.fst.now v1.fst.aL v1.fst.cp v1.fst.U))
 ((len ao+len (v1.snd::[]))*8<=140737488355328 /\
 rec xQ (K0 (W (F+1)) al M ae (cat ao (v1.snd::[])) aE aH aS aZ bc bn bo bm bC bJ bI bM bz bS bY cq cv cN dW eb ek c0 c5 dq dt dH dI dr dD dx ea)))
 (K (.an [.agg [.E (z.list z.str) bm,.E (z.list z.signed) bC,af bJ,A bI,ay bM,A bz,af bS,A bY,A cq,bj cv,bj cN,.E (z.list z.aT) dW,.E (z.list z.aU) eb,bB ek,A c0],.one (af ao),.one (A 0)]) [])):=by subst_vars;kernel_rfl
theorem UK{F:Int}{ao:aJ}{rec:bZ}{K:aW}{al M ae aE aH aS aZ bc bn bo bm bC bJ bI bM bz bS bY cq cv cN c0 c5 dq dt dH dI dr dD dx ea dW eb ek}{aC v0 v1}(cR:aC=fun a b=>K0 a al M ae b aE aH aS aZ bc bn bo bm bC bJ bI bM bz bS bY cq cv cN c0 c5 dq dt dH dI dr dD dx ea dW eb ek)(b0:v0=okW ⟨bm,bC,⟨⟨bJ,bI⟩,bM,⟨⟨bz,bS,bY⟩,cq⟩,cv,cN⟩,c0,c5,dq,dt⟩)(cd:v1=fh ⟨bm,bC,⟨⟨bJ,bI⟩,bM,⟨⟨bz,bS,bY⟩,cq⟩,cv,cN⟩,c0,c5,dq,dt⟩ ⟨(nth M (Int.toNat F) (z.H z.fc)).kind,(nth M (Int.toNat F) (z.H z.fc)).unit,(nth M (Int.toNat F) (z.H z.fc)).k,⟨((nth M (Int.toNat F) (z.H z.fc)).o).roots,((nth M (Int.toNat F) (z.H z.fc)).o).kM,⟨(((nth M (Int.toNat F) (z.H z.fc)).o).r).version,(((nth M (Int.toNat F) (z.H z.fc)).o).r).ca,(((nth M (Int.toNat F) (z.H z.fc)).o).r).targets⟩,((nth M (Int.toNat F) (z.H z.fc)).o).sigs,((nth M (Int.toNat F) (z.H z.fc)).o).cL⟩⟩):b7 Bq tab Tryz.f4 0 K rec (cQ xQ) (aC F ao)=(
 J (aN F al)
 (((0:Int)<=F/\F<(len M:Int)) /\
 v0=true /\
 v0=true /\
 J (au v1.snd 0)
 ((len ao+len (v1.snd::[]))*8<=140737488355328 /\
 rec vl (DR (W (F+1)) al M ae (cat ao (v1.snd::[])) aE aH aS aZ bc bn bo v1.fst.b v1.fst.s v1.fst.g.f.words v1.fst.g.f.fuel v1.fst.g.up v1.fst.g.t.r.version v1.fst.g.t.r.keys v1.fst.g.t.r.ej v1.fst.g.t.version v1.fst.g.cF v1.fst.g.did v1.fst.now dH dI dr dD dx ea dW eb ek v1.fst.aL v1.fst.cp v1.fst.U))
 ((len ao+len (v1.snd::[]))*8<=140737488355328 /\
 rec xQ (aC (W (F+1)) (cat ao (v1.snd::[])))))
 (K (.an [.agg [.E (z.list z.str) bm,.E (z.list z.signed) bC,af bJ,A bI,ay bM,A bz,af bS,A bY,A cq,bj cv,bj cN,.E (z.list z.aT) c0,.E (z.list z.aU) c5,bB dq,A dt],.one (af ao),.one (A 0)]) [])):=by subst_vars;kernel_rfl

theorem JC(l:List mQ)(ax:l.length<=160)(R:cT×List Int)(K:aW)(D:K (.an [.agg (mv R.1),.one (af R.2),.one (A 0)]) []):∀(d k:Nat) (v:cT) (acc:aJ),k+d=l.length->acc.length<=k->fA v->(kN v (l.drop k)).1=R.1->acc++(kN v (l.drop k)).2=R.2 ->
  cl Bq tab Tryz.f4 0 K (d+1) vl (DR (k:Int) (((len l):Nat):Int) l 0 acc [] 0 false 0 0 0 0 v.b v.s v.g.f.words v.g.f.fuel v.g.up v.g.t.r.version v.g.t.r.keys v.g.t.r.ej v.g.t.version v.g.cF v.g.did v.now [] [] [] [] [] [] [] [] [] v.aL v.cp v.U)/\cl Bq tab Tryz.f4 0 K (d+1) xQ (K0 (k:Int) (((len l):Nat):Int) l 0 acc [] 0 false 0 0 0 0 v.b v.s v.g.f.words v.g.f.fuel v.g.up v.g.t.r.version v.g.t.r.keys v.g.t.r.ej v.g.t.version v.g.cF v.g.did v.aL v.cp v.U v.now [] [] [] [] [] [] [] [] [])
 |0,k,v,acc,ad,bh,aY,I,G=>by
  rw[List.drop_of_length_le (by omega)]at I G;have a1:v=R.1:=I;have bf:acc=R.2:=by simpa[kN]using G
  clear I G aY;subst a1 bf;refine⟨?_,?_⟩
  ·rw[bW (L:=vl),UJ rfl rfl rfl];exact co (by simp only[len];omega) D
  ·rw[bW (L:=xQ),UK rfl rfl rfl];exact co (by simp only[len];omega) D
 |d+1,k,v,acc,ad,bh,aY,I,G=>by
  rw[ep (l:=l) (by omega) (z.H .fc)]at I G;obtain⟨x,aG⟩:∃x,nth l k (z.H .fc)=x:=⟨_,rfl⟩
  rw[aG]at I G;have az:okW v=true:=p0.2 aY;have ok:(fh v x).2=0->_:=fun h=>JC l ax R K D d (k+1) (fh v x).1 (acc++[(fh v x).2]) (by omega) (by simp;omega) (W3 aY h) (by have:=I;simp only[kN,if_pos h]at this;exact this) (by have:=G;simp only[kN,if_pos h]at this;rw[List.append_assoc];exact this)
  have bad:(fh v x).2≠0->_:=fun h=>JC l ax R K D d (k+1) v (acc++[(fh v x).2]) (by omega) (by simp;omega) aY (by have:=I;simp only[kN,if_neg h]at this;exact this) (by have:=G;simp only[kN,if_neg h]at this;rw[List.append_assoc];exact this)
  refine⟨?_,?_⟩
  ·rw[bW (L:=vl),UJ rfl rfl rfl,cM];rw[aG];exact cS (by simp only[len];omega) ⟨⟨by omega,by simp only[len];omega⟩,az,az,cz (fun h=>⟨by simp only[len,List.length_cons,List.length_nil];omega,by rw[di (by omega)];exact(ok h).1⟩) (fun h=>⟨by simp only[len,List.length_cons,List.length_nil];omega,by rw[di (by omega)];exact(bad h).2⟩)⟩
  ·rw[bW (L:=xQ),UK rfl rfl rfl,cM];rw[aG];exact cS (by simp only[len];omega) ⟨⟨by omega,by simp only[len];omega⟩,az,az,cz (fun h=>⟨by simp only[len,List.length_cons,List.length_nil];omega,by rw[di (by omega)];exact(ok h).1⟩) (fun h=>⟨by simp only[len,List.length_cons,List.length_nil];omega,by rw[di (by omega)];exact(bad h).2⟩)⟩
theorem WB:bw 4 B8:=b2 (Γ:=Bq) 0 (((bv.f ah1).f ahU).f ahT) Tryz.func4 (by kernel_rfl) fun vs ar=>by
 unfold B8;split;rotate_left;trivial;rename_i aM vs ws fu up ak ah aj ai Y aa us cs U now l;refine⟨by kernel_rfl,fun K D=>?_⟩;refine⟨l.length+2,?_⟩;obtain⟨v0,b0⟩:∃v0,v0=mV ⟨aM,vs,⟨⟨ws,fu⟩,up,⟨⟨ak,ah,aj⟩,ai⟩,Y,aa⟩,us,cs,U,now⟩:=⟨_,rfl⟩
 refine ck (fun rec=>(by subst b0;kernel_rfl:_=(
  J (!(au v0 0))
  (K (.an [.agg fU,.one (af []),.one (A v0)]) [])
  (J (aN 160 (len l:Int))
  (K (.an [.agg fU,.one (af []),.one (A 2)]) [])
  (okW ⟨aM,vs,⟨⟨ws,fu⟩,up,⟨⟨ak,ah,aj⟩,ai⟩,Y,aa⟩,us,cs,U,now⟩=true /\
  rec vl (DR 0 (len l:Int) l 0 [] [] 0 false 0 0 0 0 aM vs ws fu up ak ah aj ai Y aa now [] [] [] [] [] [] [] [] [] us cs U)))))) ?_
 subst b0;obtain⟨v,aQ⟩:∃v:hq,v=⟨aM,vs,⟨⟨ws,fu⟩,up,⟨⟨ak,ah,aj⟩,ai⟩,Y,aa⟩,us,cs,U,now⟩:=⟨_,rfl⟩
 rw[<- aQ]at D |-;unfold p7 at D;refine bN (fun h=>?_) (fun h=>bq (fun G=>?_) (fun G=>⟨p0.2 (JV (Cp h)),?_⟩))
 ·rw[if_neg h]at D;exact D
 ·rw[if_pos h,if_pos (show 160<l.length by simp only[len]at G;omega)]at D;exact D
 ·have ab:¬160<l.length:=by simp only[len]at G;omega
  rw[if_pos h,if_neg ab]at D;have q:=(JC l (by omega) (kN v l) K D l.length 0 v [] (by omega) (Nat.le_refl _) (JV (Cp h)) rfl rfl).1;rw[aQ]at q;exact q

def y3:bd
 |[.agg [.E (.list .str) l]],[]=>some (none,.one (A (fH l)),[])
 |_,_=>none
def M0:Ctx:=[(67,Hd)]
def xb:List cw:=[.inLoop [12,11,10,2,1] (Code.sub (bF Tryz.f13) [1,1,0,1,0,0]),.inBlock 0,.code (Code.sub (bF Tryz.f13) [1,1,1])]
def Kc(F al:Int)(M:cB)(ae:Int)(ao:cB):bP:=⟨[(12,.one (A F)),(11,.one (A al)),(10,.one (.E (z.list z.str) M)),(2,.one (A ae)),(1,.one (.ptr 0 0))],[(0,.box [.E (z.list z.str) ao])],1⟩
theorem TS{F:Int}{rec:bZ}{K:aW}{al M ae ao}{v1 v0}(cd:v1=fun a=>Kc a al M ae ao)(b0:v0=fk (nth M (Int.toNat F) (z.H z.str)) ao):b7 M0 tab Tryz.f13 0 K rec (cQ xb) (v1 F)=(
 J (aN F al)
 (((0:Int)<=F/\F<(len M:Int)) /\
 J (aN 2000 (len (nth M (Int.toNat F) (z.H z.str)):Int))
 (K (.one (A 2)) [])
 (List.length ao<=140737488355328 /\
 J (aN v0 F)
 (K (.one (A 6)) [])
 (rec xb (v1 (W (F+1))))))
 (K (.one (A 0)) [])):=by subst_vars;kernel_rfl

theorem So(l:cB)(ax:l.length<=60)(K:aW):∀(d k:Nat),k+d=l.length->K (.one (A (v7 (l.take k) (l.drop k)))) [] ->
  cl M0 tab Tryz.f13 0 K (d+1) xb (Kc (k:Int) (((len l):Nat):Int) l 0 l)
 |0,k,ad,D=>by
  rw[bW (L:=xb),TS rfl rfl];rw[List.drop_of_length_le (by omega)]at D;exact co (by simp only[len];omega) D
 |d+1,k,ad,D=>by
  rw[bW (L:=xb),TS rfl rfl,cM];have hi:=acd (l:=l) (k:=k) (by omega) (rfl:nth l k (z.H z.str)=nth l k (z.H z.str));rw[ep (by omega) (z.H z.str)]at D;simp only[v7]at D;refine cS (by simp only[len];omega) ⟨⟨by omega,by simp only[len];omega⟩,bq (fun h=>?_) (fun h=>⟨by omega,cn (fun G=>?_) (fun G=>?_)⟩)⟩
  ·rw[if_pos (by simp only[len]at h;omega)]at D;exact D
  ·rw[if_neg (by simp only[len]at h;omega),if_pos (by rw[<- hi];exact G)]at D;exact D
  ·rw[if_neg (by simp only[len]at h;omega),if_neg (by rw[<- hi,G];simp)]at D;rw[di (by omega)];rw[<- ie (by omega) (z.H z.str)]at D;exact So l ax K d (k+1) (by omega) D
theorem LY:bw 13 y3:=b2 (Γ:=M0) 0 (bv.f Mp) Tryz.func13 (by kernel_rfl) fun vs ar=>by
 unfold y3;split;rotate_left;trivial;rename_i l;refine⟨by kernel_rfl,fun K D=>?_⟩;refine⟨l.length+2,?_⟩;refine ck (fun rec=>(by kernel_rfl:_=(
  J (aN 60 (len l:Int))
  (K (.one (A 2)) [])
  (rec xb (Kc 0 (len l:Int) l 0 l))))) ?_
 unfold fH at D;refine bq (fun h=>?_) (fun h=>?_)
 ·rw[if_pos (by simp only[len]at h;omega)]at D;exact D
 ·rw[if_neg (by simp only[len]at h;omega)]at D;exact So l (by simp only[len]at h;omega) K l.length 0 (by omega) D

def B0:bd
 |[.one (.E (.list .signed) l)],[]=>some (none,.one (A (iq l)),[])
 |_,_=>none
def Nd:Ctx:=[]
def xw:List cw:=[.inLoop [10,9,8,2] (Code.sub (bF Tryz.f14) [1,1,0,1,0,0]),.inBlock 0,.code (Code.sub (bF Tryz.f14) [1,1,1])]
def Ky(F al:Int)(M:cD)(ae:Int):bP:=⟨[(10,.one (A F)),(9,.one (A al)),(8,.one (.E (z.list z.signed) M)),(2,.one (A ae))],[],0⟩
theorem Ug{F:Int}{rec:bZ}{K:aW}{al M ae}{v0}(b0:v0=fun a=>Ky a al M ae):b7 Nd tab Tryz.f14 0 K rec (cQ xw) (v0 F)=(
 J (aN F al)
 (((0:Int)<=F/\F<(len M:Int)) /\
 J (aN (nth M (Int.toNat F) (z.H z.signed)).key 1)
 (K (.one (A 3)) [])
 (J (aN 50 (nth M (Int.toNat F) (z.H z.signed)).key)
 (K (.one (A 3)) [])
 (J (aN (nth M (Int.toNat F) (z.H z.signed)).name 1)
 (K (.one (A 3)) [])
 (J (aN 60 (nth M (Int.toNat F) (z.H z.signed)).name)
 (K (.one (A 3)) [])
 (rec xw (v0 (W (F+1))))))))
 (K (.one (A 0)) [])):=by subst_vars;kernel_rfl

theorem SH(l:cD)(ax:l.length<=360)(K:aW)(ae:Int):∀(d k:Nat),k+d=l.length->K (.one (A (if (l.drop k).all mF then 0 else 3))) [] ->
  cl Nd tab Tryz.f14 0 K (d+1) xw (Ky (k:Int) (((len l):Nat):Int) l ae)
 |0,k,ad,D=>by
  rw[bW (L:=xw),Ug rfl];rw[List.drop_of_length_le (by omega)]at D;exact co (by simp only[len];omega) D
 |d+1,k,ad,D=>by
  rw[bW (L:=xw),Ug rfl,cM];rw[ep (by omega) (z.H z.signed)]at D;obtain⟨x,aG⟩:∃x,nth l k (z.H z.signed)=x:=⟨_,rfl⟩
  rw[aG]at D |-;rw[List.all_cons]at D;have bad:¬(1<=x.key/\x.key<=50/\1<=x.name/\x.name<=60)->K (.one (A 3)) []:=fun h=>by
   rw[show mF x=false from by
    cases az:mF x
    ·rfl
    ·simp only[mF,Bool.and_eq_true,decide_eq_true_eq]at az;exact absurd az (by omega)]at D
   exact D
  rw[di (by omega)];refine cS (by simp only[len];omega) ⟨⟨by omega,by simp only[len];omega⟩,bq (fun h=>bad (by omega)) (fun h=>bq (fun G=>bad (by omega)) (fun G=>bq (fun ab=>bad (by omega)) (fun ab=>bq (fun aV=>bad (by omega)) (fun aV=>?_))))⟩;rw[show mF x=true from by simp only[mF,Bool.and_eq_true,decide_eq_true_eq];omega,Bool.true_and]at D;exact SH l ax K ae d (k+1) (by omega) D
theorem Ws:bw 14 B0:=b2 (Γ:=Nd) 0 bv Tryz.func14 (by kernel_rfl) fun vs ar=>by
 unfold B0;split;rotate_left;trivial;rename_i l;refine⟨by kernel_rfl,fun K D=>?_⟩;refine⟨l.length+2,?_⟩;refine ck (fun rec=>(by kernel_rfl:_=(
  J (aN 360 (len l:Int))
  (K (.one (A 2)) [])
  (rec xw (Ky 0 (len l:Int) l 0))))) ?_
 unfold iq at D;refine bq (fun h=>?_) (fun h=>?_)
 ·rw[if_pos (by simp only[len]at h;omega)]at D;exact D
 ·rw[if_neg (by simp only[len]at h;omega)]at D;exact SH l (by simp only[len]at h;omega) K 0 l.length 0 (by omega) D

def OJ:bd
 |[.one (.E (.list .int) l)],[]=>some (some (eQ l),.one (ay (cK l)),[])
 |_,_=>none

theorem AW:bw 70 OJ:=b2 0 ((bv.f L4).f L9) Tryz.func70 (by kernel_rfl) fun vs ar=>by
 unfold OJ;split;rotate_left;trivial;rename_i l;refine⟨by kernel_rfl,fun ag K D=>?_⟩;refine⟨1,?_⟩;refine ck (fun rec=>(by kernel_rfl:_=(
  List.length l<=140737488355328 /\
  K (.one (ay (!(!(cK l))))) []))) ?_
 refine⟨ag,?_⟩;rw[Bool.not_not];exact D

def O4:bd
 |[.agg [.E (.list .int) ws,.E .int fu]],[]=>some (some (eQ ws),.one (A (e3 ⟨ws,fu⟩)),[])
 |_,_=>none

theorem aiu:bw 122 O4:=b2 0 (bv.f AW) Tryz.func122 (by kernel_rfl) fun vs ar=>by
 unfold O4;split;rotate_left;trivial;rename_i ws fu;dsimp only[z.den]at ws fu;refine⟨by kernel_rfl,fun ag K D=>?_⟩;refine⟨1,?_⟩;obtain⟨v1,cd⟩:∃v1,v1=J (aN fu (-1))
  (K (.one (A 3)) [])
  (J (aN 100000 fu)
  (K (.one (A 3)) [])
  (List.length ws<=140737488355328 /\
  J (!(cK ws))
  (K (.one (A 3)) [])
  (K (.one (A 0)) []))):=⟨_,rfl⟩
 refine ck (fun rec=>(by subst cd;kernel_rfl:_=(
  J (!(au (len ws:Int) 32))
  (J (!(au (len ws:Int) 64))
  (J (!(au (len ws:Int) 96))
  (J (!(au (len ws:Int) 128))
  (J (!(au (len ws:Int) 160))
  (J (!(au (len ws:Int) 192))
  (K (.one (A 4)) [])
  v1)
  v1)
  v1)
  v1)
  v1)
  v1))) ?_
 subst cd;have qG:kK ws.length=true->J (aN fu (-(1:Int))) (K (.one (A (3:Int))) []) (J (aN (100000:Int) fu) (K (.one (A (3:Int))) []) (((List.length ws)<=140737488355328)/\(J (!(cK ws)) (K (.one (A (3:Int))) []) (K (.one (A (0:Int))) [])))):=fun ax=>by
  have three:(decide (-1<=fu)&&decide (fu<=100000)&&cK ws)=false->K (.one (A 3)) []:=fun h=>by
   rw[show e3 ⟨ws,fu⟩=3 from by simp[e3,ax,h]]at D;exact D
  refine bq (fun h=>three (by simp;omega)) (fun h=>bq (fun G=>three (by simp;omega)) (fun G=>⟨ag,eF (fun ab=>three (by simp[ab])) (fun ab=>?_)⟩));rw[show e3 ⟨ws,fu⟩=0 from Cl ax h G ab]at D;exact D
 simp only[len];refine bN (fun I=>bN (fun G=>bN (fun ab=>bN (fun aV=>bN (fun br=>bN (fun bV=>?_) (fun h=>qG ?_)) (fun h=>qG ?_)) (fun h=>qG ?_)) (fun h=>qG ?_)) (fun h=>qG ?_)) (fun h=>qG ?_)
 ·rw[show e3 ⟨ws,fu⟩=4 from by
   have:kK ws.length=false:=by simp[kK];omega
   simp[e3,this]]at D
  exact D
 all_goals (simp[kK];omega)

def Pg:bd
 |[.agg [.E (.list .int) ws,.E .int _],.one (.E .int dG)],[]=>some (some (0<=dG/\dG<=1/\64<=len ws),.one (A (e0 ws dG.toNat)),[])
 |_,_=>none
def Nw:Ctx:=[]
theorem adI:fz Tryz.prog tab Nw:=bv
theorem afE(ws:aJ)(fu dG:Int)(rec:bZ)(K:aW):b7 Nw tab Tryz.f161 0 K rec [.code (bF Tryz.f161)] (df [.agg [af ws,A fu],.one (A dG)] [])=(
 ((0:Int)<=W ((32:Int)*dG)/\W ((32:Int)*dG)<(len ws:Int)) /\
 J (!(au (nth ws (Int.toNat (W ((32:Int)*dG))) (z.H z.int)) 65535))
 (K (.one (A (nth ws (Int.toNat (W ((32:Int)*dG))) (z.H z.int)))) [])
 (K (.one (A 0)) [])):=by kernel_rfl

theorem agv(ag:0<=dG/\dG<=1/\64<=len ws)(K:aW)(D:K (.one (A (e0 ws dG.toNat))) []):∃m,cl Nw tab Tryz.f161 0 K m [.code (bF Tryz.f161)] (df [.agg [af ws,A fu],.one (A dG)] []):=by
 obtain⟨a6,I,G⟩:=ag;obtain⟨s,rfl⟩:=Int.eq_ofNat_of_zero_le a6;refine⟨1,?_⟩;rw[eO,afE _ _ _ _ _,cc (n:=32*(s:Int)) (by omega) (by omega),show Int.toNat (32*(s:Int))=32*s by omega];rw[cM]at D;unfold e0 at D;have e:nth ws (32*s) (z.H z.int)=ws.getD (32*s) 0:=rfl;rw[e];refine⟨⟨by omega,by omega⟩,bN (fun h=>?_) (fun h=>?_)⟩
 ·rw[if_neg h]at D;exact D
 ·rw[if_pos h]at D;exact D
theorem aiH:bw 161 Pg:=hN adI Tryz.func161 (by kernel_rfl) (by
 intro vs ar p v dB h ag;unfold Pg at h;split at h
 ·cases h;exact⟨by kernel_rfl,rfl,.inl (agv _ _ _ ag.1 _ ⟨rfl,rfl⟩)⟩
 ·cases h)

def Cc:bd
 |[.agg [.E (.list .int) ws,.E .int _]],[]=>some (some (64<=len ws),.an [.one (A (ed ws)),.one (A (eX ws))],[])
 |_,_=>none

theorem Mm:bw 123 Cc:=b2 0 (bv.f aiH) Tryz.func123 (by kernel_rfl) fun vs ar=>by
 unfold Cc;split;rotate_left;trivial;rename_i ws fu;refine⟨by kernel_rfl,fun ag K D=>?_⟩;refine⟨1,?_⟩;refine ck (fun rec=>(by kernel_rfl:_=(
  ((0:Int)<=(0:Int)/\(0:Int)<=(1:Int)/\64<=len ws) /\
  ((0:Int)<=(1:Int)/\(1:Int)<=(1:Int)/\64<=len ws) /\
  J (dc (e0 ws (Int.toNat 1)) (e0 ws (Int.toNat 0)))
  (K (.an [.one (A 0),.one (A (e0 ws (Int.toNat 0)))]) [])
  (K (.an [.one (A 1),.one (A (e0 ws (Int.toNat 1)))]) [])))) ?_
 have dY:e0 ws (Int.toNat (0:Int))=e0 ws 0:=rfl;have aO:e0 ws (Int.toNat (1:Int))=e0 ws 1:=rfl;rw[dY,aO];unfold eX ed at D;refine⟨⟨by omega,by omega,ag⟩,⟨by omega,by omega,ag⟩,cn (fun h=>?_) (fun h=>?_)⟩
 ·rw[fV]at h;rw[if_neg (by omega)]at D;exact D
 ·rw[eC]at h;rw[if_pos h]at D;exact D

def Ph:bd
 |[.agg [.E (.list .int) ws,.E .int fu]],[]=>some (some (eQ ws),.one (A (dE ⟨ws,fu⟩)),[])
 |_,_=>none

theorem WQ:bw 68 Ph:=b2 0 ((bv.f Mm).f aiu) Tryz.func68 (by kernel_rfl) fun vs ar=>by
 unfold Ph;split;rotate_left;trivial;rename_i ws fu;refine⟨by kernel_rfl,fun ag K D=>?_⟩;refine⟨1,?_⟩;refine ck (fun rec=>(by kernel_rfl:_=(
  List.length ws<=140737488355328 /\
  J (!(au (e3 (⟨ws,fu⟩:cm)) 0))
  (K (.one (A (e3 (⟨ws,fu⟩:cm)))) [])
  (J (au (len ws:Int) 32)
  (K (.one (A 4)) [])
  (64<=len ws /\
  J (au (eX ws) 0)
  (K (.one (A 5)) [])
  (J (aN 60000 (eX ws))
  (K (.one (A 5)) [])
  (K (.one (A 0)) []))))))) ?_
 unfold dE at D;refine⟨ag,bN (fun h=>?_) (fun h=>?_)⟩
 ·rw[if_neg h]at D;exact D
 rw[if_pos h]at D;obtain⟨bA,_,_,du⟩:=jh h;simp only at bA du D;have aq:ws.length=32\/64<=ws.length:=by simp[kK]at bA;omega
 have ZQ:=wE du (ed ws);have ZL:eX ws=e0 ws (ed ws):=rfl;refine cz (fun G=>?_) (fun G=>?_)
 ·rw[if_neg (by simp only[len]at G;omega)]at D;exact D
 have Il:64<=ws.length:=by simp only[len]at G;omega
 rw[if_pos Il]at D;refine⟨Il,cz (fun ab=>?_) (fun ab=>bq (fun aV=>?_) (fun aV=>?_))⟩
 ·rw[if_neg (by omega)]at D;exact D
 ·rw[if_neg (by omega)]at D;exact D
 ·rw[if_pos (by omega)]at D;exact D

def BO:bd
 |[.agg [.E .int v,.E (.list .int) aF,.E .int t]],[]=>some (none,.one (A (ht v aF t)),[])
 |_,_=>none
def M1:Ctx:=[]
def xd:List cw:=[.inLoop [27,26,25,4,2,1] (Code.sub (bF Tryz.f124) [1,1,1,1,0,1,0,0]),.inBlock 0,.code (Code.sub (bF Tryz.f124) [1,1,1,1,1])]
def Ke(F al:Int)(M:aJ)(ae ao aE:Int)(aH:aJ)(aS:Int):bP:=⟨[(27,.one (A F)),(26,.one (A al)),(25,.one (af M)),(4,.one (A ae)),(2,.one (A ao)),(1,.one (.ptr 0 0))],[(0,.box [A aE,af aH,A aS])],1⟩
theorem TU{F ae:Int}{rec:bZ}{K:aW}{al M ao aE aH aS}{v0 v1}(b0:v0=fun a b=>Ke a al M b ao aE aH aS)(cd:v1=rec xd (v0 (W (F+1)) (nth M (Int.toNat F) (z.H z.int)))):b7 M1 tab Tryz.f124 0 K rec (cQ xd) (v0 F ae)=(
 J (aN F al)
 (((0:Int)<=F/\F<(len M:Int)) /\
 J (aN (nth M (Int.toNat F) (z.H z.int)) 1)
 (K (.one (A 3)) [])
 (J (aN 50 (nth M (Int.toNat F) (z.H z.int)))
 (K (.one (A 3)) [])
 (J (aN 0 F)
 (J (dc (nth M (Int.toNat F) (z.H z.int)) ae)
 (K (.one (A 6)) [])
 v1)
 v1)))
 (J (aN aS 1)
 (K (.one (A 4)) [])
 (J (aN (len aH:Int) aS)
 (K (.one (A 4)) [])
 (K (.one (A 0)) [])))):=by subst_vars;kernel_rfl

theorem Jy(aF:aJ)(v t:Int)(ax:aF.length<=6)(K:aW):∀(d k:Nat) (last:Option Int) (ae:Int),k+d=aF.length->((k=0/\last=none)\/(0<k/\last=some ae)) ->
  K (.one (A (yl (lw last (aF.drop k)) t aF.length))) [] ->
  cl M1 tab Tryz.f124 0 K (d+1) xd (Ke (k:Int) (((len aF):Nat):Int) aF ae 0 v aF t)
 |0,k,last,ae,ad,IM,D=>by
  rw[bW (L:=xd),TU rfl rfl];rw[List.drop_of_length_le (by omega)]at D;rw[show yl (lw last []) t aF.length=if t<1\/(aF.length:Int)<t then 4 else 0 from rfl]at D;refine co (by simp only[len];omega) (bq (fun h=>?_) (fun h=>bq (fun G=>?_) (fun G=>?_)))
  ·rw[if_pos (.inl h)]at D;exact D
  ·rw[if_pos (.inr G)]at D;exact D
  ·rw[if_neg (by simp only[len]at G;omega)]at D;exact D
 |d+1,k,last,ae,ad,IM,D=>by
  rw[bW (L:=xd),TU rfl rfl,cM];rw[ep (by omega) (z.H z.int)]at D;obtain⟨x,aG⟩:∃x,nth aF k (z.H z.int)=x:=⟨_,rfl⟩
  rw[aG]at D |-;have hv:W ((k:Int)+1)=((k+1:Nat):Int):=di (by omega);rw[hv];refine cS (by simp only[len];omega) ⟨⟨by omega,by simp only[len];omega⟩,bq (fun h=>?_) (fun h=>bq (fun G=>?_) (fun G=>?_))⟩
  ·rw[show lw last (x::aF.drop (k+1))=3 from if_pos (.inl h)]at D;exact D
  ·rw[show lw last (x::aF.drop (k+1))=3 from if_pos (.inr G)]at D;exact D
  ·rw[show lw last (x::aF.drop (k+1))=if nk last x then 6 else lw (some x) (aF.drop (k+1))from if_neg (by omega)]at D;refine bq (fun ab=>?_) (fun ab=>?_)
   ·obtain⟨_,rfl⟩:=IM.resolve_left (fun g=>by omega);refine cn (fun aV=>?_) (fun aV=>?_)
    ·rw[fV]at aV;rw[if_pos (show nk (some ae) x=true from decide_eq_true aV)]at D;exact D
    ·rw[eC]at aV;rw[if_neg (show ¬nk (some ae) x=true from by simp only[nk,decide_eq_true_eq];omega)]at D;exact Jy aF v t ax K d (k+1) (some x) x (by omega) (.inr ⟨by omega,rfl⟩) D
   ·obtain⟨_,rfl⟩:=IM.resolve_right (fun g=>by omega);rw[if_neg (show ¬nk none x=true from by simp[nk])]at D;exact Jy aF v t ax K d (k+1) (some x) x (by omega) (.inr ⟨by omega,rfl⟩) D
theorem L0:bw 124 BO:=b2 (Γ:=M1) 0 bv Tryz.func124 (by kernel_rfl) fun vs ar=>by
 unfold BO;split;rotate_left;trivial;rename_i v aF t;refine⟨by kernel_rfl,fun K D=>?_⟩;refine⟨aF.length+2,?_⟩;refine ck (fun rec=>(by kernel_rfl:_=(
  J (aN v 1)
  (K (.one (A 3)) [])
  (J (aN 1000 v)
  (K (.one (A 3)) [])
  (J (aN (len aF:Int) 1)
  (K (.one (A 2)) [])
  (J (aN 6 (len aF:Int))
  (K (.one (A 2)) [])
  (rec xd (Ke 0 (len aF:Int) aF 0 0 v aF t)))))))) ?_
 unfold ht at D;refine bq (fun h=>?_) (fun h=>bq (fun G=>?_) (fun G=>bq (fun ab=>?_) (fun ab=>bq (fun aV=>?_) (fun aV=>?_))))
 ·rw[if_pos (.inl h)]at D;exact D
 ·rw[if_pos (.inr G)]at D;exact D
 ·rw[if_neg (by omega),if_pos (by simp only[len]at ab;omega)]at D;exact D
 ·rw[if_neg (by omega),if_pos (by simp only[len]at aV;omega)]at D;exact D
 ·rw[if_neg (by omega),if_neg (by simp only[len]at ab aV;omega)]at D;exact Jy aF v t (by simp only[len]at aV;omega) K aF.length 0 none 0 (by omega) (.inl ⟨rfl,rfl⟩) D

def B1:bd
 |[.agg [.E .int v,.E (.list .int) aF,.E .int t,.E .int n]],[]=>some (none,.one (A (g2 ⟨⟨v,aF,t⟩,n⟩)),[])
 |_,_=>none

theorem Me:bw 69 B1:=b2 0 (bv.f L0) Tryz.func69 (by kernel_rfl) fun vs ar=>by
 unfold B1;split;rotate_left;trivial;rename_i v aF t n;refine⟨by kernel_rfl,fun K D=>?_⟩;refine⟨1,?_⟩;refine ck (fun rec=>(by kernel_rfl:_=(
  J (aN n 0)
  (K (.one (A 3)) [])
  (J (aN 1000 n)
  (K (.one (A 3)) [])
  (K (.one (A (ht v aF t))) []))))) ?_
 unfold g2 at D;simp only at D;refine bq (fun h=>?_) (fun h=>bq (fun G=>?_) (fun G=>?_))
 ·rw[if_pos (.inl h)]at D;exact D
 ·rw[if_pos (.inr G)]at D;exact D
 ·rw[if_neg (by omega)]at D;exact D

def Gf:bd
 |[.agg [.E (.list .int) ws,.E .int fu,.E .bool up,.E .int ak,.E (.list .int) ah,.E .int aj,.E .int ai,.E (.list .bool) Y,.E (.list .bool) aa]],[]=>some (some (eQ ws),.one (A (dM ⟨⟨ws,fu⟩,up,⟨⟨ak,ah,aj⟩,ai⟩,Y,aa⟩)),[])
 |_,_=>none

theorem ahH:bw 15 Gf:=b2 0 ((bv.f Me).f WQ) Tryz.func15 (by kernel_rfl) fun vs ar=>by
 unfold Gf;split;rotate_left;trivial;rename_i ws fu up ak ah aj ai Y aa;refine⟨by kernel_rfl,fun ag K D=>?_⟩;refine⟨1,?_⟩;refine ck (fun rec=>(by kernel_rfl:_=(
  List.length ws<=140737488355328 /\
  J (!(au (dE ⟨ws,fu⟩) 0))
  (K (.one (A (dE ⟨ws,fu⟩))) [])
  (J (aN (len Y:Int) 1)
  (K (.one (A 4)) [])
  (J (aN 4 (len Y:Int))
  (K (.one (A 4)) [])
  (J (!(au (len aa:Int) (len Y:Int)))
  (K (.one (A 4)) [])
  (K (.one (A (g2 ⟨⟨ak,ah,aj⟩,ai⟩))) []))))))) ?_
 unfold dM at D;simp only at D;refine⟨ag,bN (fun h=>?_) (fun h=>bq (fun G=>?_) (fun G=>bq (fun ab=>?_) (fun ab=>bN (fun aV=>?_) (fun aV=>?_))))⟩
 ·rw[if_neg h]at D;exact D
 all_goals rw[if_pos h]at D
 ·rw[if_pos (by simp only[len]at G;omega)]at D;exact D
 ·rw[if_pos (by simp only[len]at ab;omega)]at D;exact D
 ·rw[if_pos (by simp only[len]at aV;omega)]at D;exact D
 ·rw[if_neg (by simp only[len]at G ab aV;omega)]at D;exact D
end
end Go.Proofs.YtlbppjmekiemiaaGreatDoor
