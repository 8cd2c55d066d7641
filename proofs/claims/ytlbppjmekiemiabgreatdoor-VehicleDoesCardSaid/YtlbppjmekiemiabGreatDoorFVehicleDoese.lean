/- What the functions of VehicleDoes compute (part 5 of 5). No condition. -/
import Derived.Test.YtlbppjmekiemiabGreatDoorFVehicleDoesd
import Derived.KernelRfl
namespace Go.Proofs.YtlbppjmekiemiabGreatDoor
noncomputable section
open bF
set_option maxHeartbeats 4000000
variable (up iA:Bool) (fu il ae aq hu now nl bY bE rt fM aj lj ak lk al ll:Int) (a8 mL rg:cj) (b aJ nx:cD) (ab kY aa lp:da) (fg a5 ah lh ws iB:aK) (cs mu:c3) (W nk:cF) (rs:hs) (l vs ny:cG) (ts:LT) (us mX:cZ)
def Hi:a7
 |[.agg [.E (.list .str) b],.agg [.E (.list .int) ws,.E .int fu,.E .bool up,.E .int bw,.E .int bz],.agg [.E .int mk,.E .int ba,.E .int bb,.E .int bB,.E .int ch,.E (.list .int) bQ,.E .bool cz]],[]=>some (some (fq b=0/\e4 ⟨⟨ws,fu⟩,up,bw,bz⟩=0/\gd ⟨mk,ba,bb,bB,ch,bQ,cz⟩=0),.ao [.agg (fJ (he b ⟨⟨ws,fu⟩,up,bw,bz⟩ ⟨mk,ba,bb,bB,ch,bQ,cz⟩).1),.one (bs (he b ⟨⟨ws,fu⟩,up,bw,bz⟩ ⟨mk,ba,bb,bB,ch,bQ,cz⟩).2)],[])
 |_,_=>none

theorem akc:bo 73 Hi:=b2 0 ((((((((((((bn.f aka).f qT).f ak5).f Fm).f M8).f ak4).f ak3).f ak2).f X0).f akb).f Nl).f Ft) Tryz.func73 (by kernel_rfl) fun vs au=>by
 unfold Hi;split;rotate_left;trivial;rename_i b ws fu up bw bz mk ba bb bB ch bQ cz;refine⟨by kernel_rfl,fun ad K D=>?_⟩;refine⟨1,?_⟩;obtain⟨v1,b9⟩:∃v1,v1=c5 ⟨ws,fu⟩:=⟨_,rfl⟩
 obtain⟨aC,cT⟩:∃aC,aC=eX ⟨ws,fu⟩ (U ((1:Int)-v1.slot)):=⟨_,rfl⟩
 obtain⟨v3,ed⟩:∃v3,v3=hv ⟨ws,fu⟩ (U ((1:Int)-v1.slot)):=⟨_,rfl⟩
 obtain⟨cn,hx⟩:∃cn,cn=e8 ⟨⟨ws,fu⟩,up,bw,bz⟩ v3.fst v3.snd:=⟨_,rfl⟩
 obtain⟨dy,iL⟩:∃dy,dy=fa cn.fst.f (U ((1:Int)-v1.slot)) bB bQ:=⟨_,rfl⟩
 obtain⟨v9,jY⟩:∃v9,v9=e8 ⟨cn.fst.f,cn.fst.up,bb,0⟩ dy.fst dy.snd:=⟨_,rfl⟩
 obtain⟨v10,nf⟩:∃v10,v10=e8 cn.fst dy.fst dy.snd:=⟨_,rfl⟩
 obtain⟨v11,oN⟩:∃v11,v11=fa ⟨ws,fu⟩ (U ((1:Int)-v1.slot)) bB bQ:=⟨_,rfl⟩
 obtain⟨hc,sH⟩:∃hc,hc=e8 ⟨⟨ws,fu⟩,up,bw,bz⟩ v11.fst v11.snd:=⟨_,rfl⟩
 obtain⟨v20,Ec⟩:∃v20,v20=gn ⟨ws,fu⟩ (U ((1:Int)-v1.slot)) bB ch:=⟨_,rfl⟩
 obtain⟨v22,Sv⟩:∃v22,v22=e8 ⟨⟨ws,fu⟩,up,bw,bz⟩ v20.fst v20.snd:=⟨_,rfl⟩
 obtain⟨B8,Sw⟩:∃B8,B8=ni v22.fst.f.words (U ((1:Int)-v1.slot)):=⟨_,rfl⟩
 obtain⟨FJ,Sx⟩:∃FJ,FJ=iy false (vU ⟨⟨ws,fu⟩,up,bw,bz⟩ ((3:Int)::bb::[])):=⟨_,rfl⟩
 obtain⟨uJ,Sy⟩:∃uJ,uJ=ff ⟨⟨ws,fu⟩,up,bw,bz⟩ ((3:Int)::bb::[]):=⟨_,rfl⟩
 obtain⟨B9,Sz⟩:∃B9,B9=pd FJ ba bb 6 false:=⟨_,rfl⟩
 obtain⟨FL,SB⟩:∃FL,FL=J (ar bw bb)
  (J (ar bz bB)
  (J (dh (U (bB+(len bQ:Int))) 40)
  ((aC=(0:Int)/\List.length bQ<=140737488355328) /\
  J (!(iy false v11.snd))
  (K (.ao [.agg [af hc.fst.f.words,A hc.fst.f.fuel,ax hc.fst.up,A hc.fst.n,A (U (bB+(len bQ:Int)))],.one (bs [])]) [])
  (K (.ao [.agg (fJ hc.fst),.one (bs [])]) []))
  (K (.ao [.agg [af ws,A fu,ax up,A bw,A bz],.one (bs [])]) []))
  (K (.ao [.agg [af ws,A fu,ax up,A bw,A bz],.one (bs [])]) []))
  (K (.ao [.agg [af ws,A fu,ax up,A bw,A bz],.one (bs [])]) []):=⟨_,rfl⟩
 obtain⟨FM,SC⟩:∃FM,FM=K (.ao [.agg [af v22.fst.f.words,A v22.fst.f.fuel,ax v22.fst.up,A (0:Int),A (0:Int)],.one (bs (pd (iy false v20.snd) ba bb 3 false))]) []:=⟨_,rfl⟩
 obtain⟨wF,SD⟩:∃wF,wF=K (.ao [.agg [af ws,A fu,ax up,A bw,A bz],.one (bs (pd false ba bb 3 false))]) []:=⟨_,rfl⟩
 obtain⟨Ca,SE⟩:∃Ca,Ca=K (.ao [.agg [af ws,A fu,ax up,A bw,A bz],.one (bs (pd false ba bb 6 false))]) []:=⟨_,rfl⟩
 obtain⟨v46,SF⟩:∃v46,v46=K (.ao [.agg [af ws,A fu,ax up,A bw,A bz],.one (bs [])]) []:=⟨_,rfl⟩
 obtain⟨zv,SG⟩:∃zv,zv=K (.ao [.agg [af cn.fst.f.words,A cn.fst.f.fuel,ax cn.fst.up,A bb,A (0:Int)],.one (bs [])]) []:=⟨_,rfl⟩
 obtain⟨FK,SA⟩:∃FK,FK=J (!(iy false v3.snd))
  (J (!(iy false v3.snd))
  (J (ar bb bb)
  (J (ar 0 bB)
  (J (dh (U (bB+(len bQ:Int))) 40)
  ((eX cn.fst.f (U ((1:Int)-v1.slot))=(0:Int)/\List.length bQ<=140737488355328) /\
  J (!(iy (iy false v3.snd) dy.snd))
  (K (.ao [.agg [af v9.fst.f.words,A v9.fst.f.fuel,ax v9.fst.up,A v9.fst.n,A (U (bB+(len bQ:Int)))],.one (bs [])]) [])
  (K (.ao [.agg (fJ v9.fst),.one (bs [])]) []))
  zv)
  zv)
  zv)
  zv)
  (J (!(iy false v3.snd))
  (J (ar cn.fst.n bb)
  (J (ar cn.fst.eG bB)
  (J (dh (U (bB+(len bQ:Int))) 40)
  ((eX cn.fst.f (U ((1:Int)-v1.slot))=(0:Int)/\List.length bQ<=140737488355328) /\
  J (!(iy (iy false v3.snd) dy.snd))
  (K (.ao [.agg [af v10.fst.f.words,A v10.fst.f.fuel,ax v10.fst.up,A v10.fst.n,A (U (bB+(len bQ:Int)))],.one (bs [])]) [])
  (K (.ao [.agg (fJ v10.fst),.one (bs [])]) []))
  (K (.ao [.agg (fJ cn.fst),.one (bs [])]) []))
  (K (.ao [.agg (fJ cn.fst),.one (bs [])]) []))
  (K (.ao [.agg (fJ cn.fst),.one (bs [])]) []))
  (K (.ao [.agg (fJ cn.fst),.one (bs [])]) [])):=⟨_,rfl⟩
 refine cf (fun rec=>(by subst SA SG SF SE SD SC SB Sz Sy Sx Sw Sv Ec sH oN nf jY iL hx ed cT b9;kernel_rfl:_=(
  len ws*8<=140737488355328 /\
  dC ⟨ws,fu⟩=(0:Int) /\
  J (!up)
  v46
  (J (ar mk 1)
  (J (!(ar v1.ready 0))
  v46
  (J (dh bb v1.e2)
  v46
  (J (ar bB 0)
  (J (ar bw bb)
  (J (!(aL 0 bz))
  (aC=(0:Int) /\
  FK)
  FL)
  (aC=(0:Int) /\
  FK))
  FL)))
  (J (ar mk 2)
  (J (dh bb v1.e2)
  Ca
  (J (!(ar v1.ready 0))
  (K (.ao [.agg [af ws,A fu,ax up,A bw,A bz],.one (bs (pd false ba bb 3 (ar v1.ready bb)))]) [])
  (((0:Int)<=U (U ((64:Int)+U ((64:Int)*U ((1:Int)-v1.slot)))+4)/\U (U ((64:Int)+U ((64:Int)*U ((1:Int)-v1.slot)))+4)<=U (U (U ((64:Int)+U ((64:Int)*U ((1:Int)-v1.slot)))+4)+bB)/\U (U (U ((64:Int)+U ((64:Int)*U ((1:Int)-v1.slot)))+4)+bB)<=(len ws:Int)) /\
  J (!(ar bw bb))
  wF
  (J (!(ar bz bB))
  wF
  (J (ar (((len (aW ws (Int.toNat (U (U ((64:Int)+U ((64:Int)*U ((1:Int)-v1.slot)))+4))) (Int.toNat (U (U (U ((64:Int)+U ((64:Int)*U ((1:Int)-v1.slot)))+4)+bB))))):Nat):Int) 0)
  wF
  (J (ar ch 0)
  wF
  (fv (aW ws (Int.toNat (U (U ((64:Int)+U ((64:Int)*U ((1:Int)-v1.slot)))+4))) (Int.toNat (U (U (U ((64:Int)+U ((64:Int)*U ((1:Int)-v1.slot)))+4)+bB))))=(0:Int) /\
  List.length b<=60 /\
  J (!(ar (ev (kk (aW ws (Int.toNat (U (U ((64:Int)+U ((64:Int)*U ((1:Int)-v1.slot)))+4))) (Int.toNat (U (U (U ((64:Int)+U ((64:Int)*U ((1:Int)-v1.slot)))+4)+bB))))) b+1) ch))
  wF
  (aC=(0:Int) /\
  J (!(iy false v20.snd))
  (eX v22.fst.f (U ((1:Int)-v1.slot))=(0:Int) /\
  J (!(ar B8.snd ch))
  FM
  (List.length B8.fst<=140737488355328 /\
  J (!(gx B8.fst (aW ws (Int.toNat (U (U ((64:Int)+U ((64:Int)*U ((1:Int)-v1.slot)))+4))) (Int.toNat (U (U (U ((64:Int)+U ((64:Int)*U ((1:Int)-v1.slot)))+4)+bB))))))
  FM
  ((dC v22.fst.f=(0:Int)/\List.length ((2:Int)::bb::[])<=140737488355328) /\
  K (.ao [.agg (fJ (ff ⟨v22.fst.f,v22.fst.up,0,0⟩ ((2:Int)::bb::[])).fst),.one (bs (pd (iy (iy false v20.snd) (vU ⟨v22.fst.f,v22.fst.up,0,0⟩ ((2:Int)::bb::[]))) ba bb 3 true))]) [])))
  (K (.ao [.agg (fJ v22.fst),.one (bs (pd (iy false v20.snd) ba bb 3 true))]) [])))))))))
  (J (ar mk 4)
  (J (!(ar v1.e2 bb))
  (J (!(ar v1.ready bb))
  v46
  ((dC ⟨ws,fu⟩=(0:Int)/\List.length ((1:Int)::U ((1:Int)-v1.slot)::bb::[])<=140737488355328) /\
  K (.ao [.agg (fJ (ff ⟨⟨ws,fu⟩,up,bw,bz⟩ ((1:Int)::U ((1:Int)-v1.slot)::bb::[])).fst),.one (bs (pd (iy false (vU ⟨⟨ws,fu⟩,up,bw,bz⟩ ((1:Int)::U ((1:Int)-v1.slot)::bb::[]))) ba bb 6 false))]) []))
  Ca)
  (J (ar mk 5)
  (J (dh bb v1.e2)
  v46
  (J (ar v1.ready bb)
  ((dC ⟨ws,fu⟩=(0:Int)/\List.length ((3:Int)::bb::[])<=140737488355328) /\
  J (!FJ)
  (J (ar uJ.fst.n bb)
  (K (.ao [.agg [af uJ.fst.f.words,A uJ.fst.f.fuel,ax uJ.fst.up,A (0:Int),A (0:Int)],.one (bs B9)]) [])
  (K (.ao [.agg (fJ uJ.fst),.one (bs B9)]) []))
  (K (.ao [.agg (fJ uJ.fst),.one (bs B9)]) []))
  (J (ar bw bb)
  (K (.ao [.agg [af ws,A fu,ax up,A (0:Int),A (0:Int)],.one (bs (pd false ba bb 6 false))]) [])
  Ca)))
  v46))))))) ?_
 subst SA SG SF SE SD SC SB Sz Sy Sx Sw Sv Ec sH oN nf jY iL hx ed cT b9;obtain⟨e0,fj,g2⟩:=ad;obtain⟨cO,cL,eH,gy,n8,sS,uy,EZ,WO,agY,Lu,ag7⟩:=ph g2;simp only at cO cL eH gy n8 sS uy EZ WO agY Lu ag7;obtain⟨pc,gQ⟩:∃pc:oi×List fD->Prop,pc=fun r=>K (.ao [.agg (fJ r.1),.one (bs r.2)]) []:=⟨_,rfl⟩
 have fin:∀r,he b ⟨⟨ws,fu⟩,up,bw,bz⟩ ⟨mk,ba,bb,bB,ch,bQ,cz⟩=r->pc r:=fun r h=>by rw[gQ,<- h];exact D
 clear D;have hu:h2 ⟨ws,fu⟩:=UX fj;have aA:=UW fj;have az:ws.length=192:=hu.2;obtain⟨_,_,b8,_⟩:=EA hu;simp only at b8;have fL:=xT ⟨ws,fu⟩;obtain⟨o,aY,av,oJ⟩:=Vb fL;obtain⟨⟨t1,t2⟩,⟨t3,t4⟩,t5,t6⟩:=fL;obtain⟨s,vG⟩:∃s,c5 ⟨ws,fu⟩=s:=⟨_,rfl⟩
 rw[vG]at t1 t2 t3 t4 t5 t6 av oJ |-;rw[cb (n:=1-s.slot) (by omega) (by omega)];have th:eX ⟨ws,fu⟩ (1-s.slot)=0:=by rw[av];exact IH hu aY
 obtain⟨u,g1⟩:∃u:oi,u=⟨⟨ws,fu⟩,up,bw,bz⟩:=⟨_,rfl⟩
 obtain⟨m,fh⟩:∃m:fD,m=⟨mk,ba,bb,bB,ch,bQ,cz⟩:=⟨_,rfl⟩
 rw[<- g1,<- fh]at fin;have sF:u.f=⟨ws,fu⟩:=by rw[g1]
 refine⟨by simp only[len];omega,hu.1,ew (fun h=>?_) (fun tX=>?_)⟩
 ·have e:=fin (u,[]) (R5 (by rw[g1];exact h));rw[gQ,g1]at e;exact e
 have FG:u.up=true:=by rw[g1];exact tX
 refine cI (fun bL=>?_) (fun bL=>cI (fun b0=>?_) (fun b0=>cI (fun e3=>?_) (fun e3=>cI (fun h8=>?_) (fun h8=>?_))))
 ·have jX:∀r,pQ u s m=r->pc (r,[]):=fun r h=>fin _ (by unfold he;rw[if_pos FG,if_pos (by rw[fh];exact bL),sF,vG,h])
  have same:pQ u s m=u->K (.ao [.agg [af ws,A fu,ax up,A bw,A bz],.one (bs [])]) []:=fun h=>by
   have e:=jX _ h;rw[gQ,g1]at e;exact e
  refine bG (fun h=>same (if_pos (.inl (by omega)))) (fun h=>b3 (fun G=>same (if_pos (.inr (.inl (by rw[fh];exact fY.1 G))))) (fun G=>?_));rw[eL]at G;have gX:¬(0<s.ready\/m.n<=s.e2\/8<m.n):=by rw[fh];simp only;omega
  have abd:¬(m.at_=0/\(u.n≠m.n\/u.eG=0))->pc (po u s m,[]):=fun h=>jX _ (by unfold pQ;rw[if_neg gX,if_neg h])
  have aaw:(m.at_=0/\(u.n≠m.n\/u.eG=0))->pc ((if (ij u s).2 then po ⟨(ij u s).1.f,(ij u s).1.up,m.n,0⟩ s m else(ij u s).1),[]):=fun h=>jX _ (by unfold pQ;rw[if_neg gX,if_pos h])
  have Jf:=fun(h:¬(m.at_=0/\(u.n≠m.n\/u.eG=0)))=>Rp (u:=u) (s:=s) (m:=m) (K:=pc) (st:=iy false (fa ⟨ws,fu⟩ (1-s.slot) bB bQ).2) (c:=eX ⟨ws,fu⟩ (1-s.slot)=0/\List.length bQ<=140737488355328) (by rw[B2 u false (fa ⟨ws,fu⟩ (1-s.slot) bB bQ).1,fh];unfold jz;rw[sF];rfl) (fun _ _=>⟨th,by omega⟩) (by rw[fh];exact⟨uy,EZ,Lu⟩) (abd h)
  rw[gQ,g1,fh]at Jf;refine cI (fun a0=>aab (fun aH=>⟨th,?_⟩) (fun sD qC=>?_)) (fun a0=>?_)
  ·have kj:=aaw (by
    rw[g1,fh];refine⟨a0,?_⟩;simp only
    by_cases e:bw=bb
    ·have:=aH (k1.2 e);rw[bF.not_true,xO]at this;obtain⟨_,a1,_⟩:=aA;simp only at a1;exact .inr (by omega)
    ·exact .inl e)
   have es:=B2 u false (hv ⟨ws,fu⟩ (1-s.slot)).1 (hv ⟨ws,fu⟩ (1-s.slot)).2;have m9:e8 u (hv ⟨ws,fu⟩ (1-s.slot)).1 (hv ⟨ws,fu⟩ (1-s.slot)).2=ij u s:=by unfold ij;rw[sF]
   rw[m9,Bool.false_or]at es;refine Z9 (fun h=>?_) (fun h=>?_)
   ·have eu:(ij u s).2=true:=by rw[es]at h;simpa using h
    rw[if_pos eu]at kj;have e5:iy false (hv ⟨ws,fu⟩ (1-s.slot)).2=false:=by simpa using h
    have ay:h2 (ij u s).1.f:=by
     obtain⟨IB,IC⟩:=Ae (u:=u) (m9▸eu);have:=(QR (o:=o) hu aY (.inl (by rw[<- av];exact IB))).1.1;rw[<- m9,IC,av];exact this
    have:=Rp (u:=⟨(ij u s).1.f,(ij u s).1.up,m.n,0⟩) (s:=s) (m:=m) (K:=pc) (st:=iy false (fa (ij u s).1.f (1-s.slot) bB bQ).2) (c:=eX (ij u s).1.f (1-s.slot)=0/\List.length bQ<=140737488355328) (by rw[B2 ⟨(ij u s).1.f,(ij u s).1.up,m.n,0⟩ false (fa (ij u s).1.f (1-s.slot) bB bQ).1,fh];rfl) (fun _ _=>⟨by rw[av];exact IH ay aY,by omega⟩) (by rw[fh];exact⟨uy,EZ,Lu⟩) kj;rw[gQ,<- m9,g1,fh]at this;rw[e5];exact this
   ·have eu:(ij u s).2=false:=by rw[es]at h;simpa using h
    rw[if_neg (by rw[eu];simp),gQ,<- m9,g1]at kj;exact kj
  ·refine Jf ?_;intro g;rw[k1]at sD;rw[bF.not_false,pK]at qC;rcases g.2 with g|g
   ·exact g sD
   ·simp only at g;omega
  ·refine Jf ?_;exact fun g=>a0 g.1
 ·have jX:∀r,pR b u s m=r->pc r:=fun r h=>fin _ (by unfold he;rw[if_pos FG,if_neg (by rw[fh];exact bL),if_pos (by rw[fh];exact b0),sF,vG,h])
  have zw:∀y,pR b u s m=(u,me m y)->K (.ao [.agg [af ws,A fu,ax up,A bw,A bz],.one (bs (pd false ba bb 3 y))]) []:=fun y h=>by
   have e:=jX _ h;rw[gQ,g1,fh]at e;exact e
  refine b3 (fun h=>?_) (fun h=>bG (fun G=>?_) (fun G=>?_))
  ·rw[fY]at h;have e:=jX (u,oy m) (if_pos (by rw[fh];exact h));rw[gQ,g1,fh]at e;exact e
  ·rw[eL]at h;refine zw _ ?_;unfold pR;rw[if_neg (by rw[fh];simp only;omega)]
   by_cases c:s.ready=m.n
   ·rw[if_pos c,show ar s.ready bb=true from k1.2 (by rw[c,fh])]
   ·rw[if_neg c,if_pos (by omega),show ar s.ready bb=false from pn.2 (by rw[fh]at c;exact c)]
  rw[eL]at h;have er:pR b u s m=_:=if_neg (by rw[fh];simp only;omega);have dO:=er.trans (if_neg (by rw[fh];simp only;omega));have gu:=dO.trans (if_neg (by omega));clear er dO;have aN:U (U (64+U (64*(1-s.slot)))+4)=68+64*(1-s.slot):=by
   rw[cb (n:=64*(1-s.slot)) (by omega) (by omega),cb (n:=64+64*(1-s.slot)) (by omega) (by omega),cb (by omega) (by omega)];omega
  rw[aN,cb (n:=68+64*(1-s.slot)+bB) (by omega) (by omega)];have RU:nC u.f (1-s.slot) m.at_=(aW ws (68+64*(1-s.slot)).toNat (68+64*(1-s.slot)+bB).toNat,0):=by
   unfold nC;rw[sF,if_pos th,fh];exact if_pos ⟨uy,EZ⟩
  have tL:=Z7 (f:=u.f) (s:=1-s.slot) (n:=m.at_) (by rw[sF];exact az) (by omega) (by rw[RU]);rw[RU]at tL gu;have SL:cC (aW ws (68+64*(1-s.slot)).toNat (68+64*(1-s.slot)+bB).toNat)=true:=M3 b8 _ _;obtain⟨w,aeo⟩:∃w,aW ws (68+64*(1-s.slot)).toNat (68+64*(1-s.slot)+bB).toNat=w:=⟨_,rfl⟩
  rw[aeo]at tL gu SL |-;have ana:(w.length:Int)=bB:=by rw[fh]at tL;exact tL
  simp only at gu;have J5:u.n=bw:=by rw[g1]
  have qv:u.eG=bz:=by rw[g1]
  have k8:m.n=bb:=by rw[fh]
  have J2:m.at_=bB:=by rw[fh]
  have xF:m.image=ch:=by rw[fh]
  refine⟨⟨by omega,by omega,by simp only[len];omega⟩,bG (fun aS=>zw _ (gu.trans (if_neg (fun g=>aS (by rw[<- J5,<- k8];exact g.2.1))))) (fun aS=>bG (fun bj=>zw _ (gu.trans (if_neg (fun g=>bj (by rw[<- qv,<- J2];exact g.2.2))))) (fun bj=>?_))⟩;have ic:=gu.trans (if_pos ⟨trivial,by rw[J5,k8];exact aS,by rw[qv,J2];exact bj⟩);refine cI (fun bK=>zw _ (ic.trans (if_neg (fun g=>?_)))) (fun bK=>cI (fun c4=>zw _ (ic.trans (if_neg (fun g=>g.2.1 (by rw[g.2.2,xF];exact c4))))) (fun c4=>?_))
  ·have:gH b w=(0,2):=by
    have bp:w.length=0:=by simp only[len]at bK;omega
    have bc:fv w=2:=if_pos (.inl bp);unfold gH;rw[if_neg (by rw[bc];decide),bc]
   rw[this]at g;exact absurd g.1 (by decide)
  have cP:fv w=0:=by
   unfold fv;rw[if_neg (by simp only[len]at bK;omega),if_pos SL]
  have I2:gH b w=(ev (kk w) b+1,0):=by unfold gH;rw[if_pos cP];exact if_pos e0
  rw[I2]at ic;refine⟨cP,pg e0,bG (fun dJ=>zw _ (ic.trans (if_neg (fun g=>dJ (by rw[<- xF];exact g.2.2))))) (fun dJ=>⟨th,?_⟩)⟩;have m3:=ic.trans (if_pos ⟨rfl,by simp only;omega,by rw[xF];exact dJ⟩);have m9:e8 u (gn ⟨ws,fu⟩ (1-s.slot) bB ch).1 (gn ⟨ws,fu⟩ (1-s.slot) bB ch).2=l9 u s m:=by unfold l9;rw[sF,J2,xF]
  have es:=B2 u false (gn ⟨ws,fu⟩ (1-s.slot) bB ch).1 (gn ⟨ws,fu⟩ (1-s.slot) bB ch).2;rw[m9,Bool.false_or]at es;refine ew (fun hd=>?_) (fun hd=>?_)
  ·have eu:(l9 u s m).2=true:=by rw[es]at hd;simpa using hd
   have p5:=m3.trans (if_pos eu);have ay:h2 (l9 u s m).1.f:=by
    obtain⟨IB,IC⟩:=Ae (u:=u) (m9▸eu);have:=(Xt (o:=o) (n:=bB) (m:=ch) hu aY (.inl (by rw[<- av];exact IB))).1.1;rw[<- m9,IC,av];exact this
   rw[hd];obtain⟨x,aG⟩:∃x,l9 u s m=x:=⟨_,rfl⟩
   have sI:e8 ⟨⟨ws,fu⟩,up,bw,bz⟩ (gn ⟨ws,fu⟩ (1-s.slot) bB ch).1 (gn ⟨ws,fu⟩ (1-s.slot) bB ch).2=x:=by rw[<- aG,<- m9,g1]
   rw[aG]at ay p5;have aeq:e8 (⟨(⟨ws,fu⟩:uW),up,bw,bz⟩:oi) (⟨((gn (⟨ws,fu⟩:uW) (1-s.slot) bB ch).1).words,((gn (⟨ws,fu⟩:uW) (1-s.slot) bB ch).1).fuel⟩:uW) (gn (⟨ws,fu⟩:uW) (1-s.slot) bB ch).2=x:=sI;rw[aeq];have QM:eX x.1.f (1-s.slot)=0:=by rw[av];exact IH ay aY
   have Q3:la x.1.f (1-s.slot)=((ni x.1.f.words (1-s.slot)).1,(ni x.1.f.words (1-s.slot)).2,if nt x.1.f.words (kW (1-s.slot))then 0 else 4):=if_pos QM;have qA:∀r,BS ⟨x.1.f,x.1.up,0,0⟩ s m w=r->pc r:=fun r h=>jX _ (p5.trans h)
   have Kj:¬((la x.1.f (1-s.slot)).2.2=0/\(la x.1.f (1-s.slot)).2.1=m.image/\(la x.1.f (1-s.slot)).1=w)->K (.ao [.agg [af x.1.f.words,A x.1.f.fuel,ax x.1.up,A 0,A 0],.one (bs (pd false ba bb 3 false))]) []:=fun g=>by
    have e:=qA (⟨x.1.f,x.1.up,0,0⟩,me m false) (if_neg g);rw[gQ,fh]at e;exact e
   rw[Q3]at Kj;refine⟨QM,bG (fun a1=>Kj (fun g=>a1 (by rw[<- xF];exact g.2.1))) (fun a1=>⟨aeA _ _ (n:=140737488355328) (by rw[ay.2];omega),ew (fun bf=>Kj (fun g=>?_)) (fun bf=>⟨⟨ay.1,by simp⟩,?_⟩)⟩)⟩
   ·rw[show gx _ w=true from decide_eq_true g.2.2]at bf;cases bf
   ·have ad4:nt x.1.f.words (kW (1-s.slot))=true:=by
     cases c:nt x.1.f.words (kW (1-s.slot))with
     |true=>rfl
     |false =>
      have:(ni x.1.f.words (1-s.slot)).2=0:=by unfold ni;rw[if_neg (by rw[c];simp)]
      exact absurd (a1.symm.trans this) c4
    have rW:=p5.trans (if_pos (by rw[Q3,if_pos ad4,xF];exact⟨rfl,a1,of_decide_eq_true bf⟩));have tp:=NM ⟨x.1.f,x.1.up,0,0⟩ false [2,bb];rw[Bool.false_or]at tp;have aaV:iy false (vU (⟨(⟨x.1.f.words,x.1.f.fuel⟩:uW),x.1.up,0,0⟩:oi) [2,bb])=!(ff ⟨x.1.f,x.1.up,0,0⟩ [2,bb]).2:=tp;rw[aaV];rw[k8]at rW
    by_cases c:(ff ⟨x.1.f,x.1.up,0,0⟩ [2,bb]).2=true
    ·have e:=jX _ (rW.trans (if_pos c));rw[gQ,fh]at e;rw[c];exact e
    ·have e:=jX _ (rW.trans (if_neg c));rw[gQ]at e;rw[(Bool.not_eq_true _).mp c];exact e
  ·have eu:(l9 u s m).2=false:=by rw[es]at hd;simpa using hd
   have e:=jX _ (m3.trans (if_neg (by rw[eu];simp)));rw[gQ,<- m9,g1]at e;rw[hd];exact e
 ·have jX:∀r,m7 u s m=r->pc r:=fun r h=>fin _ (by rw[R4 FG (by rw[fh];exact .inl e3),sF,vG,h])
  have er:m7 u s m=_:=if_pos (by rw[fh];exact e3);have k8:m.n=bb:=by rw[fh]
  refine bG (fun h=>?_) (fun h=>?_)
  ·have dO:=er.trans (if_neg (by rw[k8];exact h));refine bG (fun G=>?_) (fun G=>⟨⟨hu.1,by simp⟩,?_⟩)
   ·have e:=jX _ (dO.trans (if_neg (by rw[k8];exact G)));rw[gQ,g1]at e;exact e
   ·have gu:=dO.trans (if_pos (by rw[k8];exact G));have tp:=NM u false [1,1-s.slot,bb];rw[Bool.false_or,g1]at tp;rw[tp];rw[k8]at gu;have zH:m7 u s m=if (ff ⟨⟨ws,fu⟩,up,bw,bz⟩ [1,1-s.slot,bb]).2=true then((ff ⟨⟨ws,fu⟩,up,bw,bz⟩ [1,1-s.slot,bb]).1,oy m)else((ff ⟨⟨ws,fu⟩,up,bw,bz⟩ [1,1-s.slot,bb]).1,[]):=by rw[<- g1];exact gu
    by_cases c:(ff ⟨⟨ws,fu⟩,up,bw,bz⟩ [1,1-s.slot,bb]).2=true
    ·have e:=jX _ (zH.trans (if_pos c));rw[gQ,fh]at e;rw[c];exact e
    ·have e:=jX _ (zH.trans (if_neg c));rw[gQ]at e;rw[(Bool.not_eq_true _).mp c];exact e
  ·have e:=jX _ (er.trans (if_pos (by rw[k8];exact h)));rw[gQ,g1,fh]at e;exact e
 ·have jX:∀r,m7 u s m=r->pc r:=fun r h=>fin _ (by rw[R4 FG (by rw[fh];exact .inr h8),sF,vG,h])
  have er:m7 u s m=_:=if_neg (by rw[fh];exact e3);have k8:m.n=bb:=by rw[fh]
  refine b3 (fun h=>?_) (fun h=>?_)
  ·rw[fY]at h;have e:=jX _ (er.trans (if_pos (by rw[k8];exact h)));rw[gQ,g1]at e;exact e
  rw[eL]at h;have dO:=er.trans (if_neg (by rw[k8];omega));refine cI (fun G=>⟨⟨hu.1,by simp⟩,?_⟩) (fun G=>?_)
  ·have gu:=dO.trans (if_pos (by rw[k8];exact G));have tp:=NM u false [3,bb];rw[Bool.false_or,g1]at tp;rw[tp];rw[k8]at gu;have zH:m7 u s m=if (ff ⟨⟨ws,fu⟩,up,bw,bz⟩ [3,bb]).2=true then qp (ff ⟨⟨ws,fu⟩,up,bw,bz⟩ [3,bb]).1 m else((ff ⟨⟨ws,fu⟩,up,bw,bz⟩ [3,bb]).1,[]):=by rw[<- g1];exact gu
   by_cases c:(ff ⟨⟨ws,fu⟩,up,bw,bz⟩ [3,bb]).2=true
   ·have ic:=zH.trans (if_pos c);rw[c];refine cI (fun Y=>?_) (fun Y=>?_)
    ·have e:=jX _ (ic.trans (if_pos (by rw[k8];exact Y)));rw[gQ,fh]at e;exact e
    ·have e:=jX _ (ic.trans (if_neg (by rw[k8];exact Y)));rw[gQ,fh]at e;exact e
   ·have e:=jX _ (zH.trans (if_neg c));rw[gQ]at e;rw[(Bool.not_eq_true _).mp c];exact e
  ·have gu:=dO.trans (if_neg (by rw[k8];exact G));refine cI (fun Y=>?_) (fun Y=>?_)
   ·have e:=jX _ (gu.trans (if_pos (by rw[k8,g1];exact Y)));rw[gQ,g1,fh]at e;exact e
   ·have e:=jX _ (gu.trans (if_neg (by rw[k8,g1];exact Y)));rw[gQ,g1,fh]at e;exact e
 ·have e:=fin _ (aco (b:=b) (u:=u) (m:=m) (by rw[fh];exact bL) (by rw[fh];exact b0) (by rw[fh];exact e3) (by rw[fh];exact h8));rw[gQ,g1]at e;exact e

def Hu:a7
 |[.agg [.E (.list .int) ws,.E .int fu,.E .bool up,.E .int al,.E (.list .int) ah,.E .int ak,.E .int aj,.E (.list .bool) aa,.E (.list .bool) ab]],[]=>some (some (dG ⟨⟨ws,fu⟩,up,⟨⟨al,ah,ak⟩,aj⟩,aa,ab⟩=0),.ao [.agg (jg (ki ⟨⟨ws,fu⟩,up,⟨⟨al,ah,ak⟩,aj⟩,aa,ab⟩).1),.one (A (ki ⟨⟨ws,fu⟩,up,⟨⟨al,ah,ak⟩,aj⟩,aa,ab⟩).2)],[])
 |_,_=>none

theorem akn:bo 74 Hu:=b2 0 (((bn.f Nq).f Np).f zm) Tryz.func74 (by kernel_rfl) fun vs au=>by
 unfold Hu;split;rotate_left;trivial;rename_i ws fu up al ah ak aj aa ab;refine⟨by kernel_rfl,fun ad K D=>?_⟩;refine⟨1,?_⟩;obtain⟨v3,ed⟩:∃v3,v3=K (.ao [.agg [af [],A (0:Int),ax false,A (0:Int),af [],A (0:Int),A (0:Int),bh [],bh []],.one (A 12)]) []:=⟨_,rfl⟩
 refine cf (fun rec=>(by subst ed;kernel_rfl:_=(
  dC ⟨ws,fu⟩=(0:Int) /\
  J (!up)
  (K (.ao [.agg [af [],A (0:Int),ax false,A (0:Int),af [],A (0:Int),A (0:Int),bh [],bh []],.one (A 7)]) [])
  (J (ar (bN ⟨ws,fu⟩).n 0)
  v3
  (J (bN ⟨ws,fu⟩).dv
  v3
  (J (bN ⟨ws,fu⟩).abort
  v3
  ((len ws*8<=140737488355328/\len ah*8<=140737488355328/\len aa<=140737488355328/\len ab<=140737488355328) /\
  (dC ⟨ws,fu⟩=(0:Int)/\List.length ((3:Int)::(bN ⟨ws,fu⟩).n::[])<=140737488355328/\len aa<=1000/\len ab<=1000) /\
  K (.ao [.agg (jg (dN ⟨⟨ws,fu⟩,up,⟨⟨al,ah,ak⟩,aj⟩,aa,ab⟩ ((3:Int)::(bN ⟨ws,fu⟩).n::[])).fst),.one (A 0)]) []))))))) ?_
 subst ed;obtain⟨bp,bc,cq,dq,hE⟩:=iH ad;obtain⟨ia,iP,kQ,pV⟩:=r7 ad;obtain⟨g,bt⟩:∃g:uX,g=⟨⟨ws,fu⟩,up,⟨⟨al,ah,ak⟩,aj⟩,aa,ab⟩:=⟨_,rfl⟩
 have JQ:g.f=⟨ws,fu⟩:=by rw[bt]
 have aN:up=false->ki g=(kK,7):=fun h=>by
  have e:qm g=7:=by unfold qm hY;rw[bt,if_pos ad,h];rfl
  unfold ki;rw[e];rfl
 have aX:up=true->((bN ⟨ws,fu⟩).n=0\/(bN ⟨ws,fu⟩).dv=true\/(bN ⟨ws,fu⟩).abort=true)->ki g=(kK,12):=fun h c=>by
  have e:hY g=0:=by unfold hY;rw[bt,if_pos ad];exact if_pos h
  have cd:qm g=12:=by unfold qm;rw[if_pos e,JQ,if_pos c]
  unfold ki;rw[cd];rfl
 have cS:up=true->¬((bN ⟨ws,fu⟩).n=0\/(bN ⟨ws,fu⟩).dv=true\/(bN ⟨ws,fu⟩).abort=true)->ki g=((dN g [3,(bN ⟨ws,fu⟩).n]).1,0):=fun h c=>by
  have e:hY g=0:=by unfold hY;rw[bt,if_pos ad];exact if_pos h
  have cd:qm g=0:=by unfold qm;rw[if_pos e,JQ,if_neg c]
  unfold ki;rw[if_pos cd,JQ]
 rw[<- bt]at D;refine⟨bp,ew (fun h=>?_) (fun h=>?_)⟩
 ·rw[aN h]at D;exact D
 refine cI (fun I=>?_) (fun I=>b3 (fun G=>?_) (fun G=>b3 (fun Y=>?_) (fun Y=>⟨⟨ia,iP,by omega,by omega⟩,⟨bp,by simp,kQ,pV⟩,?_⟩)))
 ·rw[aX h (.inl I)]at D;exact D
 ·rw[aX h (.inr (.inl G))]at D;exact D
 ·rw[aX h (.inr (.inr Y))]at D;exact D
 ·rw[cS h (by rw[G,Y];simp[I]),bt]at D;exact D

def H1:a7
 |[.agg [.E (.list .str) aJ,.E (.list .signed) vs,.E (.list .int) ws,.E .int fu,.E .bool up,.E .int al,.E (.list .int) ah,.E .int ak,.E .int aj,.E (.list .bool) aa,.E (.list .bool) ab,.E (.list .aO) us,.E (.list .aP) cs,.E (.list .message) W,.E .int now],.agg [.E .int ae,.E .int hu,.E .int aq,.E (.list .root) rs,.E (.list (.list .int)) rg,.E .int bE,.E .int bY,.E (.list .target) ts,.E (.list .int) a5,.E (.list (.list .int)) a8]],[]=>some (some (qN ⟨aJ,vs,⟨⟨ws,fu⟩,up,⟨⟨al,ah,ak⟩,aj⟩,aa,ab⟩,us,cs,W,now⟩=true),.ao [.agg (kA (nR ⟨aJ,vs,⟨⟨ws,fu⟩,up,⟨⟨al,ah,ak⟩,aj⟩,aa,ab⟩,us,cs,W,now⟩ ⟨ae,hu,aq,⟨rs,rg,⟨bE,bY,ts⟩,a5,a8⟩⟩).1),.one (A (nR ⟨aJ,vs,⟨⟨ws,fu⟩,up,⟨⟨al,ah,ak⟩,aj⟩,aa,ab⟩,us,cs,W,now⟩ ⟨ae,hu,aq,⟨rs,rg,⟨bE,bY,ts⟩,a5,a8⟩⟩).2)],[])
 |_,_=>none
def kU:Ctx:=[(4,C5),(66,HZ),(67,H0),(68,Ht),(69,w9),(70,Hr),(71,He),(72,Hs),(73,Hi),(74,Hu)]
theorem afY:fr Tryz.prog tab kU:=((((((((((bn.f akn).f akc).f akl).f Nl).f akk).f zm).f akm).f akT).f akS).f Yq)
def EW:List cu:=[.inLoop [10,5,4,3,2] (cy gl [1,1,1,1,1,0,1,0,1,0,1,1,1,1,0,0,0,0]),.inBlock 1,.code (cy gl [1,1,1,1,1,0,1,0,1,0,1,1,1,1,0,1]),.inBlock 0,.code (cy gl [1,1,1,1,1,1])]
def Ms(F ai M:Int)(ag:Bool)(an aE aI aV aZ bd bu:Int)(bx:hs)(br:cj)(bD bM:Int)(bJ:LT)(bP:aK)(bC:cj)(bT:cD)(b1:cG)(cw:aK)(cB:Int)(cY:Bool)(c6:Int)(dc:aK)(dz dD:Int)(dZ ea:da)(dB:Int)(dS:cD)(dF:cG)(eo em:aK)(ep eS:da)(fR:cZ)(fS:c3)(gq:cF)(ho:cZ)(gr:c3)(gV:cF):bO:=⟨[(10,.one (A F)),(5,.one (A ai)),(4,.one (.ptr 0 0)),(3,.one (.ptr 1 0)),(2,.one (.ptr 2 0))],[(0,.box [.own 3,.own 4,.own 5,A M,ax ag,A an,.own 6,A aE,A aI,.own 7,.own 8,.own 9,.own 10,.own 11,A aV]),(1,.box [A aZ,A bd,A bu,.E (z.list z.root) bx,ct br,A bD,A bM,.E (z.list z.target) bJ,af bP,ct bC]),(2,.box [.E (z.list z.str) bT,.E (z.list z.signed) b1,af cw,A cB,ax cY,A c6,af dc,A dz,A dD,bh dZ,bh ea,.own 12,.own 13,.own 14,A dB]),(3,.arr z.str dS),(4,.arr z.signed dF),(5,.arr z.int eo),(6,.arr z.int em),(7,.arr z.bool ep),(8,.arr z.bool eS),(9,.arr z.aO fR),(10,.arr z.aP fS),(11,.arr z.message gq),(12,.arr z.aO ho),(13,.arr z.aP gr),(14,.arr z.message gV)],15⟩
def yU:List cu:=[.inLoop [10,5,4,3,2] (cy gl [1,1,1,1,1,0,1,0,1,0,1,1,1,1,0,0,0,0]),.inBlock 1,.code (cy gl [1,1,1,1,1,0,1,0,1,0,1,1,1,1,0,1]),.inBlock 0,.code (cy gl [1,1,1,1,1,1])]
def Mt(F ai M:Int)(ag:Bool)(an aE aI aV aZ bd bu:Int)(bx:hs)(br:cj)(bD bM:Int)(bJ:LT)(bP:aK)(bC:cj)(bT:cD)(b1:cG)(cw:aK)(cB:Int)(cY:Bool)(c6:Int)(dc:aK)(dz dD:Int)(dZ ea:da)(dB:Nat)(dS:Int)(dF:cD)(eo:cG)(em ep:aK)(eS fR:da)(fS:cZ)(gq:c3)(ho:cF)(gr:cZ)(gV:c3)(iC:cF):bO:=⟨[(10,.one (A F)),(5,.one (A ai)),(4,.one (.ptr 0 0)),(3,.one (.ptr 1 0)),(2,.one (.ptr 2 0))],[(0,.box [.own 3,.own 4,.own 5,A M,ax ag,A an,.own 6,A aE,A aI,.own 7,.own 8,.own 9,.own 10,.own 11,A aV]),(1,.box [A aZ,A bd,A bu,.E (z.list z.root) bx,ct br,A bD,A bM,.E (z.list z.target) bJ,af bP,ct bC]),(2,.box [.E (z.list z.str) bT,.E (z.list z.signed) b1,af cw,A cB,ax cY,A c6,af dc,A dz,A dD,bh dZ,bh ea,.own 12,.view 13 0 dB,.own 14,A dS]),(3,.arr z.str dF),(4,.arr z.signed eo),(5,.arr z.int em),(6,.arr z.int ep),(7,.arr z.bool eS),(8,.arr z.bool fR),(9,.arr z.aO fS),(10,.arr z.aP gq),(11,.arr z.message ho),(12,.arr z.aO gr),(13,.arr z.aP gV),(14,.arr z.message iC)],15⟩
theorem Ww(aJ:cD)(vs:cG)(ws:aK)(fu:Int)(up:Bool)(al:Int)(ah:aK)(ak aj:Int)(aa ab:da)(us:cZ)(cs:c3)(W:cF)(now hu aq:Int)(rs:hs)(rg:cj)(bE bY:Int)(ts:LT)(a5:aK)(a8:cj)(rec:bV)(K:aU) v0 (bX:v0=ks ⟨aJ,vs,⟨⟨ws,fu⟩,up,⟨⟨al,ah,ak⟩,aj⟩,aa,ab⟩,us,cs,W,now⟩) v1 (b9:v1=dG ⟨⟨ws,fu⟩,up,⟨⟨al,ah,ak⟩,aj⟩,aa,ab⟩) aC (cT:aC=iU aJ vs ⟨⟨ws,fu⟩,up,⟨⟨al,ah,ak⟩,aj⟩,aa,ab⟩ ⟨rs,rg,⟨bE,bY,ts⟩,a5,a8⟩ now) v3 (ed:v3=J (!(ar aC.snd.snd 0))
 (K (.ao [.agg fk,.one (A aC.snd.snd)]) [])
 (J (aL 0 aC.snd.fst)
 (rec EW (Ms aC.snd.fst 0 0 false 0 0 0 0 1 hu aq rs rg bE bY ts a5 a8 aJ vs aC.fst.f.words aC.fst.f.fuel aC.fst.up aC.fst.t.r.version aC.fst.t.r.keys aC.fst.t.r.dV aC.fst.t.version aC.fst.cH aC.fst.did now [] [] [] [] [] [] [] [] [] us cs W))
 (K (.ao [.agg [.E (z.list z.str) aJ,.E (z.list z.signed) vs,af aC.fst.f.words,A aC.fst.f.fuel,ax aC.fst.up,A aC.fst.t.r.version,af aC.fst.t.r.keys,A aC.fst.t.r.dV,A aC.fst.t.version,bh aC.fst.cH,bh aC.fst.did,.E (z.list z.aO) us,.E (z.list z.aP) cs,bs W,A now],.one (A 0)]) []))):b5 kU tab gl 0 K rec [.code (bR gl)] (df [.agg (et aJ vs ws fu up al ah ak aj aa ab (.E (z.list z.aO) us) (.E (z.list z.aP) cs) (bs W) now),.agg [A (1:Int),A hu,A aq,.E (z.list z.root) rs,ct rg,A bE,A bY,.E (z.list z.target) ts,af a5,ct a8]] [])=(
 v0=true /\
 J (dh 0 hu)
 (v1=(0:Int) /\
 v3)
 (v1=(0:Int) /\
 v3)):=by subst_vars;kernel_rfl
theorem ahN{F ai M an aE aI aV aZ bd bu bD bM cB c6 dz dD dB:Int}{ag cY:Bool}{bx:hs}{br bC:cj}{bJ:LT}{bP cw dc eo em:aK}{bT dS:cD}{b1 dF:cG}{dZ ea ep eS:da}{fR ho:cZ}{fS gr:c3}{gq gV:cF}{rec:bV}{K:aU}:b5 kU tab gl 0 K rec (cU EW) (Ms F ai M ag an aE aI aV aZ bd bu bx br bD bM bJ bP bC bT b1 cw cB cY c6 dc dz dD dZ ea dB dS dF eo em ep eS fR fS gq ho gr gV)=(
 J (dh F (len gr:Int))
 (((0:Int)<=(0:Int)/\(0:Int)<=U ((len gr:Int)-(1:Int))/\U ((len gr:Int)-(1:Int))<=(len gr:Int)) /\
 rec yU (Mt F ai M ag an aE aI aV aZ bd bu bx br bD bM bJ bP bC bT b1 cw cB cY c6 dc dz dD dZ ea (Int.toNat (U ((len gr:Int)-(1:Int))-0)) dB dS dF eo em ep eS fR fS gq ho gr gV))
 ((len gr+len ((⟨F,⟨bD,bM,bJ⟩,bC⟩:og)::[]))*72<=140737488355328 /\
 K (.ao [.agg [.E (z.list z.str) bT,.E (z.list z.signed) b1,af cw,A cB,ax cY,A c6,af dc,A dz,A dD,bh dZ,bh ea,.E (z.list z.aO) ho,.E (z.list z.aP) (cat gr ((⟨F,⟨bD,bM,bJ⟩,bC⟩:og)::[])),bs gV,A dB],.one (A 0)]) [])):=by kernel_rfl
theorem Wx{dB:Nat}{rec:bV}{K:aU}{F ai M ag an aE aI aV aZ bd bu bx br bD bM bJ bP bC bT b1 cw cB cY c6 dc dz dD dZ ea dS dF eo em ep eS fR fS gq ho gr gV iC}{v0}(bX:v0=fun a=>Mt F ai M ag an aE aI aV aZ bd bu bx br bD bM bJ bP bC bT b1 cw cB cY c6 dc dz dD dZ ea a dS dF eo em ep eS fR fS gq ho gr gV iC):b5 kU tab gl 0 K rec (cU yU) (v0 dB)=(
 J (dh F ((dB:Nat):Int))
 (((0:Int)<=(0:Int)/\(0:Int)<=U (((dB:Nat):Int)-(1:Int))/\U (((dB:Nat):Int)-(1:Int))<=(len gV:Int)) /\
 rec yU (v0 (Int.toNat (U (((dB:Nat):Int)-(1:Int))-0))))
 ((dB<=len gV/\(dB+len ((⟨F,⟨bD,bM,bJ⟩,bC⟩:og)::[]))*72<=140737488355328) /\
 K (.ao [.agg [.E (z.list z.str) bT,.E (z.list z.signed) b1,af cw,A cB,ax cY,A c6,af dc,A dz,A dD,bh dZ,bh ea,.E (z.list z.aO) gr,.E (z.list z.aP) (cat (aW gV 0 dB) ((⟨F,⟨bD,bM,bJ⟩,bC⟩:og)::[])),bs iC,A dS],.one (A 0)]) [])):=by subst_vars;kernel_rfl

theorem ahR(aJ:cD)(vs:cG)(ws:aK)(fu:Int)(up:Bool)(al:Int)(ah:aK)(ak aj:Int)(aa ab:da)(us:cZ)(cs:c3)(W:cF)(now hu aq:Int)(rs:hs)(rg:cj)(bE bY:Int)(ts:LT)(a5:aK)(a8:cj)(rec:bV)(K:aU) v0 (bX:v0=ks ⟨aJ,vs,⟨⟨ws,fu⟩,up,⟨⟨al,ah,ak⟩,aj⟩,aa,ab⟩,us,cs,W,now⟩) v1 (b9:v1=dC ⟨ws,fu⟩) aC (cT:aC=bN ⟨ws,fu⟩) v3 (ed:v3=dG ⟨⟨ws,fu⟩,up,⟨⟨al,ah,ak⟩,aj⟩,aa,ab⟩) v4 (e5:v4=hw ⟨⟨ws,fu⟩,up,⟨⟨al,ah,ak⟩,aj⟩,aa,ab⟩ ⟨(nth cs (Int.toNat (U (aC.n-1))) (z.H z.aP)).n,⟨((nth cs (Int.toNat (U (aC.n-1))) (z.H z.aP)).r).version,((nth cs (Int.toNat (U (aC.n-1))) (z.H z.aP)).r).cg,((nth cs (Int.toNat (U (aC.n-1))) (z.H z.aP)).r).targets⟩,(nth cs (Int.toNat (U (aC.n-1))) (z.H z.aP)).cQ⟩ hu) cn (hx:cn=hI W v4.fst) dR (kG:dR=hw ⟨⟨ws,fu⟩,up,⟨⟨al,ah,ak⟩,aj⟩,aa,ab⟩ ⟨0,⟨0,0,[]⟩,[]⟩ hu) dy (iL:dy=hI W dR.fst):b5 kU tab gl 0 K rec [.code (bR gl)] (df [.agg (et aJ vs ws fu up al ah ak aj aa ab (.E (z.list z.aO) us) (.E (z.list z.aP) cs) (bs W) now),.agg [A (2:Int),A hu,A aq,.E (z.list z.root) rs,ct rg,A bE,A bY,.E (z.list z.target) ts,af a5,ct a8]] [])=(
 v0=true /\
 J (dh 0 hu)
 (J (!(aL hu (len us:Int)))
 (K (.ao [.agg fk,.one (A 5)]) [])
 (v1=(0:Int) /\
 J (aL (len cs:Int) aC.n)
 (K (.ao [.agg fk,.one (A 5)]) [])
 (J (aL 0 aC.n)
 (((0:Int)<=U (aC.n-1)/\U (aC.n-1)<(len cs:Int)) /\
 Int.toNat (U (aC.n-1))<len cs /\
 (v3=(0:Int)/\List.length ((nth cs (Int.toNat (U (aC.n-1))) (z.H z.aP)).r).targets<=140737488355328/\List.length (nth cs (Int.toNat (U (aC.n-1))) (z.H z.aP)).cQ<=140737488355328) /\
 J (!(ar v4.snd 0))
 (K (.ao [.agg fk,.one (A v4.snd)]) [])
 ((List.length W<=1000/\List.length v4.fst<=1000) /\
 K (.ao [.agg (et aJ vs ws fu up al ah ak aj aa ab (.E (z.list z.aO) us) (.E (z.list z.aP) cs) (bs cn) now),.one (A 0)]) []))
 ((v3=(0:Int)/\List.length ([]:List Int)<=140737488355328/\List.length ([]:List Int)<=140737488355328) /\
 J (!(ar dR.snd 0))
 (K (.ao [.agg fk,.one (A dR.snd)]) [])
 ((List.length W<=1000/\List.length dR.fst<=1000) /\
 K (.ao [.agg (et aJ vs ws fu up al ah ak aj aa ab (.E (z.list z.aO) us) (.E (z.list z.aP) cs) (bs dy) now),.one (A 0)]) [])))))
 (K (.ao [.agg fk,.one (A 5)]) [])):=by subst_vars;kernel_rfl

theorem ahS(aJ:cD)(vs:cG)(ws:aK)(fu:Int)(up:Bool)(al:Int)(ah:aK)(ak aj:Int)(aa ab:da)(us:cZ)(cs:c3)(W:cF)(now hu aq:Int)(rs:hs)(rg:cj)(bE bY:Int)(ts:LT)(a5:aK)(a8:cj)(rec:bV)(K:aU) v0 (bX:v0=ks ⟨aJ,vs,⟨⟨ws,fu⟩,up,⟨⟨al,ah,ak⟩,aj⟩,aa,ab⟩,us,cs,W,now⟩) v1 (b9:v1=dG ⟨⟨ws,fu⟩,up,⟨⟨al,ah,ak⟩,aj⟩,aa,ab⟩) aC (cT:aC=iJ ⟨⟨ws,fu⟩,up,⟨⟨al,ah,ak⟩,aj⟩,aa,ab⟩ ⟨(nth W (Int.toNat aq) (z.H z.message)).kind,(nth W (Int.toNat aq) (z.H z.message)).unit,(nth W (Int.toNat aq) (z.H z.message)).n,(nth W (Int.toNat aq) (z.H z.message)).at_,(nth W (Int.toNat aq) (z.H z.message)).image,(nth W (Int.toNat aq) (z.H z.message)).words,(nth W (Int.toNat aq) (z.H z.message)).yes⟩) v3 (ed:v3=hI (cat (aW W 0 (Int.toNat aq)) (aW W (Int.toNat (U (aq+1))) (Int.toNat (U (aq+1))+Int.toNat ((len W:Int)-U (aq+1))))) aC.snd) v4 (e5:v4=fq aJ) cn (hx:cn=e4 ⟨⟨((nth us (Int.toNat (nth W (Int.toNat aq) (z.H z.message)).unit) (z.H z.aO)).f).words,((nth us (Int.toNat (nth W (Int.toNat aq) (z.H z.message)).unit) (z.H z.aO)).f).fuel⟩,(nth us (Int.toNat (nth W (Int.toNat aq) (z.H z.message)).unit) (z.H z.aO)).up,(nth us (Int.toNat (nth W (Int.toNat aq) (z.H z.message)).unit) (z.H z.aO)).n,(nth us (Int.toNat (nth W (Int.toNat aq) (z.H z.message)).unit) (z.H z.aO)).eG⟩) dR (kG:dR=gd ⟨(nth W (Int.toNat aq) (z.H z.message)).kind,(nth W (Int.toNat aq) (z.H z.message)).unit,(nth W (Int.toNat aq) (z.H z.message)).n,(nth W (Int.toNat aq) (z.H z.message)).at_,(nth W (Int.toNat aq) (z.H z.message)).image,(nth W (Int.toNat aq) (z.H z.message)).words,(nth W (Int.toNat aq) (z.H z.message)).yes⟩) dy (iL:dy=he aJ ⟨⟨((nth us (Int.toNat (nth W (Int.toNat aq) (z.H z.message)).unit) (z.H z.aO)).f).words,((nth us (Int.toNat (nth W (Int.toNat aq) (z.H z.message)).unit) (z.H z.aO)).f).fuel⟩,(nth us (Int.toNat (nth W (Int.toNat aq) (z.H z.message)).unit) (z.H z.aO)).up,(nth us (Int.toNat (nth W (Int.toNat aq) (z.H z.message)).unit) (z.H z.aO)).n,(nth us (Int.toNat (nth W (Int.toNat aq) (z.H z.message)).unit) (z.H z.aO)).eG⟩ ⟨(nth W (Int.toNat aq) (z.H z.message)).kind,(nth W (Int.toNat aq) (z.H z.message)).unit,(nth W (Int.toNat aq) (z.H z.message)).n,(nth W (Int.toNat aq) (z.H z.message)).at_,(nth W (Int.toNat aq) (z.H z.message)).image,(nth W (Int.toNat aq) (z.H z.message)).words,(nth W (Int.toNat aq) (z.H z.message)).yes⟩) cR (kH:cR=setAt us (Int.toNat (nth W (Int.toNat aq) (z.H z.message)).unit) ⟨⟨dy.fst.f.words,dy.fst.f.fuel⟩,dy.fst.up,dy.fst.n,dy.fst.eG⟩) v9 (jY:v9=hI (cat (aW W 0 (Int.toNat aq)) (aW W (Int.toNat (U (aq+1))) (Int.toNat (U (aq+1))+Int.toNat ((len W:Int)-U (aq+1))))) dy.snd) v11 (oN:v11=K (.ao [.agg [.E (z.list z.str) aJ,.E (z.list z.signed) vs,af aC.fst.f.words,A aC.fst.f.fuel,ax aC.fst.up,A aC.fst.t.r.version,af aC.fst.t.r.keys,A aC.fst.t.r.dV,A aC.fst.t.version,bh aC.fst.cH,bh aC.fst.did,.E (z.list z.aO) us,.E (z.list z.aP) cs,bs v3,A now],.one (A 0)]) []) v10 (nf:v10=J (aL aq 0)
 (K (.ao [.agg fk,.one (A 5)]) [])
 (J (dh (len W:Int) aq)
 (K (.ao [.agg fk,.one (A 5)]) [])
 (((0:Int)<=aq/\aq<(len W:Int)) /\
 Int.toNat aq<len W /\
 ((0:Int)<=aq/\aq=aq/\aq<=(len W:Int)) /\
 ((0:Int)<=U (aq+1)/\U (aq+1)<=(len W:Int)/\(len W:Int)<=(len W:Int)) /\
 (Int.toNat (U (aq+1))+Int.toNat ((len W:Int)-U (aq+1))<=len W/\Int.toNat aq<=len W/\(Int.toNat aq+len (aW W (Int.toNat (U (aq+1))) (Int.toNat (U (aq+1))+Int.toNat ((len W:Int)-U (aq+1)))))*72<=140737488355328) /\
 J (ar (nth W (Int.toNat aq) (z.H z.message)).kind 3)
 ((v1=(0:Int)/\(0:Int)<=(nth W (Int.toNat aq) (z.H z.message)).unit/\(nth W (Int.toNat aq) (z.H z.message)).unit<(((List.length aa):Nat):Int)/\(1:Int)<=(nth W (Int.toNat aq) (z.H z.message)).n/\(nth W (Int.toNat aq) (z.H z.message)).n<=8) /\
 (List.length (cat (aW W 0 (Int.toNat aq)) (aW W (Int.toNat (U (aq+1))) (Int.toNat (U (aq+1))+Int.toNat ((len W:Int)-U (aq+1)))))<=1000/\List.length aC.snd<=1000) /\
 v11)
 (J (ar (nth W (Int.toNat aq) (z.H z.message)).kind 6)
 ((v1=(0:Int)/\(0:Int)<=(nth W (Int.toNat aq) (z.H z.message)).unit/\(nth W (Int.toNat aq) (z.H z.message)).unit<(((List.length aa):Nat):Int)/\(1:Int)<=(nth W (Int.toNat aq) (z.H z.message)).n/\(nth W (Int.toNat aq) (z.H z.message)).n<=8) /\
 (List.length (cat (aW W 0 (Int.toNat aq)) (aW W (Int.toNat (U (aq+1))) (Int.toNat (U (aq+1))+Int.toNat ((len W:Int)-U (aq+1)))))<=1000/\List.length aC.snd<=1000) /\
 v11)
 (J (ar (nth W (Int.toNat aq) (z.H z.message)).kind 7)
 ((v1=(0:Int)/\(0:Int)<=(nth W (Int.toNat aq) (z.H z.message)).unit/\(nth W (Int.toNat aq) (z.H z.message)).unit<(((List.length aa):Nat):Int)/\(1:Int)<=(nth W (Int.toNat aq) (z.H z.message)).n/\(nth W (Int.toNat aq) (z.H z.message)).n<=8) /\
 (List.length (cat (aW W 0 (Int.toNat aq)) (aW W (Int.toNat (U (aq+1))) (Int.toNat (U (aq+1))+Int.toNat ((len W:Int)-U (aq+1)))))<=1000/\List.length aC.snd<=1000) /\
 v11)
 (((0:Int)<=(nth W (Int.toNat aq) (z.H z.message)).unit/\(nth W (Int.toNat aq) (z.H z.message)).unit<(len us:Int)) /\
 Int.toNat (nth W (Int.toNat aq) (z.H z.message)).unit<len us /\
 (v4=(0:Int)/\cn=(0:Int)/\dR=(0:Int)) /\
 ((0:Int)<=(nth W (Int.toNat aq) (z.H z.message)).unit/\(nth W (Int.toNat aq) (z.H z.message)).unit<(len us:Int)) /\
 Int.toNat (nth W (Int.toNat aq) (z.H z.message)).unit<len us /\
 (List.length (cat (aW W 0 (Int.toNat aq)) (aW W (Int.toNat (U (aq+1))) (Int.toNat (U (aq+1))+Int.toNat ((len W:Int)-U (aq+1)))))<=1000/\List.length dy.snd<=1000) /\
 K (.ao [.agg (et aJ vs ws fu up al ah ak aj aa ab (.E (z.list z.aO) cR) (.E (z.list z.aP) cs) (bs v9) now),.one (A 0)]) [])))))):b5 kU tab gl 0 K rec [.code (bR gl)] (df [.agg (et aJ vs ws fu up al ah ak aj aa ab (.E (z.list z.aO) us) (.E (z.list z.aP) cs) (bs W) now),.agg [A (3:Int),A hu,A aq,.E (z.list z.root) rs,ct rg,A bE,A bY,.E (z.list z.target) ts,af a5,ct a8]] [])=(
 v0=true /\
 J (dh 0 hu)
 v10
 v10):=by subst_vars;kernel_rfl

theorem ahT(aJ:cD)(vs:cG)(ws:aK)(fu:Int)(up:Bool)(al:Int)(ah:aK)(ak aj:Int)(aa ab:da)(us:cZ)(cs:c3)(W:cF)(now hu aq:Int)(rs:hs)(rg:cj)(bE bY:Int)(ts:LT)(a5:aK)(a8:cj)(rec:bV)(K:aU) v0 (bX:v0=ks ⟨aJ,vs,⟨⟨ws,fu⟩,up,⟨⟨al,ah,ak⟩,aj⟩,aa,ab⟩,us,cs,W,now⟩) v1 (b9:v1=J (aL aq 0)
 (K (.ao [.agg fk,.one (A 5)]) [])
 (J (dh (len W:Int) aq)
 (K (.ao [.agg fk,.one (A 5)]) [])
 (((0:Int)<=aq/\aq<(len W:Int)) /\
 Int.toNat aq<len W /\
 ((0:Int)<=aq/\aq=aq/\aq<=(len W:Int)) /\
 ((0:Int)<=U (aq+1)/\U (aq+1)<=(len W:Int)/\(len W:Int)<=(len W:Int)) /\
 (Int.toNat (U (aq+1))+Int.toNat ((len W:Int)-U (aq+1))<=len W/\Int.toNat aq<=len W/\(Int.toNat aq+len (aW W (Int.toNat (U (aq+1))) (Int.toNat (U (aq+1))+Int.toNat ((len W:Int)-U (aq+1)))))*72<=140737488355328) /\
 K (.ao [.agg (et aJ vs ws fu up al ah ak aj aa ab (.E (z.list z.aO) us) (.E (z.list z.aP) cs) (bs (cat (aW W 0 (Int.toNat aq)) (aW W (Int.toNat (U (aq+1))) (Int.toNat (U (aq+1))+Int.toNat ((len W:Int)-U (aq+1)))))) now),.one (A 0)]) []))):b5 kU tab gl 0 K rec [.code (bR gl)] (df [.agg (et aJ vs ws fu up al ah ak aj aa ab (.E (z.list z.aO) us) (.E (z.list z.aP) cs) (bs W) now),.agg [A (4:Int),A hu,A aq,.E (z.list z.root) rs,ct rg,A bE,A bY,.E (z.list z.target) ts,af a5,ct a8]] [])=(
 v0=true /\
 J (dh 0 hu)
 v1
 v1):=by subst_vars;kernel_rfl

theorem ahU(aJ:cD)(vs:cG)(ws:aK)(fu:Int)(up:Bool)(al:Int)(ah:aK)(ak aj:Int)(aa ab:da)(us:cZ)(cs:c3)(W:cF)(now hu aq:Int)(rs:hs)(rg:cj)(bE bY:Int)(ts:LT)(a5:aK)(a8:cj)(rec:bV)(K:aU) v0 (bX:v0=ks ⟨aJ,vs,⟨⟨ws,fu⟩,up,⟨⟨al,ah,ak⟩,aj⟩,aa,ab⟩,us,cs,W,now⟩) v1 (b9:v1=hI W ((⟨(nth W (Int.toNat aq) (z.H z.message)).kind,(nth W (Int.toNat aq) (z.H z.message)).unit,(nth W (Int.toNat aq) (z.H z.message)).n,(nth W (Int.toNat aq) (z.H z.message)).at_,(nth W (Int.toNat aq) (z.H z.message)).image,(nth W (Int.toNat aq) (z.H z.message)).words,(nth W (Int.toNat aq) (z.H z.message)).yes⟩:fD)::[])) aC (cT:aC=J (aL aq 0)
 (K (.ao [.agg fk,.one (A 5)]) [])
 (J (dh (len W:Int) aq)
 (K (.ao [.agg fk,.one (A 5)]) [])
 (((0:Int)<=aq/\aq<(len W:Int)) /\
 Int.toNat aq<len W /\
 J (ar (len W:Int) 24)
 (K (.ao [.agg fk,.one (A 8)]) [])
 ((List.length W<=1000/\List.length ((⟨(nth W (Int.toNat aq) (z.H z.message)).kind,(nth W (Int.toNat aq) (z.H z.message)).unit,(nth W (Int.toNat aq) (z.H z.message)).n,(nth W (Int.toNat aq) (z.H z.message)).at_,(nth W (Int.toNat aq) (z.H z.message)).image,(nth W (Int.toNat aq) (z.H z.message)).words,(nth W (Int.toNat aq) (z.H z.message)).yes⟩:fD)::[])<=1000) /\
 K (.ao [.agg (et aJ vs ws fu up al ah ak aj aa ab (.E (z.list z.aO) us) (.E (z.list z.aP) cs) (bs v1) now),.one (A 0)]) [])))):b5 kU tab gl 0 K rec [.code (bR gl)] (df [.agg (et aJ vs ws fu up al ah ak aj aa ab (.E (z.list z.aO) us) (.E (z.list z.aP) cs) (bs W) now),.agg [A (5:Int),A hu,A aq,.E (z.list z.root) rs,ct rg,A bE,A bY,.E (z.list z.target) ts,af a5,ct a8]] [])=(
 v0=true /\
 J (dh 0 hu)
 aC
 aC):=by subst_vars;kernel_rfl

theorem ahV(aJ:cD)(vs:cG)(ws:aK)(fu:Int)(up:Bool)(al:Int)(ah:aK)(ak aj:Int)(aa ab:da)(us:cZ)(cs:c3)(W:cF)(now hu aq:Int)(rs:hs)(rg:cj)(bE bY:Int)(ts:LT)(a5:aK)(a8:cj)(rec:bV)(K:aU) v0 (bX:v0=ks ⟨aJ,vs,⟨⟨ws,fu⟩,up,⟨⟨al,ah,ak⟩,aj⟩,aa,ab⟩,us,cs,W,now⟩) v1 (b9:v1=setAt us (Int.toNat hu) ⟨⟨((nth us (Int.toNat hu) (z.H z.aO)).f).words,aq⟩,(nth us (Int.toNat hu) (z.H z.aO)).up,(nth us (Int.toNat hu) (z.H z.aO)).n,(nth us (Int.toNat hu) (z.H z.aO)).eG⟩) aC (cT:aC=J (aL aq 0)
 (K (.ao [.agg fk,.one (A 3)]) [])
 (J (aL 100000 aq)
 (K (.ao [.agg fk,.one (A 3)]) [])
 (J (ar hu (-1))
 (K (.ao [.agg [.E (z.list z.str) aJ,.E (z.list z.signed) vs,af ws,A aq,ax up,A al,af ah,A ak,A aj,bh aa,bh ab,.E (z.list z.aO) us,.E (z.list z.aP) cs,bs W,A now],.one (A 0)]) [])
 (((0:Int)<=hu/\hu<(len us:Int)) /\
 Int.toNat hu<len us /\
 K (.ao [.agg (et aJ vs ws fu up al ah ak aj aa ab (.E (z.list z.aO) v1) (.E (z.list z.aP) cs) (bs W) now),.one (A 0)]) [])))):b5 kU tab gl 0 K rec [.code (bR gl)] (df [.agg (et aJ vs ws fu up al ah ak aj aa ab (.E (z.list z.aO) us) (.E (z.list z.aP) cs) (bs W) now),.agg [A (6:Int),A hu,A aq,.E (z.list z.root) rs,ct rg,A bE,A bY,.E (z.list z.target) ts,af a5,ct a8]] [])=(
 v0=true /\
 J (dh 0 hu)
 (J (!(ar hu (-1)))
 (J (!(aL hu (len us:Int)))
 (K (.ao [.agg fk,.one (A 5)]) [])
 aC)
 aC)
 (J (!(ar hu (-1)))
 (K (.ao [.agg fk,.one (A 5)]) [])
 aC)):=by subst_vars;kernel_rfl

theorem ahW(aJ:cD)(vs:cG)(ws:aK)(fu:Int)(up:Bool)(al:Int)(ah:aK)(ak aj:Int)(aa ab:da)(us:cZ)(cs:c3)(W:cF)(now hu aq:Int)(rs:hs)(rg:cj)(bE bY:Int)(ts:LT)(a5:aK)(a8:cj)(rec:bV)(K:aU) v0 (bX:v0=ks ⟨aJ,vs,⟨⟨ws,fu⟩,up,⟨⟨al,ah,ak⟩,aj⟩,aa,ab⟩,us,cs,W,now⟩) v1 (b9:v1=setAt us (Int.toNat hu) ⟨⟨((nth us (Int.toNat hu) (z.H z.aO)).f).words,(-1)⟩,(nth us (Int.toNat hu) (z.H z.aO)).up,(nth us (Int.toNat hu) (z.H z.aO)).n,(nth us (Int.toNat hu) (z.H z.aO)).eG⟩) aC (cT:aC=setAt v1 (Int.toNat hu) ⟨⟨((nth v1 (Int.toNat hu) (z.H z.aO)).f).words,((nth v1 (Int.toNat hu) (z.H z.aO)).f).fuel⟩,true,(nth v1 (Int.toNat hu) (z.H z.aO)).n,(nth v1 (Int.toNat hu) (z.H z.aO)).eG⟩) v3 (ed:v3=setAt aC (Int.toNat hu) ⟨⟨((nth aC (Int.toNat hu) (z.H z.aO)).f).words,((nth aC (Int.toNat hu) (z.H z.aO)).f).fuel⟩,(nth aC (Int.toNat hu) (z.H z.aO)).up,0,(nth aC (Int.toNat hu) (z.H z.aO)).eG⟩) v4 (e5:v4=setAt v3 (Int.toNat hu) ⟨⟨((nth v3 (Int.toNat hu) (z.H z.aO)).f).words,((nth v3 (Int.toNat hu) (z.H z.aO)).f).fuel⟩,(nth v3 (Int.toNat hu) (z.H z.aO)).up,(nth v3 (Int.toNat hu) (z.H z.aO)).n,0⟩) cn (hx:cn=J (ar hu (-1))
 (((0:Int)<=(len us:Int)/\(len us:Int)*((1:Nat):Int)<=140737488355328/\(len us:Int)<=(140737488355328:Int)) /\
 ((0:Int)<=(len us:Int)/\(len us:Int)*((1:Nat):Int)<=140737488355328/\(len us:Int)<=(140737488355328:Int)) /\
 K (.ao [.agg [.E (z.list z.str) aJ,.E (z.list z.signed) vs,af ws,A (-1),ax true,A al,af ah,A ak,A aj,bh (bZ (Int.toNat (len us:Int)) (z.H z.bool)),bh (bZ (Int.toNat (len us:Int)) (z.H z.bool)),.E (z.list z.aO) us,.E (z.list z.aP) cs,bs W,A now],.one (A 0)]) [])
 (((0:Int)<=hu/\hu<(len us:Int)) /\
 Int.toNat hu<len us /\
 Int.toNat hu<len v1 /\
 Int.toNat hu<len aC /\
 Int.toNat hu<len v3 /\
 K (.ao [.agg (et aJ vs ws fu up al ah ak aj aa ab (.E (z.list z.aO) v4) (.E (z.list z.aP) cs) (bs W) now),.one (A 0)]) [])):b5 kU tab gl 0 K rec [.code (bR gl)] (df [.agg (et aJ vs ws fu up al ah ak aj aa ab (.E (z.list z.aO) us) (.E (z.list z.aP) cs) (bs W) now),.agg [A (7:Int),A hu,A aq,.E (z.list z.root) rs,ct rg,A bE,A bY,.E (z.list z.target) ts,af a5,ct a8]] [])=(
 v0=true /\
 J (dh 0 hu)
 (J (!(ar hu (-1)))
 (J (!(aL hu (len us:Int)))
 (K (.ao [.agg fk,.one (A 5)]) [])
 cn)
 cn)
 (J (!(ar hu (-1)))
 (K (.ao [.agg fk,.one (A 5)]) [])
 cn)):=by subst_vars;kernel_rfl

theorem ahX(aJ:cD)(vs:cG)(ws:aK)(fu:Int)(up:Bool)(al:Int)(ah:aK)(ak aj:Int)(aa ab:da)(us:cZ)(cs:c3)(W:cF)(now hu aq:Int)(rs:hs)(rg:cj)(bE bY:Int)(ts:LT)(a5:aK)(a8:cj)(rec:bV)(K:aU) v0 (bX:v0=ks ⟨aJ,vs,⟨⟨ws,fu⟩,up,⟨⟨al,ah,ak⟩,aj⟩,aa,ab⟩,us,cs,W,now⟩) v1 (b9:v1=dG ⟨⟨ws,fu⟩,up,⟨⟨al,ah,ak⟩,aj⟩,aa,ab⟩) aC (cT:aC=ki ⟨⟨ws,fu⟩,up,⟨⟨al,ah,ak⟩,aj⟩,aa,ab⟩) v3 (ed:v3=J (!(ar aC.snd 0))
 (K (.ao [.agg fk,.one (A aC.snd)]) [])
 (K (.ao [.agg [.E (z.list z.str) aJ,.E (z.list z.signed) vs,af aC.fst.f.words,A aC.fst.f.fuel,ax aC.fst.up,A aC.fst.t.r.version,af aC.fst.t.r.keys,A aC.fst.t.r.dV,A aC.fst.t.version,bh aC.fst.cH,bh aC.fst.did,.E (z.list z.aO) us,.E (z.list z.aP) cs,bs W,A now],.one (A 0)]) [])):b5 kU tab gl 0 K rec [.code (bR gl)] (df [.agg (et aJ vs ws fu up al ah ak aj aa ab (.E (z.list z.aO) us) (.E (z.list z.aP) cs) (bs W) now),.agg [A (8:Int),A hu,A aq,.E (z.list z.root) rs,ct rg,A bE,A bY,.E (z.list z.target) ts,af a5,ct a8]] [])=(
 v0=true /\
 J (dh 0 hu)
 (v1=(0:Int) /\
 v3)
 (v1=(0:Int) /\
 v3)):=by subst_vars;kernel_rfl

theorem ahY(aJ:cD)(vs:cG)(ws:aK)(fu:Int)(up:Bool)(al:Int)(ah:aK)(ak aj:Int)(aa ab:da)(us:cZ)(cs:c3)(W:cF)(now hu aq:Int)(rs:hs)(rg:cj)(bE bY:Int)(ts:LT)(a5:aK)(a8:cj)(rec:bV)(K:aU) v0 (bX:v0=ks ⟨aJ,vs,⟨⟨ws,fu⟩,up,⟨⟨al,ah,ak⟩,aj⟩,aa,ab⟩,us,cs,W,now⟩) v1 (b9:v1=dC ⟨((nth us (Int.toNat hu) (z.H z.aO)).f).words,((nth us (Int.toNat hu) (z.H z.aO)).f).fuel⟩) aC (cT:aC=c5 ⟨((nth us (Int.toNat hu) (z.H z.aO)).f).words,((nth us (Int.toNat hu) (z.H z.aO)).f).fuel⟩) v3 (ed:v3=hI W ((⟨7,hu,aC.ready,0,0,[],false⟩:fD)::[])):b5 kU tab gl 0 K rec [.code (bR gl)] (df [.agg (et aJ vs ws fu up al ah ak aj aa ab (.E (z.list z.aO) us) (.E (z.list z.aP) cs) (bs W) now),.agg [A (9:Int),A hu,A aq,.E (z.list z.root) rs,ct rg,A bE,A bY,.E (z.list z.target) ts,af a5,ct a8]] [])=(
 v0=true /\
 J (dh 0 hu)
 (J (!(aL hu (len us:Int)))
 (K (.ao [.agg fk,.one (A 5)]) [])
 (((0:Int)<=hu/\hu<(len us:Int)) /\
 Int.toNat hu<len us /\
 v1=(0:Int) /\
 J (!(nth us (Int.toNat hu) (z.H z.aO)).up)
 (K (.ao [.agg fk,.one (A 7)]) [])
 (J (ar aC.ready 0)
 (K (.ao [.agg fk,.one (A 12)]) [])
 (J (aL 8 aC.ready)
 (K (.ao [.agg fk,.one (A 12)]) [])
 ((List.length W<=1000/\List.length ((⟨7,hu,aC.ready,0,0,[],false⟩:fD)::[])<=1000) /\
 K (.ao [.agg (et aJ vs ws fu up al ah ak aj aa ab (.E (z.list z.aO) us) (.E (z.list z.aP) cs) (bs v3) now),.one (A 0)]) [])))))
 (K (.ao [.agg fk,.one (A 5)]) [])):=by subst_vars;kernel_rfl

theorem ahZ(aJ:cD)(vs:cG)(ws:aK)(fu:Int)(up:Bool)(al:Int)(ah:aK)(ak aj:Int)(aa ab:da)(us:cZ)(cs:c3)(W:cF)(now hu aq:Int)(rs:hs)(rg:cj)(bE bY:Int)(ts:LT)(a5:aK)(a8:cj)(rec:bV)(K:aU) v0 (bX:v0=ks ⟨aJ,vs,⟨⟨ws,fu⟩,up,⟨⟨al,ah,ak⟩,aj⟩,aa,ab⟩,us,cs,W,now⟩) v1 (b9:v1=J (ar now 100000)
 (K (.ao [.agg fk,.one (A 8)]) [])
 (K (.ao [.agg [.E (z.list z.str) aJ,.E (z.list z.signed) vs,af ws,A fu,ax up,A al,af ah,A ak,A aj,bh aa,bh ab,.E (z.list z.aO) us,.E (z.list z.aP) cs,bs W,A (U (now+1))],.one (A 0)]) [])):b5 kU tab gl 0 K rec [.code (bR gl)] (df [.agg (et aJ vs ws fu up al ah ak aj aa ab (.E (z.list z.aO) us) (.E (z.list z.aP) cs) (bs W) now),.agg [A (10:Int),A hu,A aq,.E (z.list z.root) rs,ct rg,A bE,A bY,.E (z.list z.target) ts,af a5,ct a8]] [])=(
 v0=true /\
 J (dh 0 hu)
 v1
 v1):=by subst_vars;kernel_rfl

theorem ahO(aJ:cD)(vs:cG)(ws:aK)(fu:Int)(up:Bool)(al:Int)(ah:aK)(ak aj:Int)(aa ab:da)(us:cZ)(cs:c3)(W:cF)(now hu aq:Int)(rs:hs)(rg:cj)(bE bY:Int)(ts:LT)(a5:aK)(a8:cj)(rec:bV)(K:aU) v0 (bX:v0=ks ⟨aJ,vs,⟨⟨ws,fu⟩,up,⟨⟨al,ah,ak⟩,aj⟩,aa,ab⟩,us,cs,W,now⟩):b5 kU tab gl 0 K rec [.code (bR gl)] (df [.agg (et aJ vs ws fu up al ah ak aj aa ab (.E (z.list z.aO) us) (.E (z.list z.aP) cs) (bs W) now),.agg [A (0:Int),A hu,A aq,.E (z.list z.root) rs,ct rg,A bE,A bY,.E (z.list z.target) ts,af a5,ct a8]] [])=(
 v0=true /\
 J (dh 0 hu)
 (K (.ao [.agg fk,.one (A 4)]) [])
 (K (.ao [.agg fk,.one (A 4)]) [])):=by subst_vars;kernel_rfl

theorem ahP(aJ:cD)(vs:cG)(ws:aK)(fu:Int)(up:Bool)(al:Int)(ah:aK)(ak aj:Int)(aa ab:da)(us:cZ)(cs:c3)(W:cF)(now hu aq:Int)(rs:hs)(rg:cj)(bE bY:Int)(ts:LT)(a5:aK)(a8:cj)(MK:Nat)(rec:bV)(K:aU) v0 (bX:v0=ks ⟨aJ,vs,⟨⟨ws,fu⟩,up,⟨⟨al,ah,ak⟩,aj⟩,aa,ab⟩,us,cs,W,now⟩):b5 kU tab gl 0 K rec [.code (bR gl)] (df [.agg (et aJ vs ws fu up al ah ak aj aa ab (.E (z.list z.aO) us) (.E (z.list z.aP) cs) (bs W) now),.agg [A (Int.negSucc MK),A hu,A aq,.E (z.list z.root) rs,ct rg,A bE,A bY,.E (z.list z.target) ts,af a5,ct a8]] [])=(
 v0=true /\
 J (dh 0 hu)
 (K (.ao [.agg fk,.one (A 4)]) [])
 (K (.ao [.agg fk,.one (A 4)]) [])):=by subst_vars;kernel_rfl

theorem ahQ(aJ:cD)(vs:cG)(ws:aK)(fu:Int)(up:Bool)(al:Int)(ah:aK)(ak aj:Int)(aa ab:da)(us:cZ)(cs:c3)(W:cF)(now hu aq:Int)(rs:hs)(rg:cj)(bE bY:Int)(ts:LT)(a5:aK)(a8:cj)(MK:Nat)(rec:bV)(K:aU) v0 (bX:v0=ks ⟨aJ,vs,⟨⟨ws,fu⟩,up,⟨⟨al,ah,ak⟩,aj⟩,aa,ab⟩,us,cs,W,now⟩):b5 kU tab gl 0 K rec [.code (bR gl)] (df [.agg (et aJ vs ws fu up al ah ak aj aa ab (.E (z.list z.aO) us) (.E (z.list z.aP) cs) (bs W) now),.agg [A (Int.ofNat (MK+11)),A hu,A aq,.E (z.list z.root) rs,ct rg,A bE,A bY,.E (z.list z.target) ts,af a5,ct a8]] [])=(
 v0=true /\
 J (dh 0 hu)
 (K (.ao [.agg fk,.one (A 4)]) [])
 (K (.ao [.agg fk,.one (A 4)]) [])):=by subst_vars;kernel_rfl

abbrev s4(w:ke×Int):V:=.ao [.agg (kA w.1),.one (A w.2)]
theorem Ty(v:ke)(cx:uX)(hu aq:Int)(o:oh)(n:Int)(I:1<=n)(dJ:v.cr.length<=8)(K:aU)(D:K (s4 (⟨v.b,v.s,cx,v.units,v.cr.take (n-1).toNat++[⟨n,o.r,o.cQ⟩],v.W,v.now⟩,0)) []):∀(d q:Nat),q<=d->q<=v.cr.length->(n-1<=(q:Int)\/q=v.cr.length) ->
  co kU tab gl 0 K (d+1) yU (Mt n 0 0 false 0 0 0 0 1 hu aq o.roots o.lM o.r.version o.r.cg o.r.targets o.sigs o.cQ v.b v.s cx.f.words cx.f.fuel cx.up cx.t.r.version cx.t.r.keys cx.t.r.dV cx.t.version cx.cH cx.did q v.now [] [] [] [] [] [] [] [] [] v.units v.cr v.W)
 |0,q,bH,aH,aA=>by
  rw[bW (L:=yU),Wx rfl];refine e7 (eL.2 (by omega)) ⟨⟨aH,by simp only[len,List.length_cons,List.length_nil];omega⟩,?_⟩;have e:aW v.cr 0 q=v.cr.take (n-1).toNat:=by
   rw[show aW v.cr 0 q=v.cr.take q from rfl];rcases aA with aA|aA
   ·rw[show q=(n-1).toNat by omega]
   ·rw[List.take_of_length_le (by omega),List.take_of_length_le (by omega)]
  rw[e];exact D
 |d+1,q,bH,aH,aA=>by
  rw[bW (L:=yU),Wx rfl]
  by_cases nT:n<=(q:Int)
  ·have e:U ((q:Int)-1)=((q-1:Nat):Int):=by rw[cb (by omega) (by omega)];omega
   have aX:Int.toNat (((q-1:Nat):Int)-0)=q-1:=by omega
   rw[e,aX];exact gk (fY.2 nT) ⟨⟨by omega,by omega,by simp only[len];omega⟩,Ty v cx hu aq o n I dJ K D d (q-1) (by omega) (by omega) (by omega)⟩
  ·refine e7 (eL.2 (by omega)) ⟨⟨aH,by simp only[len,List.length_cons,List.length_nil];omega⟩,?_⟩;have e:aW v.cr 0 q=v.cr.take (n-1).toNat:=by
    rw[show aW v.cr 0 q=v.cr.take q from rfl];rcases aA with aA|aA
    ·rw[show q=(n-1).toNat by omega]
    ·rw[List.take_of_length_le (by omega),List.take_of_length_le (by omega)]
   rw[e];exact D
theorem aeZ(v:ke)(cx:uX)(hu aq:Int)(o:oh)(n:Int)(I:1<=n)(dJ:v.cr.length<=8)(K:aU)(D:K (s4 (⟨v.b,v.s,cx,v.units,v.cr.take (n-1).toNat++[⟨n,o.r,o.cQ⟩],v.W,v.now⟩,0)) []) :
  co kU tab gl 0 K (v.cr.length+1+1) EW (Ms n 0 0 false 0 0 0 0 1 hu aq o.roots o.lM o.r.version o.r.cg o.r.targets o.sigs o.cQ v.b v.s cx.f.words cx.f.fuel cx.up cx.t.r.version cx.t.r.keys cx.t.r.dV cx.t.version cx.cH cx.did v.now [] [] [] [] [] [] [] [] [] v.units v.cr v.W):=by
 rw[bW (L:=EW),ahN ];have xN:((len v.cr:Nat):Int)=(v.cr.length:Int):=rfl;rw[xN]
 by_cases nT:n<=(v.cr.length:Int)
 ·have e:U ((v.cr.length:Int)-1)=((v.cr.length-1:Nat):Int):=by rw[cb (by omega) (by omega)];omega
  have aX:Int.toNat (((v.cr.length-1:Nat):Int)-0)=v.cr.length-1:=by omega
  rw[e,aX];exact gk (fY.2 nT) ⟨⟨by omega,by omega,by omega⟩,Ty v cx hu aq o n I dJ K D v.cr.length (v.cr.length-1) (by omega) (by omega) (by omega)⟩
 ·refine e7 (eL.2 (by omega)) ⟨by simp only[len,List.length_cons,List.length_nil];omega,?_⟩;have e:v.cr.take (n-1).toNat=v.cr:=List.take_of_length_le (by omega);rw[e]at D;exact D
theorem ae6(v:ke)(ae hu aq:Int)(o:oh)(ad:qN v=true)(K:aU)(D:K (s4 (nR v ⟨ae,hu,aq,o⟩)) []):∃m,co kU tab gl 0 K m [.code (bR gl)] (df [.agg (kA v),.agg [A ae,A hu,A aq,.E (z.list z.root) o.roots,ct o.lM,A o.r.version,A o.r.cg,.E (z.list z.target) o.r.targets,af o.sigs,ct o.cQ]] []):=by
 obtain⟨aQ,aB⟩:=xU.1 ad;have dK:=YQ aQ aB;have mD:=aQ.g;have hbk:=aQ.b;obtain⟨fy,a1,bf,ck,_⟩:=iH mD;obtain⟨gi,iR⟩:=aQ.o4;have dJ:=aQ.m6;have pC:=aQ.lG;have anq:=aQ.n;have ab2:=aQ.va;have acU:=aQ.msg;have Ea:=aQ.u;have ano:=aQ.t0;have anp:=aQ.t1;have xP:((len v.units:Nat):Int)=(v.units.length:Int):=rfl;have Bb:((len v.W:Nat):Int)=(v.W.length:Int):=rfl;have xN:((len v.cr:Nat):Int)=(v.cr.length:Int):=rfl;have leaf:∀w:ke×Int,nR v ⟨ae,hu,aq,o⟩=w->K (s4 w) []:=fun w h=>h▸D
 clear D
 by_cases c:0<=ae/\ae<=10
 case neg =>
  have uO:=leaf (iY,4) (lD (YL _ (by simp only;omega)) (by decide));refine⟨1,?_⟩;rcases ae with n|n
  ·obtain⟨q,rfl⟩:∃q,n=q+11:=⟨n-11,by simp only[Int.ofNat_eq_natCast]at c;omega⟩
   rw[eB,ahQ _ _ _ _ _ _ _ _ _ _ _ _ _ _ _ _ _ _ _ _ _ _ _ _ _ _ _ _ rfl];exact⟨dK,b3 (fun _=>uO) (fun _=>uO)⟩
  ·rw[eB,ahP _ _ _ _ _ _ _ _ _ _ _ _ _ _ _ _ _ _ _ _ _ _ _ _ _ _ _ _ rfl];exact⟨dK,b3 (fun _=>uO) (fun _=>uO)⟩
 have c:ae=1\/ae=2\/ae=3\/ae=4\/ae=5\/ae=6\/ae=7\/ae=8\/ae=9\/ae=10\/ae=0:=by omega
 rcases c with rfl|rfl|rfl|rfl|rfl|rfl|rfl|rfl|rfl|rfl|rfl
 ·have av:fp v ⟨1,hu,aq,o⟩=lK v o:=rfl;obtain⟨r,aw⟩:∃r,iU v.b v.s v.g o v.now=r:=⟨_,rfl⟩
  have DT:nB v o=r:=aw
  by_cases c:r.2.2=0
  ·have jU:=Gx (v:=v) (o:=o) (by rw[DT];exact c);rw[DT]at jU;have e:=oD (av.trans (show lK v o=(⟨v.b,v.s,r.1,v.units,q7 v.cr r.2.1 o,v.W,v.now⟩,0)from by unfold lK;rw[DT,if_pos c]));refine⟨v.cr.length+1+1+1,?_⟩;rw[eB,Ww _ _ _ _ _ _ _ _ _ _ _ _ _ _ _ _ _ _ _ _ _ _ _ _ _ _ _ rfl _ rfl _ rfl _ rfl,aw];refine⟨dK,b3 (fun _=>⟨mD,qI c ?_⟩) (fun _=>⟨mD,qI c ?_⟩)⟩
   all_goals
    by_cases qz:0<r.2.1
    ·refine cV qz (aeZ v r.1 hu aq o r.2.1 (by omega) dJ K ?_);rw[show q7 v.cr r.2.1 o=v.cr.take (r.2.1-1).toNat++[⟨r.2.1,o.r,o.cQ⟩]from if_pos qz]at e;exact leaf _ e
    ·rw[show q7 v.cr r.2.1 o=v.cr from if_neg qz]at e;exact ci (by omega) (leaf _ e)
  ·have L:=leaf _ (lD (av.trans (show lK v o=(v,r.2.2)from by unfold lK;rw[DT,if_neg c])) c);refine⟨1,?_⟩;rw[eB,Ww _ _ _ _ _ _ _ _ _ _ _ _ _ _ _ _ _ _ _ _ _ _ _ _ _ _ _ rfl _ rfl _ rfl _ rfl,aw];exact⟨dK,b3 (fun _=>⟨mD,bG (fun _=>L) (fun h=>absurd h c)⟩) (fun _=>⟨mD,bG (fun _=>L) (fun h=>absurd h c)⟩)⟩
 ·have av:fp v ⟨2,hu,aq,o⟩=if hu<0\/(v.units.length:Int)<=hu then(v,5)else lJ v hu:=rfl
  refine⟨1,?_⟩;rw[eB,ahR _ _ _ _ _ _ _ _ _ _ _ _ _ _ _ _ _ _ _ _ _ _ _ _ _ _ _ rfl _ rfl _ rfl _ rfl _ rfl _ rfl _ rfl _ rfl]
  by_cases ei:hu<0\/(v.units.length:Int)<=hu
  ·have L:=leaf _ (lD (av.trans (if_pos ei)) (by decide));refine⟨dK,b3 (fun a=>b3 (fun _=>L) (fun b=>?_)) (fun _=>L)⟩;rw[fY]at a;simp only[Bool.not_eq_false',pK,xP]at b;omega
  rw[if_neg ei]at av;obtain⟨s,oL⟩:∃s,bN v.g.f=s:=⟨_,rfl⟩
  have dw:=rP v.g.f;rw[oL]at dw;have nj:=dw.nj;have oS:=dw.oS;have aw:kP v.g=(s,0):=(E4 mD).trans (by rw[oL]);have D4:lJ v hu=if (v.cr.length:Int)<s.n then(v,5)else if (hw v.g (jh v) hu).2=0 then(⟨v.b,v.s,v.g,v.units,v.cr,hI v.W (hw v.g (jh v) hu).1,v.now⟩,0)else(v,(hw v.g (jh v) hu).2):=by unfold lJ;rw[aw];rfl
  rw[oL];refine⟨dK,gk (fY.2 (by omega)) (sP (pK.2 (by omega)) ⟨fy,?_⟩)⟩
  by_cases eA:(v.cr.length:Int)<s.n
  ·exact cV eA (leaf _ (lD (av.trans (D4.trans (if_pos eA))) (by decide)))
  rw[if_neg eA]at D4;refine ci (by omega) ?_;have aA:jh v=if 0<s.n then nth v.cr (s.n-1).toNat qK else qK:=by unfold jh;rw[aw];rfl
  have hsend:=IZ v.g (jh v) hu;have fin:J (!(ar (hw v.g (jh v) hu).2 0)) (K (s4 (iY,(hw v.g (jh v) hu).2)) []) ((v.W.length<=1000/\(hw v.g (jh v) hu).1.length<=1000)/\K (s4 ((⟨v.b,v.s,v.g,v.units,v.cr,hI v.W (hw v.g (jh v) hu).1,v.now⟩:ke),0)) []) :=
   bG (fun q=>leaf _ (lD (av.trans (D4.trans (if_neg q))) q)) (fun q=>⟨⟨by omega,hsend.1⟩,leaf _ (oD (av.trans (D4.trans (if_pos q))))⟩)
  by_cases IK:0<s.n
  ·have b8:U (s.n-1)=s.n-1:=cb (by omega) (by omega);obtain⟨dI,eD,_⟩:=ab2 _ (iu (l:=v.cr) (k:=(s.n-1).toNat) (by omega) (z.H z.aP));rw[aA,if_pos IK]at fin;rw[b8];exact cV IK ⟨⟨by omega,by omega⟩,by simp only[len];omega,⟨mD,by omega,by omega⟩,fin⟩
  ·rw[aA,if_neg IK]at fin;exact ci (by omega) ⟨⟨mD,by decide,by decide⟩,fin⟩
 ·have av:fp v ⟨3,hu,aq,o⟩=j0 v 3 aq:=rfl;refine⟨1,?_⟩;rw[eB,ahS _ _ _ _ _ _ _ _ _ _ _ _ _ _ _ _ _ _ _ _ _ _ _ _ _ _ _ rfl _ rfl _ rfl _ rfl _ rfl _ rfl _ rfl _ rfl _ rfl _ rfl _ rfl _ rfl]
  by_cases pf:aq<0\/(v.W.length:Int)<=aq
  ·have L:=leaf _ (lD (av.trans (if_pos pf)) (by decide));refine⟨dK,b3 (fun _=>bq (fun _=>L) (fun _=>b3 (fun _=>L) (fun b=>?_))) (fun _=>bq (fun _=>L) (fun _=>b3 (fun _=>L) (fun b=>?_)))⟩<;>(rw[eL,Bb]at b;omega)
  have b8:U (aq+1)=aq+1:=cb (by omega) (by omega);have h5:cat (aW v.W 0 aq.toNat) (aW v.W (aq+1).toNat ((aq+1).toNat+(((len v.W:Nat):Int)-(aq+1)).toNat))=v.W.eraseIdx aq.toNat:=by
   rw[Bb,show(aq+1).toNat=aq.toNat+1 by omega,show((v.W.length:Int)-(aq+1)).toNat=v.W.length-(aq.toNat+1)from by omega];exact Rd v.W _ (by omega)
  have vC:j0 v 3 aq=(iF v aq.toNat,0):=by unfold j0;rw[if_neg pf,if_pos rfl]
  have lY:=iu (l:=v.W) (k:=aq.toNat) (by omega) (z.H z.message);have vt:=aB _ lY;have J4:=(acU _ lY).2;rw[b8,h5];have hle:(v.W.eraseIdx aq.toNat).length<=1000:=Nat.le_trans (List.length_eraseIdx_le v.W _) (by omega);obtain⟨m,fh⟩:∃m,nth v.W aq.toNat (z.H z.message)=m:=⟨_,rfl⟩
  rw[fh]at vt J4 |-;have Sg:v.W.getD aq.toNat mP=m:=fh;obtain⟨_,_,hz,ue,Bh,Bi,_⟩:=ph vt;refine⟨dK,b3 (fun _=>ci (by omega) (e7 (eL.2 (by omega)) ⟨⟨by omega,by omega⟩,by simp only[len];omega,⟨by omega,rfl,by omega⟩,⟨by omega,by omega,by omega⟩,⟨by simp only[len];omega,by simp only[len];omega,by simp only[len,aW,List.length_drop,List.length_take];omega⟩,?_⟩)) (fun _=>ci (by omega) (e7 (eL.2 (by omega)) ⟨⟨by omega,by omega⟩,by simp only[len];omega,⟨by omega,rfl,by omega⟩,⟨by omega,by omega,by omega⟩,⟨by simp only[len];omega,by simp only[len];omega,by simp only[len,aW,List.length_drop,List.length_take];omega⟩,?_⟩))⟩
  all_goals
   by_cases cq:m.kind=3\/m.kind=6\/m.kind=7
   ·have bt:=R0 (g:=v.g) (m:=m) mD ⟨hz,by omega,Bh,Bi⟩;have NQ:mb m=true:=by simp only[mb,Bool.or_eq_true,decide_eq_true_eq];omega
    have e:=oD (av.trans (vC.trans (show(iF v aq.toNat,(0:Int))=(⟨v.b,v.s,(iJ v.g m).1,v.units,v.cr,hI (v.W.eraseIdx aq.toNat) (iJ v.g m).2,v.now⟩,0)from by
     unfold iF;rw[show v.W.getD aq.toNat mP=m from Sg,if_pos NQ];unfold CB;rw[show hS (qj v aq.toNat).g m=(iJ v.g m,0)from bt,if_pos rfl];rfl)))
    have az:(iJ v.g m).2.length<=1000:=by have:=(R3 (m:=m) mD).2.1;omega
    refine cI (fun _=>?_) (fun jn=>cI (fun _=>?_) (fun anA=>cI (fun _=>?_) (fun anB=>by omega)))
    all_goals exact⟨⟨mD,hz,by omega,Bh,Bi⟩,⟨hle,az⟩,leaf _ e⟩
   ·have aec:=ach (b:=v.b) (u:=nth v.units m.unit.toNat (z.H z.aO)) (m:=m) hbk (Ea _ (iu (by omega) _)) vt;have NQ:mb m=false:=by simp only[mb,Bool.or_eq_false_iff,decide_eq_false_iff_not];omega
    have e:=oD (av.trans (vC.trans (show(iF v aq.toNat,(0:Int))=(⟨v.b,v.s,v.g,setAt v.units m.unit.toNat (he v.b (nth v.units m.unit.toNat (z.H z.aO)) m).1,v.cr,hI (v.W.eraseIdx aq.toNat) (he v.b (nth v.units m.unit.toNat (z.H z.aO)) m).2,v.now⟩,0)from by
     unfold iF;rw[show v.W.getD aq.toNat mP=m from Sg,if_neg (by rw[NQ];decide)];unfold CC;rw[show h6 (qj v aq.toNat).b (jd (qj v aq.toNat) m.unit) m=(he v.b (nth v.units m.unit.toNat (z.H z.aO)) m,0)from aec,if_pos rfl];rfl)))
    have az:(he v.b (nth v.units m.unit.toNat (z.H z.aO)) m).2.length<=1000:=by have:=(acq (b:=v.b) (u:=nth v.units m.unit.toNat (z.H z.aO)) (m:=m)).1;omega
    exact iV (by omega) (iV (by omega) (iV (by omega) ⟨⟨hz,by omega⟩,by simp only[len];omega,⟨hbk,Ea _ (iu (by omega) _),vt⟩,⟨hz,by omega⟩,by simp only[len];omega,⟨hle,az⟩,leaf _ e⟩))
 ·have av:fp v ⟨4,hu,aq,o⟩=j0 v 4 aq:=rfl;refine⟨1,?_⟩;rw[eB,ahT _ _ _ _ _ _ _ _ _ _ _ _ _ _ _ _ _ _ _ _ _ _ _ _ _ _ _ rfl _ rfl]
  by_cases pf:aq<0\/(v.W.length:Int)<=aq
  ·have L:=leaf _ (lD (av.trans (if_pos pf)) (by decide));refine⟨dK,b3 (fun _=>bq (fun _=>L) (fun _=>b3 (fun _=>L) (fun b=>?_))) (fun _=>bq (fun _=>L) (fun _=>b3 (fun _=>L) (fun b=>?_)))⟩<;>(rw[eL,Bb]at b;omega)
  have b8:U (aq+1)=aq+1:=cb (by omega) (by omega);have h5:cat (aW v.W 0 aq.toNat) (aW v.W (aq+1).toNat ((aq+1).toNat+(((len v.W:Nat):Int)-(aq+1)).toNat))=v.W.eraseIdx aq.toNat:=by
   rw[Bb,show(aq+1).toNat=aq.toNat+1 by omega,show((v.W.length:Int)-(aq+1)).toNat=v.W.length-(aq.toNat+1)from by omega];exact Rd v.W _ (by omega)
  have vC:j0 v 4 aq=(qj v aq.toNat,0):=by unfold j0;rw[if_neg pf,if_neg (by decide),if_pos rfl]
  have L:=leaf _ (oD (av.trans vC));rw[b8,h5];refine⟨dK,b3 (fun _=>ci (by omega) (e7 (eL.2 (by omega)) ⟨⟨by omega,by omega⟩,by simp only[len];omega,⟨by omega,rfl,by omega⟩,⟨by omega,by omega,by omega⟩,⟨by simp only[len];omega,by simp only[len];omega,by simp only[len,aW,List.length_drop,List.length_take];omega⟩,L⟩)) (fun _=>ci (by omega) (e7 (eL.2 (by omega)) ⟨⟨by omega,by omega⟩,by simp only[len];omega,⟨by omega,rfl,by omega⟩,⟨by omega,by omega,by omega⟩,⟨by simp only[len];omega,by simp only[len];omega,by simp only[len,aW,List.length_drop,List.length_take];omega⟩,L⟩))⟩
 ·have av:fp v ⟨5,hu,aq,o⟩=j0 v 5 aq:=rfl;refine⟨1,?_⟩;rw[eB,ahU _ _ _ _ _ _ _ _ _ _ _ _ _ _ _ _ _ _ _ _ _ _ _ _ _ _ _ rfl _ rfl _ rfl]
  by_cases pf:aq<0\/(v.W.length:Int)<=aq
  ·have L:=leaf _ (lD (av.trans (if_pos pf)) (by decide));refine⟨dK,b3 (fun _=>bq (fun _=>L) (fun _=>b3 (fun _=>L) (fun b=>?_))) (fun _=>bq (fun _=>L) (fun _=>b3 (fun _=>L) (fun b=>?_)))⟩<;>(rw[eL,Bb]at b;omega)
  have vC:j0 v 5 aq=if v.W.length=24 then(v,8)else(⟨v.b,v.s,v.g,v.units,v.cr,hI v.W [nth v.W aq.toNat (z.H z.message)],v.now⟩,0):=by unfold j0;rw[if_neg pf,if_neg (by decide),if_neg (by decide),if_pos rfl];rfl
  have fin:J (ar ((len v.W:Nat):Int) 24) (K (s4 (iY,(8:Int))) []) ((v.W.length<=1000/\[nth v.W aq.toNat (z.H z.message)].length<=1000)/\K (s4 ((⟨v.b,v.s,v.g,v.units,v.cr,hI v.W [nth v.W aq.toNat (z.H z.message)],v.now⟩:ke),0)) []) :=
   cI (fun q=>leaf _ (lD (av.trans (vC.trans (if_pos (by simp only[len]at q;omega)))) (by decide))) (fun q=>⟨⟨by omega,by simp⟩,leaf _ (oD (av.trans (vC.trans (if_neg (by simp only[len]at q;omega)))))⟩)
  exact⟨dK,b3 (fun _=>ci (by omega) (e7 (eL.2 (by omega)) ⟨⟨by omega,by omega⟩,by simp only[len];omega,fin⟩)) (fun _=>ci (by omega) (e7 (eL.2 (by omega)) ⟨⟨by omega,by omega⟩,by simp only[len];omega,fin⟩))⟩
 ·have av:fp v ⟨6,hu,aq,o⟩=j3 v 6 hu aq:=rfl;have Gf:hu < -1\/(v.units.length:Int)<=hu->_:=fun h=>leaf _ (lD (av.trans (if_pos h)) (by decide))
  have OW:¬(hu < -1\/(v.units.length:Int)<=hu)->(aq<0\/100000<aq)->_:=fun h G=>leaf _ (lD (w:=v) (e:=3) (av.trans (by unfold j3;rw[if_neg h,if_pos ⟨rfl,G⟩])) (by decide))
  have cG:¬(hu < -1\/(v.units.length:Int)<=hu)->¬(aq<0\/100000<aq)->hu<0->_:=fun h G Y=>leaf _ (oD (w:=Ju v aq) (av.trans (by unfold j3;rw[if_neg h,if_neg (fun q=>G q.2),if_pos rfl,if_pos Y])))
  have cZ:¬(hu < -1\/(v.units.length:Int)<=hu)->¬(aq<0\/100000<aq)->¬hu<0->_:=fun h G Y=>leaf _ (oD (w:=rT v hu (Aw (jd v hu) aq)) (av.trans (by unfold j3;rw[if_neg h,if_neg (fun q=>G q.2),if_pos rfl,if_neg Y])))
  refine⟨1,?_⟩;rw[eB,ahV _ _ _ _ _ _ _ _ _ _ _ _ _ _ _ _ _ _ _ _ _ _ _ _ _ _ _ rfl _ rfl _ rfl];refine⟨dK,b3 (fun a=>b3 (fun b=>b3 (fun d=>?_) (fun d=>?_)) (fun b=>?_)) (fun a=>b3 (fun b=>?_) (fun b=>?_))⟩
  all_goals
   simp only[Bool.not_eq_true',Bool.not_eq_false',k1,pn,pK,xO,fY,eL,ne_eq,xP]at *
   first
    |exact Gf (by omega)
    |exact bq (fun p=>OW (by omega) (by omega)) (fun p=>bq (fun q=>OW (by omega) (by omega)) (fun q=>cI (fun t=>cG (by omega) (by omega) (by omega)) (fun t=>⟨⟨by omega,by omega⟩,by simp only[len];omega,cZ (by omega) (by omega) (by omega)⟩)))
 ·have av:fp v ⟨7,hu,aq,o⟩=j3 v 7 hu aq:=rfl;have Gf:hu < -1\/(v.units.length:Int)<=hu->_:=fun h=>leaf _ (lD (av.trans (if_pos h)) (by decide))
  have cG:¬(hu < -1\/(v.units.length:Int)<=hu)->hu<0->_:=fun h Y=>leaf _ (oD (w:=w5 v) (av.trans (by unfold j3;rw[if_neg h,if_neg (fun q=>absurd q.1 (by decide)),if_neg (by decide),if_pos Y])))
  have DS:0<=hu->hu<v.units.length->q6 (jd v hu)=(⟨⟨(nth v.units hu.toNat (z.H z.aO)).f.words,-1⟩,true,0,0⟩,0):=fun a b=>Pr (Ea _ (iu (by omega) _))
  have cZ:¬(hu < -1\/(v.units.length:Int)<=hu)->¬hu<0->K (s4 ((⟨v.b,v.s,v.g,setAt v.units hu.toNat ⟨⟨(nth v.units hu.toNat (z.H z.aO)).f.words,-1⟩,true,0,0⟩,v.cr,v.W,v.now⟩:ke),0)) []:=fun h Y=>leaf _ (oD (av.trans (show j3 v 7 hu aq=(rT v hu ⟨⟨(nth v.units hu.toNat (z.H z.aO)).f.words,-1⟩,true,0,0⟩,0)from by unfold j3;rw[if_neg h,if_neg (fun q=>absurd q.1 (by decide)),if_neg (by decide),if_neg Y,DS (by omega) (by omega)])))
  have aex:((len v.units:Nat):Int).toNat=v.g.cH.length:=by rw[xP];omega
  have abZ:w5 v=⟨v.b,v.s,⟨⟨v.g.f.words,-1⟩,true,v.g.t,bZ ((len v.units:Nat):Int).toNat false,bZ ((len v.units:Nat):Int).toNat false⟩,v.units,v.cr,v.W,v.now⟩:=by
   unfold w5;rw[show te v.g=_ from Pq mD,aex];simp only[ck]
  rw[abZ]at cG;refine⟨1,?_⟩;rw[eB,ahW _ _ _ _ _ _ _ _ _ _ _ _ _ _ _ _ _ _ _ _ _ _ _ _ _ _ _ rfl _ rfl _ rfl _ rfl _ rfl _ rfl];refine⟨dK,b3 (fun a=>b3 (fun b=>b3 (fun d=>?_) (fun d=>?_)) (fun b=>?_)) (fun a=>b3 (fun b=>?_) (fun b=>?_))⟩
  all_goals
   simp only[Bool.not_eq_true',Bool.not_eq_false',k1,pn,pK,xO,fY,eL,ne_eq,xP]at a b
   try simp only[Bool.not_eq_true',Bool.not_eq_false',pK,xO,xP]at d
   first
    |exact Gf (by omega)
    |(refine cI (fun t=>⟨⟨by omega,by omega,by omega⟩,⟨by omega,by omega,by omega⟩,cG (by omega) (by omega)⟩) (fun t=>?_)
      have hi:hu.toNat<v.units.length:=by omega
      have az:Int.toNat hu<len v.units:=hi;simp only[afn hi,ajl,aeU];exact⟨⟨by omega,by omega⟩,az,az,az,az,cZ (by omega) (by omega)⟩)
 ·have av:fp v ⟨8,hu,aq,o⟩=rr v:=rfl;obtain⟨r,aw⟩:∃r,ki v.g=r:=⟨_,rfl⟩
  have vy:rr v=if r.2=0 then(⟨v.b,v.s,r.1,v.units,v.cr,v.W,v.now⟩,0)else(v,r.2):=by unfold rr;rw[show ki v.g=r from aw]
  refine⟨1,?_⟩;rw[eB,ahX _ _ _ _ _ _ _ _ _ _ _ _ _ _ _ _ _ _ _ _ _ _ _ _ _ _ _ rfl _ rfl _ rfl _ rfl,aw];refine⟨dK,b3 (fun _=>⟨mD,?_⟩) (fun _=>⟨mD,?_⟩)⟩
  all_goals exact bG (fun q=>leaf _ (lD (av.trans (vy.trans (if_neg q))) q)) (fun q=>leaf _ (oD (av.trans (vy.trans (if_pos q)))))
 ·have av:fp v ⟨9,hu,aq,o⟩=if hu<0\/(v.units.length:Int)<=hu then(v,5)else jP v hu:=rfl
  refine⟨1,?_⟩;rw[eB,ahY _ _ _ _ _ _ _ _ _ _ _ _ _ _ _ _ _ _ _ _ _ _ _ _ _ _ _ rfl _ rfl _ rfl _ rfl]
  by_cases ei:hu<0\/(v.units.length:Int)<=hu
  ·have L:=leaf _ (lD (av.trans (if_pos ei)) (by decide));refine⟨dK,b3 (fun a=>b3 (fun _=>L) (fun b=>?_)) (fun _=>L)⟩;rw[fY]at a;simp only[Bool.not_eq_false',pK,xP]at b;omega
  rw[if_neg ei]at av;have AO:=Ea _ (iu (l:=v.units) (k:=hu.toNat) (by omega) (z.H z.aO));obtain⟨u,g1⟩:∃u,nth v.units hu.toNat (z.H z.aO)=u:=⟨_,rfl⟩
  rw[g1]at AO |-;have vF:mT (jd v hu)=(c5 u.f,0):=by rw[show jd v hu=u from g1];exact aik AO
  have dw:=xT u.f;obtain⟨s,oL⟩:∃s,c5 u.f=s:=⟨_,rfl⟩
  have aea:c5 ⟨u.f.words,u.f.fuel⟩=s:=oL;rw[oL]at vF dw;rw[aea];have has:jP v hu=if u.up=true then(if s.ready<1\/8<s.ready then(v,12)else(⟨v.b,v.s,v.g,v.units,v.cr,hI v.W (Gq hu s.ready),v.now⟩,0))else(v,7):=by unfold jP;rw[vF,show jd v hu=u from g1];rfl
  refine⟨dK,gk (fY.2 (by omega)) (sP (pK.2 (by omega)) ⟨⟨by omega,by omega⟩,by simp only[len];omega,(q9 AO).1,?_⟩)⟩;refine ew (fun q=>leaf _ (lD (av.trans (has.trans (if_neg (by rw[q];decide)))) (by decide))) (fun q=>?_);rw[if_pos q]at has;have D7:=dw.2.2.1
  by_cases QT:s.ready<1\/8<s.ready
  ·have L:=leaf _ (lD (av.trans (has.trans (if_pos QT))) (by decide));exact cI (fun _=>L) (fun e=>cV (by omega) L)
  ·exact iV (by omega) (ci (by omega) ⟨⟨by omega,by simp⟩,leaf _ (oD (av.trans (has.trans (if_neg QT))))⟩)
 ·have av:fp v ⟨10,hu,aq,o⟩=uF v:=rfl;have b8:U (v.now+1)=v.now+1:=cb (by omega) (by omega);refine⟨1,?_⟩;rw[eB,ahZ _ _ _ _ _ _ _ _ _ _ _ _ _ _ _ _ _ _ _ _ _ _ _ _ _ _ _ rfl _ rfl,b8];refine⟨dK,b3 (fun _=>?_) (fun _=>?_)⟩
  all_goals exact cI (fun q=>leaf _ (lD (av.trans (if_pos q)) (by decide))) (fun q=>leaf _ (oD (av.trans (if_neg q))))
 ·have uO:=leaf (iY,4) (lD (YL _ (by simp only;omega)) (by decide));refine⟨1,?_⟩;rw[eB,ahO _ _ _ _ _ _ _ _ _ _ _ _ _ _ _ _ _ _ _ _ _ _ _ _ _ _ _ rfl];exact⟨dK,b3 (fun _=>uO) (fun _=>uO)⟩
theorem aiZ(ad:qN ⟨aJ,vs,⟨⟨ws,fu⟩,up,⟨⟨al,ah,ak⟩,aj⟩,aa,ab⟩,us,cs,W,now⟩=true)(K:aU)(D:K (.ao [.agg (kA (nR ⟨aJ,vs,⟨⟨ws,fu⟩,up,⟨⟨al,ah,ak⟩,aj⟩,aa,ab⟩,us,cs,W,now⟩ ⟨ae,hu,aq,⟨rs,rg,⟨bE,bY,ts⟩,a5,a8⟩⟩).1),.one (A (nR ⟨aJ,vs,⟨⟨ws,fu⟩,up,⟨⟨al,ah,ak⟩,aj⟩,aa,ab⟩,us,cs,W,now⟩ ⟨ae,hu,aq,⟨rs,rg,⟨bE,bY,ts⟩,a5,a8⟩⟩).2)]) []):ku kU gl 0 K [.agg (et aJ vs ws fu up al ah ak aj aa ab (.E (z.list z.aO) us) (.E (z.list z.aP) cs) (bs W) now),.agg [A ae,A hu,A aq,.E (.list .root) rs,ct rg,A bE,A bY,.E (.list .target) ts,af a5,ct a8]] []:=by
 exact ae6 ⟨aJ,vs,⟨⟨ws,fu⟩,up,⟨⟨al,ah,ak⟩,aj⟩,aa,ab⟩,us,cs,W,now⟩ ae hu aq ⟨rs,rg,⟨bE,bY,ts⟩,a5,a8⟩ ad K D
theorem akU:bo 13 H1:=hj afY Tryz.func13 (by kernel_rfl) (by
 intro vs au p v du h ad;unfold H1 at h;split at h
 ·cases h;exact⟨by kernel_rfl,rfl,.inl (aiZ _ _ _ _ _ _ _ _ _ _ _ _ _ _ _ _ _ _ _ _ _ _ _ _ _ ad.1 _ ⟨rfl,rfl⟩)⟩
 ·cases h)

def OG:Ctx:=[(4,C5),(5,HF),(6,C4),(7,HY),(8,HW),(9,HR),(10,C0),(11,HU),(12,HK),(13,H1)]
theorem afZ:fr Tryz.prog tab OG:=((((((((((bn.f akU).f akD).f akN).f Nr).f akK).f akP).f akR).f Ym).f akB).f Yq)
theorem Wy(aJ:cD)(vs:cG)(ws:aK)(fu:Int)(up:Bool)(al:Int)(ah:aK)(ak aj:Int)(aa ab:da)(us:cZ)(cs:c3)(W:cF)(now ae hu aq:Int)(rs:hs)(rg:cj)(bE bY:Int)(ts:LT)(a5:aK)(a8:cj)(b:cD)(l:cG)(fM:Int)(fg:aK)(rt:Int)(mL:cj)(nx:cD)(ny:cG)(iB:aK)(il:Int)(iA:Bool)(ll:Int)(lh:aK)(lk lj:Int)(lp kY:da)(mX:cZ)(mu:c3)(nk:cF)(nl:Int)(rec:bV)(K:aU) v0 (bX:v0=ks ⟨aJ,vs,⟨⟨ws,fu⟩,up,⟨⟨al,ah,ak⟩,aj⟩,aa,ab⟩,us,cs,W,now⟩) v1 (b9:v1=o3 ⟨aJ,vs,⟨⟨ws,fu⟩,up,⟨⟨al,ah,ak⟩,aj⟩,aa,ab⟩,us,cs,W,now⟩) aC (cT:aC=mr ⟨aJ,vs,⟨⟨ws,fu⟩,up,⟨⟨al,ah,ak⟩,aj⟩,aa,ab⟩,us,cs,W,now⟩) v3 (ed:v3=o0 ⟨aJ,vs,⟨⟨ws,fu⟩,up,⟨⟨al,ah,ak⟩,aj⟩,aa,ab⟩,us,cs,W,now⟩ ⟨aJ,vs,⟨⟨ws,fu⟩,up,⟨⟨al,ah,ak⟩,aj⟩,aa,ab⟩,us,cs,W,now⟩) v4 (e5:v4=oU b l ⟨fM,fg,rt⟩ mL) cn (hx:cn=o3 ⟨v4.fst.b,v4.fst.s,⟨⟨v4.fst.g.f.words,v4.fst.g.f.fuel⟩,v4.fst.g.up,⟨⟨v4.fst.g.t.r.version,v4.fst.g.t.r.keys,v4.fst.g.t.r.dV⟩,v4.fst.g.t.version⟩,v4.fst.g.cH,v4.fst.g.did⟩,v4.fst.units,v4.fst.cr,v4.fst.W,v4.fst.now⟩) dR (kG:dR=o0 ⟨v4.fst.b,v4.fst.s,⟨⟨v4.fst.g.f.words,v4.fst.g.f.fuel⟩,v4.fst.g.up,⟨⟨v4.fst.g.t.r.version,v4.fst.g.t.r.keys,v4.fst.g.t.r.dV⟩,v4.fst.g.t.version⟩,v4.fst.g.cH,v4.fst.g.did⟩,v4.fst.units,v4.fst.cr,v4.fst.W,v4.fst.now⟩ ⟨v4.fst.b,v4.fst.s,⟨⟨v4.fst.g.f.words,v4.fst.g.f.fuel⟩,v4.fst.g.up,⟨⟨v4.fst.g.t.r.version,v4.fst.g.t.r.keys,v4.fst.g.t.r.dV⟩,v4.fst.g.t.version⟩,v4.fst.g.cH,v4.fst.g.did⟩,v4.fst.units,v4.fst.cr,v4.fst.W,v4.fst.now⟩) dy (iL:dy=o0 ⟨aJ,vs,⟨⟨ws,fu⟩,up,⟨⟨al,ah,ak⟩,aj⟩,aa,ab⟩,us,cs,W,now⟩ ⟨nx,ny,⟨⟨iB,il⟩,iA,⟨⟨ll,lh,lk⟩,lj⟩,lp,kY⟩,mX,mu,nk,nl⟩) cR (kH:cR=xk ⟨aJ,vs,⟨⟨ws,fu⟩,up,⟨⟨al,ah,ak⟩,aj⟩,aa,ab⟩,us,cs,W,now⟩ ⟨ae,hu,aq,⟨rs,rg,⟨bE,bY,ts⟩,a5,a8⟩⟩) v9 (jY:v9=o3 ⟨cR.fst.b,cR.fst.s,⟨⟨cR.fst.g.f.words,cR.fst.g.f.fuel⟩,cR.fst.g.up,⟨⟨cR.fst.g.t.r.version,cR.fst.g.t.r.keys,cR.fst.g.t.r.dV⟩,cR.fst.g.t.version⟩,cR.fst.g.cH,cR.fst.g.did⟩,cR.fst.units,cR.fst.cr,cR.fst.W,cR.fst.now⟩) v10 (nf:v10=o0 ⟨cR.fst.b,cR.fst.s,⟨⟨cR.fst.g.f.words,cR.fst.g.f.fuel⟩,cR.fst.g.up,⟨⟨cR.fst.g.t.r.version,cR.fst.g.t.r.keys,cR.fst.g.t.r.dV⟩,cR.fst.g.t.version⟩,cR.fst.g.cH,cR.fst.g.did⟩,cR.fst.units,cR.fst.cr,cR.fst.W,cR.fst.now⟩ ⟨[],[],⟨⟨[],0⟩,false,⟨⟨0,[],0⟩,0⟩,[],[]⟩,[],[],[],0⟩) v11 (oN:v11=qN ⟨aJ,vs,⟨⟨ws,fu⟩,up,⟨⟨al,ah,ak⟩,aj⟩,aa,ab⟩,us,cs,W,now⟩) hb (xG:hb=nR ⟨aJ,vs,⟨⟨ws,fu⟩,up,⟨⟨al,ah,ak⟩,aj⟩,aa,ab⟩,us,cs,W,now⟩ ⟨ae,hu,aq,⟨rs,rg,⟨bE,bY,ts⟩,a5,a8⟩⟩) hc (sH:hc=o0 ⟨cR.fst.b,cR.fst.s,⟨⟨cR.fst.g.f.words,cR.fst.g.f.fuel⟩,cR.fst.g.up,⟨⟨cR.fst.g.t.r.version,cR.fst.g.t.r.keys,cR.fst.g.t.r.dV⟩,cR.fst.g.t.version⟩,cR.fst.g.cH,cR.fst.g.did⟩,cR.fst.units,cR.fst.cr,cR.fst.W,cR.fst.now⟩ ⟨hb.fst.b,hb.fst.s,⟨⟨hb.fst.g.f.words,hb.fst.g.f.fuel⟩,hb.fst.g.up,⟨⟨hb.fst.g.t.r.version,hb.fst.g.t.r.keys,hb.fst.g.t.r.dV⟩,hb.fst.g.t.version⟩,hb.fst.g.cH,hb.fst.g.did⟩,hb.fst.units,hb.fst.cr,hb.fst.W,hb.fst.now⟩):b5 OG tab Tryz.f3 0 K rec [.code (bR Tryz.f3)] (df [.agg (et aJ vs ws fu up al ah ak aj aa ab (.E (z.list z.aO) us) (.E (z.list z.aP) cs) (bs W) now),.agg [A ae,A hu,A aq,.E (z.list z.root) rs,ct rg,A bE,A bY,.E (z.list z.target) ts,af a5,ct a8],.agg [.E (z.list z.str) b],.one (.E (z.list z.signed) l),.agg [A fM,af fg,A rt],.one (ct mL),.agg [.E (z.list z.str) nx,.E (z.list z.signed) ny,af iB,A il,ax iA,A ll,af lh,A lk,A lj,bh lp,bh kY,.E (z.list z.aO) mX,.E (z.list z.aP) mu,bs nk,A nl]] [])=(
 v0=true /\
 len fg*8<=140737488355328 /\
 v1=true /\
 J (!(ar aC aC))
 (K dt [])
 (v1=true /\
 J (!v3)
 (K dt [])
 (J (!(ar v4.snd v4.snd))
 (K dt [])
 (cn=true /\
 J (!dR)
 (K dt [])
 (v1=true /\
 v1=true /\
 J (!(h3 dy dy))
 (K dt [])
 (J (!(ar aC 0))
 (J (ar cR.snd aC)
 (v9=true /\
 K (.one (ax v10)) [])
 (K dt []))
 (v11=true /\
 J (ar cR.snd hb.snd)
 (v9=true /\
 K (.one (ax hc)) [])
 (K dt [])))))))):=by subst_vars;kernel_rfl

theorem ai0(ad:ks ⟨aJ,vs,⟨⟨ws,fu⟩,up,⟨⟨al,ah,ak⟩,aj⟩,aa,ab⟩,us,cs,W,now⟩=true/\len fg*8<=140737488355328)(K:aU)(D:K (.one (ax true)) []):∃m,co OG tab Tryz.f3 0 K m [.code (bR Tryz.f3)] (df [.agg (et aJ vs ws fu up al ah ak aj aa ab (.E (z.list z.aO) us) (.E (z.list z.aP) cs) (bs W) now),.agg [A ae,A hu,A aq,.E (.list .root) rs,ct rg,A bE,A bY,.E (.list .target) ts,af a5,ct a8],.agg [.E (z.list z.str) b],.one (.E (z.list z.signed) l),.agg [A fM,af fg,A rt],.one (ct mL),.agg [.E (z.list z.str) nx,.E (z.list z.signed) ny,af iB,A il,ax iA,A ll,af lh,A lk,A lj,bh lp,bh kY,.E (z.list z.aO) mX,.E (z.list z.aP) mu,bs nk,A nl]] []):=by
 obtain⟨dK,tV⟩:=ad;have aR:=YR (B4.1 dK);have Sl:=alx b l ⟨fM,fg,rt⟩ mL;have YO:∀a b:ke,a=b->K (.one (ax (o0 a b))) []:=fun a b h=>by rw[h,BR];exact D
 refine⟨1,?_⟩
 by_cases c:mr (⟨aJ,vs,⟨⟨ws,fu⟩,up,⟨⟨al,ah,ak⟩,aj⟩,aa,ab⟩,us,cs,W,now⟩:ke)=0
 ·have aG:=afA c;have e:xk (⟨aJ,vs,⟨⟨ws,fu⟩,up,⟨⟨al,ah,ak⟩,aj⟩,aa,ab⟩,us,cs,W,now⟩:ke) (⟨ae,hu,aq,⟨rs,rg,⟨bE,bY,ts⟩,a5,a8⟩⟩:w1)=nR (⟨aJ,vs,⟨⟨ws,fu⟩,up,⟨⟨al,ah,ak⟩,aj⟩,aa,ab⟩,us,cs,W,now⟩:ke) (⟨ae,hu,aq,⟨rs,rg,⟨bE,bY,ts⟩,a5,a8⟩⟩:w1):=if_pos c;have bH:=alw aG (⟨ae,hu,aq,⟨rs,rg,⟨bE,bY,ts⟩,a5,a8⟩⟩:w1);rw[eB,Wy _ _ _ _ _ _ _ _ _ _ _ _ _ _ _ _ _ _ _ _ _ _ _ _ _ _ _ _ _ _ _ _ _ _ _ _ _ _ _ _ _ _ _ _ _ _ _ _ _ rfl _ rfl _ rfl _ rfl _ rfl _ rfl _ rfl _ rfl _ rfl _ rfl _ rfl _ rfl _ rfl _ rfl,e];refine⟨dK,tV,aR,qI rfl ⟨aR,sP (BR _) (qI rfl ⟨Sl,sP (BR _) ⟨aR,aR,e7 (by rw[Rb.2 rfl];rfl) (qI c ⟨aG,k0 rfl ⟨bH,?_⟩⟩)⟩⟩)⟩⟩;exact YO _ _ rfl
 ·have e:xk (⟨aJ,vs,⟨⟨ws,fu⟩,up,⟨⟨al,ah,ak⟩,aj⟩,aa,ab⟩,us,cs,W,now⟩:ke) (⟨ae,hu,aq,⟨rs,rg,⟨bE,bY,ts⟩,a5,a8⟩⟩:w1)=(iY,mr (⟨aJ,vs,⟨⟨ws,fu⟩,up,⟨⟨al,ah,ak⟩,aj⟩,aa,ab⟩,us,cs,W,now⟩:ke)):=if_neg c;rw[eB,Wy _ _ _ _ _ _ _ _ _ _ _ _ _ _ _ _ _ _ _ _ _ _ _ _ _ _ _ _ _ _ _ _ _ _ _ _ _ _ _ _ _ _ _ _ _ _ _ _ _ rfl _ rfl _ rfl _ rfl _ rfl _ rfl _ rfl _ rfl _ rfl _ rfl _ rfl _ rfl _ rfl _ rfl,e];refine⟨dK,tV,aR,qI rfl ⟨aR,sP (BR _) (qI rfl ⟨Sl,sP (BR _) ⟨aR,aR,e7 (by rw[Rb.2 rfl];rfl) (bG (fun _=>k0 rfl ⟨zo,?_⟩) (fun h=>absurd h c))⟩⟩)⟩⟩;exact YO _ _ rfl
theorem akV(aJ:cD)(vs:cG)(ws:aK)(fu:Int)(up:Bool)(al:Int)(ah:aK)(ak aj:Int)(aa ab:da)(us:cZ)(cs:c3)(W:cF)(now ae hu aq:Int)(rs:hs)(rg:cj)(bE bY:Int)(ts:LT)(a5:aK)(a8:cj)(b:cD)(l:cG)(fM:Int)(fg:aK)(rt:Int)(mL:cj)(nx:cD)(ny:cG)(iB:aK)(il:Int)(iA:Bool)(ll:Int)(lh:aK)(lk lj:Int)(lp kY:da)(mX:cZ)(mu:c3)(nk:cF)(nl:Int):jv Tryz.prog tab 3 (Gr [.agg (et aJ vs ws fu up al ah ak aj aa ab (.E (z.list z.aO) us) (.E (z.list z.aP) cs) (bs W) now),.agg [A ae,A hu,A aq,.E (.list .root) rs,ct rg,A bE,A bY,.E (.list .target) ts,af a5,ct a8],.agg [.E (z.list z.str) b],.one (.E (z.list z.signed) l),.agg [A fM,af fg,A rt],.one (ct mL),.agg [.E (z.list z.str) nx,.E (z.list z.signed) ny,af iB,A il,ax iA,A ll,af lh,A lk,A lj,bh lp,bh kY,.E (z.list z.aO) mX,.E (z.list z.aP) mu,bs nk,A nl]] [] (some (ks ⟨aJ,vs,⟨⟨ws,fu⟩,up,⟨⟨al,ah,ak⟩,aj⟩,aa,ab⟩,us,cs,W,now⟩=true/\len fg*8<=140737488355328)) (.one (ax true)) []):=ajs afZ ⟨Tryz.func3,(by kernel_rfl)⟩ (by kernel_rfl) rfl fun ad=>ai0 _ _ _ _ _ _ _ _ _ _ _ _ _ _ _ _ _ _ _ _ _ _ _ _ _ _ _ _ _ _ _ _ _ _ _ _ _ _ _ _ _ _ _ _ _ _ ad.1 _ ⟨rfl,rfl⟩
end
end Go.Proofs.YtlbppjmekiemiabGreatDoor
