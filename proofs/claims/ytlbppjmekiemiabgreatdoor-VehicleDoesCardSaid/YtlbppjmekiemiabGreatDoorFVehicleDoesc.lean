/- What the functions of VehicleDoes compute (part 3 of 5). No condition. -/
import Derived.Test.YtlbppjmekiemiabGreatDoorFVehicleDoesb
import Derived.KernelRfl
namespace Go.Proofs.YtlbppjmekiemiabGreatDoor
noncomputable section
open bF
set_option maxHeartbeats 4000000
variable (fu k n name rt fM dL units hm v x:Int) (l fg ws:aK) (a b:cZ)
def Ii:a7
 |[.agg [.E (.list .int) ws,.E .int fu]],[]=>some (none,.ao [.agg [af (ql ⟨ws,fu⟩).1.words,A (ql ⟨ws,fu⟩).1.fuel],.one (A (ql ⟨ws,fu⟩).2)],[])
 |_,_=>none

theorem Yz:bo 91 Ii:=b2 0 ((((bn.f (kV.or M5 ND)).f Nz).f B1).f B0) Tryz.func91 (by kernel_rfl) fun vs au=>by
 unfold Ii;split;rotate_left;trivial;rename_i ws fu;refine⟨by kernel_rfl,fun K D=>?_⟩;refine⟨1,?_⟩;obtain⟨aC,cT⟩:∃aC,aC=cc (⟨ws,fu⟩:cp) (eN 1):=⟨_,rfl⟩
 obtain⟨v4,e5⟩:∃v4,v4=cc (aC.fst:cp) (eN 0):=⟨_,rfl⟩
 obtain⟨dR,kG⟩:∃dR,dR=cc (v4.fst:cp) (cE 0 ((1:Int)::[])):=⟨_,rfl⟩
 refine cf (fun rec=>(by subst kG e5 cT;kernel_rfl:_=(
  J (!(ar (e9 (⟨ws,fu⟩:cp)) 0))
  (K (.ao [.agg [af [],A (0:Int)],.one (A (e9 (⟨ws,fu⟩:cp)))]) [])
  (J (aL (len ws:Int) 64)
  (K (.ao [.agg [af [],A (0:Int)],.one (A 4)]) [])
  (len ws*8<=140737488355328 /\
  ((-1)<=fu/\fu<=100000/\(0:Int)<=(1:Int)/\((1:Int)+(1:Int))*32<=(len ws:Int)/\len ws<=192) /\
  J (!aC.snd)
  (K (.ao [.agg [af aC.fst.words,A aC.fst.fuel],.one (A 7)]) [])
  (((-1)<=aC.fst.fuel/\aC.fst.fuel<=100000/\(0:Int)<=(0:Int)/\((0:Int)+(1:Int))*32<=(len aC.fst.words:Int)/\len aC.fst.words<=192) /\
  J (!v4.snd)
  (K (.ao [.agg [af v4.fst.words,A v4.fst.fuel],.one (A 7)]) [])
  (((-1)<=v4.fst.fuel/\v4.fst.fuel<=100000/\(0:Int)<=(0:Int)/\(0:Int)+(len ((1:Int)::[]):Int)<=(len v4.fst.words:Int)/\len v4.fst.words<=192) /\
  J (!dR.snd)
  (K (.ao [.agg [af dR.fst.words,A dR.fst.fuel],.one (A 7)]) [])
  (K (.ao [.agg [af dR.fst.words,A dR.fst.fuel],.one (A 0)]) [])))))))) ?_
 subst kG e5 cT;unfold ql at D;refine bG (fun h=>?_) (fun h=>?_)
 ·rw[if_neg h]at D;exact D
 rw[if_pos h]at D;obtain⟨bp,bc,cq,dq⟩:=jx h;obtain⟨hE,gv⟩:=rQ bp;simp only at bc cq hE gv;refine bq (fun G=>?_) (fun G=>?_)
 ·rw[if_neg (by simp only[len]at G |-; omega)]at D;exact D
 rw[if_pos (by simp only[len]at G |-; omega)]at D;unfold xr at D;rw[xi,xi]at D;obtain⟨f1,f2⟩:=sa ⟨ws,fu⟩ (eN 1) bc cq;have dY:=tl ⟨ws,fu⟩ (eN 1);obtain⟨a1,bf⟩:=sa (cc ⟨ws,fu⟩ (eN 1)).1 (eN 0) f1 f2;have gI:=tl (cc ⟨ws,fu⟩ (eN 1)).1 (eN 0);simp only[len]at G dY gI |-;refine⟨by omega,⟨bc,cq,by omega,by omega,by omega⟩,ew (fun Y=>?_) (fun Y=>⟨⟨f1,f2,by omega,by omega,by omega⟩,ew (fun aS=>?_) (fun aS=>⟨⟨a1,bf,by omega,?_,?_⟩,ew (fun bj=>?_) (fun bj=>?_)⟩)⟩)⟩
 ·rw[if_neg (show ¬(cc ⟨ws,fu⟩ (eN 1)).2=true by simp[Y]),if_neg (by simp[Y])]at D;simp only[gh,ko,Y]at D;exact D
 ·rw[if_pos Y,if_neg (show ¬(cc (cc ⟨ws,fu⟩ (eN 1)).1 (eN 0)).2=true from by rw[show(cc (cc ⟨ws,fu⟩ (eN 1)).1 (eN 0)).2=false from aS];simp)]at D;simp only[gh]at D;rw[show(cc (cc ⟨ws,fu⟩ (eN 1)).1 (eN 0)).2=false from aS]at D;exact D
 ·show(0:Int)+_<=((cc (cc ⟨ws,fu⟩ (eN 1)).1 (eN 0)).1.words.length:Int);simp only[List.length_cons,List.length_nil];omega
 ·show(cc (cc ⟨ws,fu⟩ (eN 1)).1 (eN 0)).1.words.length<=_;omega
 ·rw[if_pos Y,if_pos (show(cc (cc ⟨ws,fu⟩ (eN 1)).1 (eN 0)).2=true from aS)]at D;simp only[gh]at D;rw[show(cc (cc (cc ⟨ws,fu⟩ (eN 1)).1 (eN 0)).1 (cE 0 [1])).2=false from bj]at D;exact D
 ·rw[if_pos Y,if_pos (show(cc (cc ⟨ws,fu⟩ (eN 1)).1 (eN 0)).2=true from aS)]at D;simp only[gh]at D;rw[show(cc (cc (cc ⟨ws,fu⟩ (eN 1)).1 (eN 0)).1 (cE 0 [1])).2=true from bj]at D;exact D

def G6:a7
 |[.agg [.E .int fM,.E (.list .int) fg,.E .int rt],.one (.E .int units)],[]=>some (some (len fg*8<=140737488355328),.ao [.agg (jg (jo ⟨fM,fg,rt⟩ units).1),.one (A (jo ⟨fM,fg,rt⟩ units).2)],[])
 |_,_=>none

theorem ajY:bo 22 G6:=b2 0 ((((bn.f zl).f zk).f Yz).f Yn) Tryz.func22 (by kernel_rfl) fun vs au=>by
 unfold G6;split;rotate_left;trivial;rename_i fM fg rt units;dsimp only[z.den]at fM fg rt units;refine⟨by kernel_rfl,fun ad K D=>?_⟩;refine⟨1,?_⟩;obtain⟨v0,bX⟩:∃v0,v0=dM (bZ (Int.toNat ((2:Int)*(32:Int))) (65535:Int)) xr:=⟨_,rfl⟩
 obtain⟨v1,b9⟩:∃v1,v1=dG ⟨⟨v0,(-1)⟩,true,⟨⟨fM,fg,rt⟩,0⟩,bZ (Int.toNat units) (z.H z.bool),bZ (Int.toNat units) (z.H z.bool)⟩:=⟨_,rfl⟩
 obtain⟨aC,cT⟩:∃aC,aC=K (.ao [.agg [af [],A (0:Int),ax false,A (0:Int),af [],A (0:Int),A (0:Int),bh [],bh []],.one (A 3)]) []:=⟨_,rfl⟩
 refine cf (fun rec=>(by subst cT b9 bX;kernel_rfl:_=(
  J (aL units 1)
  aC
  (J (aL 4 units)
  aC
  (len fg*8<=140737488355328 /\
  ((0:Int)<=units/\units*((1:Nat):Int)<=140737488355328/\units<=140737488355328) /\
  ((0:Int)<=units/\units*((1:Nat):Int)<=140737488355328/\units<=140737488355328) /\
  J (!(ar v1 0))
  (K (.ao [.agg [af [],A (0:Int),ax false,A (0:Int),af [],A (0:Int),A (0:Int),bh [],bh []],.one (A v1)]) [])
  (K (.ao [.agg [af v0,A (-1),ax true,A fM,af fg,A rt,A (0:Int),bh (bZ (Int.toNat units) (z.H z.bool)),bh (bZ (Int.toNat units) (z.H z.bool))],.one (A 0)]) [])))))) ?_
 subst cT b9 bX;have dU:(ql (qJ 2).1).1=⟨dM (bZ (Int.toNat ((2:Int)*(32:Int))) (65535:Int)) xr,-1⟩:=by kernel_rfl
 unfold jo uf at D;rw[dU]at D
 by_cases c:units<1\/4<units
 ·rw[if_pos c]at D;exact bq (fun _=>D) (fun _=>cV (by omega) D)
 rw[if_neg c]at D;refine ci (by omega) (ci (by omega) ⟨ad,⟨by omega,by omega,by omega⟩,⟨by omega,by omega,by omega⟩,bG (fun h=>?_) (fun h=>?_)⟩)
 ·rw[if_neg (by exact h)]at D;exact D
 ·rw[if_pos (by exact h)]at D;exact D

def GQ:a7
 |[.one (.E (.list .int) l),.one (.E .int name)],[]=>some (none,.ao [.agg (fJ (lH l name).1),.one (A (lH l name).2)],[])
 |_,_=>none
def Of:Ctx:=[(94,De),(90,HQ),(91,Ii),(95,C6),(96,C7),(97,C8)]
theorem ag9(l:aK)(name:Int)(rec:bV)(K:aU) v0 (bX:v0=fv l) v1 (b9:v1=dM (bZ (Int.toNat ((6:Int)*(32:Int))) (65535:Int)) xr) aC (cT:aC=fa ⟨v1,(-1)⟩ 0 0 l) v3 (ed:v3=gn aC.fst 0 (len l:Int) name) v4 (e5:v4=hB []) cn (hx:cn=fE v3.fst ((1:Int)::(0:Int)::(0:Int)::[]) []):b5 Of tab Tryz.f26 0 K rec [.code (bR Tryz.f26)] (df [.one (af l),.one (A name)] [])=(
 J (!(ar v0 0))
 (K (.ao [.agg [af [],A (0:Int),ax false,A (0:Int),A (0:Int)],.one (A v0)]) [])
 (List.length l<=140737488355328 /\
 J (!(ar v3.snd 0))
 (K (.ao [.agg [af [],A (0:Int),ax false,A (0:Int),A (0:Int)],.one (A v3.snd)]) [])
 ((List.length ((1:Int)::(0:Int)::(0:Int)::[])<=140737488355328/\0*24<=140737488351232/\v4=true) /\
 K (.ao [.agg [af cn.fst.words,A cn.fst.fuel,ax true,A (0:Int),A (0:Int)],.one (A 0)]) []))):=by subst_vars;kernel_rfl

theorem ajM:bo 26 GQ:=b2 (Γ:=Of) 0 ((((((bn.f Nx).f Yw).f Yv).f Yz).f Yn).f NH) Tryz.func26 (by kernel_rfl) fun vs au=>by
 unfold GQ;split;rotate_left;trivial;rename_i l name;refine⟨by kernel_rfl,fun K D=>?_⟩;obtain⟨gE,c8⟩:∃gE,gE=dM (bZ (Int.toNat ((6:Int)*(32:Int))) (65535:Int)) xr:=⟨_,rfl⟩
 refine⟨1,Eq.mpr (ag9 l name (co Of tab Tryz.f26 0 K 0) K _ rfl gE c8 _ rfl _ rfl _ rfl _ rfl) ?_⟩;have e:(ql (qJ 6).1).1=⟨gE,-1⟩:=by rw[c8];kernel_rfl
 clear c8;unfold lH xp at D;rw[e]at D;refine bG (fun h=>?_) (fun h=>⟨?_,bG (fun G=>?_) (fun G=>⟨⟨by simp,by omega,rfl⟩,?_⟩)⟩)
 ·rw[if_neg h]at D;exact D
 ·have:=r8 h;omega
 ·rw[if_pos h,if_neg (show ¬(gn (fa ⟨gE,-1⟩ 0 0 l).1 0 (l.length:Int) name).2=0 from G)]at D;exact D
 ·rw[if_pos h,if_pos (show(gn (fa ⟨gE,-1⟩ 0 0 l).1 0 (l.length:Int) name).2=0 from G)]at D;exact D

def HN:a7
 |[.one (.E .int e)],[]=>some (none,.ao [.agg (kA iY),.one (A e)],[])
 |_,_=>none

theorem akH:bo 19 HN:=b2 0 bn Tryz.func19 (by kernel_rfl) fun vs au=>by
 unfold HN;split;rotate_left;trivial;rename_i e;refine⟨by kernel_rfl,fun K D=>?_⟩;refine⟨1,?_⟩;refine cf (fun rec=>(by kernel_rfl:_=(
  K (.ao [.agg fk,.one (A e)]) []))) ?_
 exact D

def C4:a7
 |[.agg [.E (.list .str) b],.one (.E (.list .signed) s),.agg [.E .int fM,.E (.list .int) fg,.E .int rt],.one (.E (.list (.list .int)) a8)],[]=>some (some (len fg*8<=140737488355328),.ao [.agg (kA (oU b s ⟨fM,fg,rt⟩ a8).1),.one (A (oU b s ⟨fM,fg,rt⟩ a8).2)],[])
 |_,_=>none
def OC:Ctx:=[(20,Db),(21,z2),(22,G6),(23,CW),(24,CX),(25,Ad),(26,GQ),(19,HN)]
def yJ:List cu:=[.inLoop [63,62,61,15,10,9,8,4] (Code.sub (bR Tryz.f6) [1,1,1,1,1,1,1,0,1,0,0]),.inBlock 0,.code (Code.sub (bR Tryz.f6) [1,1,1,1,1,1,1,1])]
def Mf(F ai:Int)(M:cj)(ag:Int)(an:cD)(aE:cG)(aI:aK)(aV:Int)(aZ:Bool)(bd:Int)(bu:aK)(bx br:Int)(bD bM:da)(bJ bP:Int)(bC:Bool)(bT b1 cw cB:Int)(cY:cD)(c6:cZ)(dc:c3)(dz:cF)(dD:cD)(dZ:cG)(ea dB:aK)(dS dF:da)(eo:cZ)(em:c3)(ep:cF):bO:=⟨[(63,.one (A F)),(62,.one (A ai)),(61,.one (ct M)),(15,.one (.ptr 0 0)),(10,.one (.fn 19 [])),(9,.one (A ag)),(8,.one (.ptr 1 0)),(4,.one (.ptr 2 0))],[(0,.box [.E (z.list z.str) an,.E (z.list z.signed) aE,af aI,A aV,ax aZ,A bd,af bu,A bx,A br,bh bD,bh bM,.own 3,.own 4,.own 5,A bJ]),(1,.box [.own 6,.own 7,.own 8,A bP,ax bC,A bT,.own 9,A b1,A cw,.own 10,.own 11,.own 12,.own 13,.own 14,A cB]),(2,.box [.E (z.list z.str) cY]),(3,.arr z.aO c6),(4,.arr z.aP dc),(5,.arr z.message dz),(6,.arr z.str dD),(7,.arr z.signed dZ),(8,.arr z.int ea),(9,.arr z.int dB),(10,.arr z.bool dS),(11,.arr z.bool dF),(12,.arr z.aO eo),(13,.arr z.aP em),(14,.arr z.message ep)],15⟩
theorem Wh{F:Int}{c6:cZ}{rec:bV}{K:aU}{ai M ag an aE aI aV aZ bd bu bx br bD bM bJ bP bC bT b1 cw cB cY dc dz dD dZ ea dB dS dF eo em ep}{aC v0 v1 v3}(cT:aC=fun a b=>Mf a ai M ag an aE aI aV aZ bd bu bx br bD bM bJ bP bC bT b1 cw cB cY b dc dz dD dZ ea dB dS dF eo em ep)(bX:v0=gH cY (nth M (Int.toNat F) (z.H (z.list z.int))))(b9:v1=lH (nth M (Int.toNat F) (z.H (z.list z.int))) v0.fst)(ed:v3=J (!(ar v0.snd 0))
 (K (.ao [.agg fk,.one (A v0.snd)]) [])
 (J (!(ar v1.snd 0))
 (K (.ao [.agg fk,.one (A v1.snd)]) [])
 ((len c6+len ((v1.fst:oi)::[]))*56<=140737488355328 /\
 rec yJ (aC (U (F+1)) (cat c6 ((v1.fst:oi)::[])))))):b5 OC tab Tryz.f6 0 K rec (cU yJ) (aC F c6)=(
 J (aL F ai)
 (((0:Int)<=F/\F<(len M:Int)) /\
 List.length cY<=140737488355328 /\
 J (ar v0.snd 0)
 (J (ar v0.fst 0)
 (K (.ao [.agg fk,.one (A 5)]) [])
 v3)
 v3)
 (K (.ao [.agg [.E (z.list z.str) an,.E (z.list z.signed) aE,af aI,A aV,ax aZ,A bd,af bu,A bx,A br,bh bD,bh bM,.E (z.list z.aO) c6,.E (z.list z.aP) dc,bs dz,A bJ],.one (A 0)]) [])):=by subst_vars;kernel_rfl

theorem Ul(b:cD)(s:cG)(cx:Gate)(a8:cj)(ay:b.length<=140737488355328)(hi:a8.length<=4)(K:aU):∀(d k:Nat) (acc:cZ),k+d=a8.length->acc.length<=k ->
  K (.ao [.agg (kA (iO b s cx acc (a8.drop k)).1),.one (A (iO b s cx acc (a8.drop k)).2)]) [] ->
  co OC tab Tryz.f6 0 K (d+1) yJ (Mf (k:Int) (((len a8):Nat):Int) a8 0 b s cx.f.words cx.f.fuel cx.up cx.t.r.version cx.t.r.keys cx.t.r.dV cx.t.version cx.cH cx.did 0 0 false 0 0 0 0 b acc [] [] [] [] [] [] [] [] [] [] [])
 |0,k,acc,ae,bl,D=>by
  rw[bW (L:=yJ),Wh rfl rfl rfl rfl];rw[List.drop_of_length_le (by omega),show iO b s cx acc []=(⟨b,s,cx,acc,[],[],0⟩,0)from by simp[iO,hV]]at D;exact ci (by simp only[len];omega) D
 |d+1,k,acc,ae,bl,D=>by
  rw[bW (L:=yJ),Wh rfl rfl rfl rfl,cM];rw[ee (l:=a8) (by omega) (z.H (.list .int))]at D;obtain⟨w,b8⟩:∃w,nth a8 k (z.H (.list .int))=w:=⟨_,rfl⟩
  rw[b8]at D |-;obtain⟨r,aw⟩:∃r,a8.drop (k+1)=r:=⟨_,rfl⟩
  refine cV (by simp only[len];omega) ⟨⟨by omega,by simp only[len];omega⟩,ay,?_⟩
  by_cases I:(gH b w).2=0
  ·refine k0 I (cI (fun G=>?_) (fun G=>bG (fun h=>absurd I h) (fun _=>bG (fun Y=>?_) (fun Y=>⟨by simp only[len,List.length_cons,List.length_nil];omega,?_⟩))))
   ·rw[show iO b s cx acc (w::a8.drop (k+1))=(iY,5)from by simp[iO,hV,I,G]]at D;exact D
   ·rw[show iO b s cx acc (w::a8.drop (k+1))=(iY,(lH w (gH b w).1).2)from by simp[iO,hV,I,G,Y]]at D;exact D
   ·rw[show iO b s cx acc (w::a8.drop (k+1))=iO b s cx (acc++[(lH w (gH b w).1).1]) (a8.drop (k+1))from by
     rw[aw]
     by_cases aS:(hV b r).2=0
     ·simp[iO,hV,I,G,Y,aS]
     ·simp[iO,hV,I,G,Y,aS]]at D
    rw[di (by omega)];exact Ul b s cx a8 ay hi K d (k+1) (acc++[(lH w (gH b w).1).1]) (by omega) (by simp;omega) D
  ·refine iV I (bG (fun h=>?_) (fun h=>absurd h I));rw[show iO b s cx acc (w::a8.drop (k+1))=(iY,(gH b w).2)from by simp[iO,hV,I]]at D;exact D
theorem Ym:bo 6 C4:=b2 (Γ:=OC) 0 ((((((((bn.f akH).f ajM).f NI).f X5).f X4).f ajY).f M9).f Fy) Tryz.func6 (by kernel_rfl) fun vs au=>by
 unfold C4;split;rotate_left;trivial;rename_i b s fM fg rt a8;refine⟨by kernel_rfl,fun ad K D=>?_⟩;refine⟨a8.length+2,?_⟩;obtain⟨aC,cT⟩:∃aC,aC=jo ⟨fM,fg,rt⟩ (len a8:Int):=⟨_,rfl⟩
 refine cf (fun rec=>(by subst cT;kernel_rfl:_=(
  J (!(ar (fq b) 0))
  (K (.ao [.agg fk,.one (A (fq b))]) [])
  (J (!(ar (hO s) 0))
  (K (.ao [.agg fk,.one (A (hO s))]) [])
  (len fg*8<=140737488355328 /\
  J (!(ar aC.snd 0))
  (K (.ao [.agg fk,.one (A aC.snd)]) [])
  (len b*16<=140737488355328 /\
  len s*16<=140737488355328 /\
  rec yJ (Mf 0 (len a8:Int) a8 0 b s aC.fst.f.words aC.fst.f.fuel aC.fst.up aC.fst.t.r.version aC.fst.t.r.keys aC.fst.t.r.dV aC.fst.t.version aC.fst.cH aC.fst.did 0 0 false 0 0 0 0 b [] [] [] [] [] [] [] [] [] [] [] []))))))) ?_
 subst cT;unfold oU at D;refine bG (fun h=>?_) (fun h=>bG (fun G=>?_) (fun G=>⟨ad,bG (fun Y=>?_) (fun Y=>?_)⟩))
 ·rw[if_neg h]at D;exact D
 ·rw[if_pos h,if_neg G]at D;exact D
 ·rw[if_pos h,if_pos G,if_neg (show ¬(jo ⟨fM,fg,rt⟩ a8.length).2=0 from Y)]at D;exact D
 ·have ay:=pg h;have av:=Ag G;have hi:=UO Y;rw[if_pos h,if_pos G,if_pos (show(jo ⟨fM,fg,rt⟩ a8.length).2=0 from Y)]at D;refine⟨by simp only[len];omega,by simp only[len];omega,?_⟩;refine Ul b s (jo ⟨fM,fg,rt⟩ a8.length).1 a8 (by omega) (by simp only[len]at hi;omega) K a8.length 0 [] (by omega) (Nat.le_refl _) ?_;exact D

def w8:a7
 |[.agg [.E (.list .str) l]],[]=>some (none,.one (A (fq l)),[])
 |_,_=>none
def N9:Ctx:=[(98,Iq)]
def x0:List cu:=[.inLoop [12,11,10,2,1] (Code.sub (bR Tryz.f28) [1,1,0,1,0,0]),.inBlock 0,.code (Code.sub (bR Tryz.f28) [1,1,1])]
def Ln(F ai:Int)(M:cD)(ag:Int)(an:cD):bO:=⟨[(12,.one (A F)),(11,.one (A ai)),(10,.one (.E (z.list z.str) M)),(2,.one (A ag)),(1,.one (.ptr 0 0))],[(0,.box [.E (z.list z.str) an])],1⟩
theorem Vo{F:Int}{rec:bV}{K:aU}{ai M ag an}{v1 v0}(b9:v1=fun a=>Ln a ai M ag an)(bX:v0=ev (nth M (Int.toNat F) (z.H z.str)) an):b5 N9 tab Tryz.f28 0 K rec (cU x0) (v1 F)=(
 J (aL F ai)
 (((0:Int)<=F/\F<(len M:Int)) /\
 J (aL 2000 (len (nth M (Int.toNat F) (z.H z.str)):Int))
 (K (.one (A 2)) [])
 (List.length an<=140737488355328 /\
 J (aL v0 F)
 (K (.one (A 6)) [])
 (rec x0 (v1 (U (F+1))))))
 (K (.one (A 0)) [])):=by subst_vars;kernel_rfl

theorem TL(l:cD)(az:l.length<=60)(K:aU):∀(d k:Nat),k+d=l.length->K (.one (A (w4 (l.take k) (l.drop k)))) [] ->
  co N9 tab Tryz.f28 0 K (d+1) x0 (Ln (k:Int) (((len l):Nat):Int) l 0 l)
 |0,k,ae,D=>by
  rw[bW (L:=x0),Vo rfl rfl];rw[List.drop_of_length_le (by omega)]at D;exact ci (by simp only[len];omega) D
 |d+1,k,ae,D=>by
  rw[bW (L:=x0),Vo rfl rfl,cM];have hi:=aeD (l:=l) (k:=k) (by omega) (rfl:nth l k (z.H z.str)=nth l k (z.H z.str));rw[ee (by omega) (z.H z.str)]at D;simp only[w4]at D;refine cV (by simp only[len];omega) ⟨⟨by omega,by simp only[len];omega⟩,bq (fun h=>?_) (fun h=>⟨by omega,b3 (fun G=>?_) (fun G=>?_)⟩)⟩
  ·rw[if_pos (by simp only[len]at h;omega)]at D;exact D
  ·rw[if_neg (by simp only[len]at h;omega),if_pos (by rw[<- hi];exact G)]at D;exact D
  ·rw[if_neg (by simp only[len]at h;omega),if_neg (by rw[<- hi,G];simp)]at D;rw[di (by omega)];rw[<- iz (by omega) (z.H z.str)]at D;exact TL l az K d (k+1) (by omega) D
theorem Fl:bo 28 w8:=b2 (Γ:=N9) 0 (bn.f NB) Tryz.func28 (by kernel_rfl) fun vs au=>by
 unfold w8;split;rotate_left;trivial;rename_i l;refine⟨by kernel_rfl,fun K D=>?_⟩;refine⟨l.length+2,?_⟩;refine cf (fun rec=>(by kernel_rfl:_=(
  J (aL 60 (len l:Int))
  (K (.one (A 2)) [])
  (rec x0 (Ln 0 (len l:Int) l 0 l))))) ?_
 unfold fq at D;refine bq (fun h=>?_) (fun h=>?_)
 ·rw[if_pos (by simp only[len]at h;omega)]at D;exact D
 ·rw[if_neg (by simp only[len]at h;omega)]at D;exact TL l (by simp only[len]at h;omega) K l.length 0 (by omega) D

def z7:a7
 |[.one (.E (.list .signed) l)],[]=>some (none,.one (A (hO l)),[])
 |_,_=>none
def On:Ctx:=[]
def ym:List cu:=[.inLoop [10,9,8,2] (Code.sub (bR Tryz.f29) [1,1,0,1,0,0]),.inBlock 0,.code (Code.sub (bR Tryz.f29) [1,1,1])]
def LL(F ai:Int)(M:cG)(ag:Int):bO:=⟨[(10,.one (A F)),(9,.one (A ai)),(8,.one (.E (z.list z.signed) M)),(2,.one (A ag))],[],0⟩
theorem VO{F:Int}{rec:bV}{K:aU}{ai M ag}{v0}(bX:v0=fun a=>LL a ai M ag):b5 On tab Tryz.f29 0 K rec (cU ym) (v0 F)=(
 J (aL F ai)
 (((0:Int)<=F/\F<(len M:Int)) /\
 J (aL (nth M (Int.toNat F) (z.H z.signed)).key 1)
 (K (.one (A 3)) [])
 (J (aL 50 (nth M (Int.toNat F) (z.H z.signed)).key)
 (K (.one (A 3)) [])
 (J (aL (nth M (Int.toNat F) (z.H z.signed)).name 1)
 (K (.one (A 3)) [])
 (J (aL 60 (nth M (Int.toNat F) (z.H z.signed)).name)
 (K (.one (A 3)) [])
 (rec ym (v0 (U (F+1))))))))
 (K (.one (A 0)) [])):=by subst_vars;kernel_rfl

theorem T6(l:cG)(az:l.length<=360)(K:aU)(ag:Int):∀(d k:Nat),k+d=l.length->K (.one (A (if (l.drop k).all nm then 0 else 3))) [] ->
  co On tab Tryz.f29 0 K (d+1) ym (LL (k:Int) (((len l):Nat):Int) l ag)
 |0,k,ae,D=>by
  rw[bW (L:=ym),VO rfl];rw[List.drop_of_length_le (by omega)]at D;exact ci (by simp only[len];omega) D
 |d+1,k,ae,D=>by
  rw[bW (L:=ym),VO rfl,cM];rw[ee (by omega) (z.H z.signed)]at D;obtain⟨x,aG⟩:∃x,nth l k (z.H z.signed)=x:=⟨_,rfl⟩
  rw[aG]at D |-;rw[List.all_cons]at D;have bad:¬(1<=x.key/\x.key<=50/\1<=x.name/\x.name<=60)->K (.one (A 3)) []:=fun h=>by
   rw[show nm x=false from by
    cases aA:nm x
    ·rfl
    ·simp only[nm,Bool.and_eq_true,decide_eq_true_eq]at aA;exact absurd aA (by omega)]at D
   exact D
  rw[di (by omega)];refine cV (by simp only[len];omega) ⟨⟨by omega,by simp only[len];omega⟩,bq (fun h=>bad (by omega)) (fun h=>bq (fun G=>bad (by omega)) (fun G=>bq (fun Y=>bad (by omega)) (fun Y=>bq (fun aS=>bad (by omega)) (fun aS=>?_))))⟩;rw[show nm x=true from by simp only[nm,Bool.and_eq_true,decide_eq_true_eq];omega,Bool.true_and]at D;exact T6 l az K ag d (k+1) (by omega) D
theorem Nm:bo 29 z7:=b2 (Γ:=On) 0 bn Tryz.func29 (by kernel_rfl) fun vs au=>by
 unfold z7;split;rotate_left;trivial;rename_i l;refine⟨by kernel_rfl,fun K D=>?_⟩;refine⟨l.length+2,?_⟩;refine cf (fun rec=>(by kernel_rfl:_=(
  J (aL 360 (len l:Int))
  (K (.one (A 2)) [])
  (rec ym (LL 0 (len l:Int) l 0))))) ?_
 unfold hO at D;refine bq (fun h=>?_) (fun h=>?_)
 ·rw[if_pos (by simp only[len]at h;omega)]at D;exact D
 ·rw[if_neg (by simp only[len]at h;omega)]at D;exact T6 l (by simp only[len]at h;omega) K 0 l.length 0 (by omega) D

def zZ:a7
 |[.agg [.E .int v,.E (.list .int) aF,.E .int t]],[]=>some (none,.one (A (gf v aF t)),[])
 |_,_=>none
def Oa:Ctx:=[]
def x2:List cu:=[.inLoop [27,26,25,4,2,1] (Code.sub (bR Tryz.f30) [1,1,1,1,0,1,0,0]),.inBlock 0,.code (Code.sub (bR Tryz.f30) [1,1,1,1,1])]
def Lp(F ai:Int)(M:aK)(ag an aE:Int)(aI:aK)(aV:Int):bO:=⟨[(27,.one (A F)),(26,.one (A ai)),(25,.one (af M)),(4,.one (A ag)),(2,.one (A an)),(1,.one (.ptr 0 0))],[(0,.box [A aE,af aI,A aV])],1⟩
theorem Vq{F ag:Int}{rec:bV}{K:aU}{ai M an aE aI aV}{v0 v1}(bX:v0=fun a b=>Lp a ai M b an aE aI aV)(b9:v1=rec x2 (v0 (U (F+1)) (nth M (Int.toNat F) (z.H z.int)))):b5 Oa tab Tryz.f30 0 K rec (cU x2) (v0 F ag)=(
 J (aL F ai)
 (((0:Int)<=F/\F<(len M:Int)) /\
 J (aL (nth M (Int.toNat F) (z.H z.int)) 1)
 (K (.one (A 3)) [])
 (J (aL 50 (nth M (Int.toNat F) (z.H z.int)))
 (K (.one (A 3)) [])
 (J (aL 0 F)
 (J (dh (nth M (Int.toNat F) (z.H z.int)) ag)
 (K (.one (A 6)) [])
 v1)
 v1)))
 (J (aL aV 1)
 (K (.one (A 4)) [])
 (J (aL (len aI:Int) aV)
 (K (.one (A 4)) [])
 (K (.one (A 0)) [])))):=by subst_vars;kernel_rfl

theorem KI(aF:aK)(v t:Int)(az:aF.length<=6)(K:aU):∀(d k:Nat) (last:Option Int) (ag:Int),k+d=aF.length->((k=0/\last=none)\/(0<k/\last=some ag)) ->
  K (.one (A (zf (l2 last (aF.drop k)) t aF.length))) [] ->
  co Oa tab Tryz.f30 0 K (d+1) x2 (Lp (k:Int) (((len aF):Nat):Int) aF ag 0 v aF t)
 |0,k,last,ag,ae,JY,D=>by
  rw[bW (L:=x2),Vq rfl rfl];rw[List.drop_of_length_le (by omega)]at D;rw[show zf (l2 last []) t aF.length=if t<1\/(aF.length:Int)<t then 4 else 0 from rfl]at D;refine ci (by simp only[len];omega) (bq (fun h=>?_) (fun h=>bq (fun G=>?_) (fun G=>?_)))
  ·rw[if_pos (.inl h)]at D;exact D
  ·rw[if_pos (.inr G)]at D;exact D
  ·rw[if_neg (by simp only[len]at G;omega)]at D;exact D
 |d+1,k,last,ag,ae,JY,D=>by
  rw[bW (L:=x2),Vq rfl rfl,cM];rw[ee (by omega) (z.H z.int)]at D;obtain⟨x,aG⟩:∃x,nth aF k (z.H z.int)=x:=⟨_,rfl⟩
  rw[aG]at D |-;have hF:U ((k:Int)+1)=((k+1:Nat):Int):=di (by omega);rw[hF];refine cV (by simp only[len];omega) ⟨⟨by omega,by simp only[len];omega⟩,bq (fun h=>?_) (fun h=>bq (fun G=>?_) (fun G=>?_))⟩
  ·rw[show l2 last (x::aF.drop (k+1))=3 from if_pos (.inl h)]at D;exact D
  ·rw[show l2 last (x::aF.drop (k+1))=3 from if_pos (.inr G)]at D;exact D
  ·rw[show l2 last (x::aF.drop (k+1))=if n3 last x then 6 else l2 (some x) (aF.drop (k+1))from if_neg (by omega)]at D;refine bq (fun Y=>?_) (fun Y=>?_)
   ·obtain⟨_,rfl⟩:=JY.resolve_left (fun g=>by omega);refine b3 (fun aS=>?_) (fun aS=>?_)
    ·rw[fY]at aS;rw[if_pos (show n3 (some ag) x=true from decide_eq_true aS)]at D;exact D
    ·rw[eL]at aS;rw[if_neg (show ¬n3 (some ag) x=true from by simp only[n3,decide_eq_true_eq];omega)]at D;exact KI aF v t az K d (k+1) (some x) x (by omega) (.inr ⟨by omega,rfl⟩) D
   ·obtain⟨_,rfl⟩:=JY.resolve_right (fun g=>by omega);rw[if_neg (show ¬n3 none x=true from by simp[n3])]at D;exact KI aF v t az K d (k+1) (some x) x (by omega) (.inr ⟨by omega,rfl⟩) D
theorem Fo:bo 30 zZ:=b2 (Γ:=Oa) 0 bn Tryz.func30 (by kernel_rfl) fun vs au=>by
 unfold zZ;split;rotate_left;trivial;rename_i v aF t;refine⟨by kernel_rfl,fun K D=>?_⟩;refine⟨aF.length+2,?_⟩;refine cf (fun rec=>(by kernel_rfl:_=(
  J (aL v 1)
  (K (.one (A 3)) [])
  (J (aL 1000 v)
  (K (.one (A 3)) [])
  (J (aL (len aF:Int) 1)
  (K (.one (A 2)) [])
  (J (aL 6 (len aF:Int))
  (K (.one (A 2)) [])
  (rec x2 (Lp 0 (len aF:Int) aF 0 0 v aF t)))))))) ?_
 unfold gf at D;refine bq (fun h=>?_) (fun h=>bq (fun G=>?_) (fun G=>bq (fun Y=>?_) (fun Y=>bq (fun aS=>?_) (fun aS=>?_))))
 ·rw[if_pos (.inl h)]at D;exact D
 ·rw[if_pos (.inr G)]at D;exact D
 ·rw[if_neg (by omega),if_pos (by simp only[len]at Y;omega)]at D;exact D
 ·rw[if_neg (by omega),if_pos (by simp only[len]at aS;omega)]at D;exact D
 ·rw[if_neg (by omega),if_neg (by simp only[len]at Y aS;omega)]at D;exact KI aF v t (by simp only[len]at aS;omega) K aF.length 0 none 0 (by omega) (.inl ⟨rfl,rfl⟩) D

def CT:a7
 |[.one (.E (.list .int) [x]),.one (.E .int n)],[]=>some (some (0<=n/\n<=1000000),.one (.own 0),[.arr .int (bZ n.toNat x)])
 |_,_=>none
def Cl:Ctx:=[(157,C2),(99,C3)]
theorem afK:fr Tryz.prog tab Cl:=((bn.f Ns).f ⟨⟨_,Tryz.func157,(by kernel_rfl)⟩,Yb⟩)
def yl:List cu:=[.inLoop [8,7,4] (cy nN [1,1,1,1,1,1,0,0,0]),.inBlock 0,.code (cy nN [1,1,1,1,1,1,1])]
def EN(F:Int)(ai M:aK):bO:=⟨[(8,.one (A F)),(7,.one (.own 0)),(4,.one (.own 1))],[(0,.arr z.int ai),(1,.arr z.int M)],2⟩
theorem ahp(x n:Int)(rec:bV)(K:aU) v0 (bX:v0=pX (len (x::[]):Int)) v1 (b9:v1=sJ v0) aC (cT:aC=pX n) v3 (ed:v3=sJ aC):js Cl tab nN 0 K rec [.code (bR nN)] (df [.one (af (x::[])),.one (A n)] [])=(
 J (aL n 0)
 (False)
 ((v1=true/\v3=true) /\
 J (aL 0 ((v0*aC)/iQ))
 (False)
 (J (aL 9223372036854775807 ((v0*aC)%iQ))
 (False)
 (((0:Int)<=U ((v0*aC)%iQ)/\U ((v0*aC)%iQ)*((8:Nat):Int)<=140737488355328/\U ((v0*aC)%iQ)<=140737488355328) /\
 rec yl (EN (((min (len (bZ (Int.toNat (U ((v0*aC)%iQ))) (z.H z.int))) (len (x::[]))):Nat):Int) (put (bZ (Int.toNat (U ((v0*aC)%iQ))) (z.H z.int)) 0 (aW (x::[]) 0 (min (len (bZ (Int.toNat (U ((v0*aC)%iQ))) (z.H z.int))) (len (x::[]))))) []))))):=by subst_vars;kernel_rfl
theorem VM{F:Int}{ai M:aK}{rec:bV}{K:aU}:js Cl tab nN 0 K rec (cU yl) (EN F ai M)=(
 J (aL F (len ai:Int))
 (((0:Int)<=F/\F<=(len ai:Int)/\(len ai:Int)<=(len ai:Int)) /\
 ((0:Int)<=(0:Int)/\(0:Int)<=F/\F<=(len ai:Int)) /\
 (Int.toNat 0+Int.toNat (F-0)<=len ai/\Int.toNat F+Int.toNat ((len ai:Int)-F)<=len ai) /\
 rec yl (EN (U (F+(((min (Int.toNat ((len ai:Int)-F)) (len (aW ai (Int.toNat 0) (Int.toNat 0+Int.toNat (F-0))))):Nat):Int))) (put ai (Int.toNat F) (aW (aW ai (Int.toNat 0) (Int.toNat 0+Int.toNat (F-0))) 0 (min (Int.toNat ((len ai:Int)-F)) (len (aW ai (Int.toNat 0) (Int.toNat 0+Int.toNat (F-0))))))) M))
 (K (.one (.own 0)) [.arr z.int ai])):=by kernel_rfl

theorem T4(x:Int)(n:Nat)(aq:n<=1000000)(K:aU)(D:K (.one (.own 0)) [.arr .int (bZ n x)]):∀(d k:Nat),n<=k+d->k<=n->(0<n->0<k) ->
  h4 Cl tab nN 0 K (d+1) yl (EN (k:Int) (List.replicate k x++List.replicate (n-k) 0) [])
 |0,k,bH,ae,ad=>by
  rw[jS (L:=yl),VM ];have e:k=n:=by omega
  subst e;refine ci (by simp[len]) ?_;simpa[bZ]using D
 |d+1,k,bH,ae,ad=>by
  rw[jS (L:=yl),VM ];have az:len (List.replicate k x++List.replicate (n-k) (0:Int))=n:=by simp[len];omega
  rw[az]
  by_cases c:k<n
  ·refine cV (by omega) ⟨⟨by omega,by omega,by omega⟩,⟨by omega,by omega,by omega⟩,⟨by omega,by omega⟩,?_⟩;have aN:aW (List.replicate k x++List.replicate (n-k) (0:Int)) (Int.toNat 0) (Int.toNat 0+Int.toNat ((k:Int)-0))=List.replicate k x:=by
    rw[show Int.toNat 0+Int.toNat ((k:Int)-0)=k by omega];unfold aW;rw[List.take_left' (by simp)];simp
   rw[aN];have aX:len (List.replicate k x)=k:=by simp[len]
   rw[aX];generalize aT:min (Int.toNat ((n:Int)-(k:Int))) k=j;have AU:j=min (n-k) k:=by omega
   have cS:aW (List.replicate k x) 0 j=List.replicate j x:=by
    unfold aW;rw[List.take_replicate];simp;omega
   rw[cS,cM,EL x n k j,cb (by omega) (by omega),show(k:Int)+(j:Int)=((k+j:Nat):Int)by omega];exact T4 x n aq K D d (k+j) (by have:=ad (by omega);omega) (by omega) (fun h=>by have:=ad h;omega)
  ·have e:k=n:=by omega
   subst e;refine ci (by omega) ?_;simpa[bZ]using D
theorem aiH(ad:0<=n/\n<=1000000)(K:aU)(D:K (.one (.own 0)) [.arr .int (bZ n.toNat x)]):OR Cl nN 0 K [.one (af [x]),.one (A n)] []:=by
 obtain⟨I,G⟩:=ad;refine⟨n.toNat+2,?_⟩;rw[qn,ahp _ _ _ _ _ rfl _ rfl _ rfl _ rfl];have aN:pX (((len (x::[])):Nat):Int)=1:=by simp only[len,List.length_cons,List.length_nil];exact FE (by omega) (by omega)
 rw[aN,FE (n:=n) I (by omega),Int.one_mul];have aX:n/iQ=0:=by unfold iQ;omega
 have cS:n%iQ=n:=by unfold iQ;omega
 rw[aX,cS,cb (by omega) (by omega)];refine ci I ⟨⟨Ef (by omega) (by omega),Ef I (by omega)⟩,ci (by omega) (ci (by omega) ⟨⟨I,by omega,by omega⟩,?_⟩)⟩;obtain⟨k,rfl⟩:=Int.eq_ofNat_of_zero_le I;rw[cM]at D |-;have lz:len (bZ k (z.H z.int))=k:=by simp[len,bZ]
 rw[lz];have:=T4 x k (by omega) K D k (min k 1) (by omega) (by omega) (by omega);have m8:put (bZ k (z.H z.int)) 0 (aW (x::[]) 0 (min k (len (x::[]))))=List.replicate (min k 1) x++List.replicate (k-min k 1) 0:=by
  have h:=EL x k 0 (min k 1);rw[Nat.zero_add]at h;rw[<- h];have:aW (x::[]) 0 (min k (len (x::[])))=List.replicate (min k 1) x:=by
   simp only[len,List.length_cons,List.length_nil,aW];cases k with
   |zero=>simp
   |succ k=>rw[show min (k+1) (0+1)=1 by omega];rfl
  rw[this];rfl
 rw[m8,show min k (len (x::[]))=min k 1 from rfl];exact this
theorem XZ:bo 99 CT:=hj afK Tryz.func99 (by kernel_rfl) (by
 intro vs au p v du h ad;unfold CT at h;split at h
 ·cases h;exact⟨by kernel_rfl,rfl,.inr (.inl (aiH _ _ ad.1 _ ⟨rfl,rfl⟩))⟩
 ·cases h)

def Hq:a7
 |[.agg [.E .int fM,.E (.list .int) fg,.E .int rt],.one (.E .int units)],[]=>some (some (1<=units/\units<=4/\gf fM fg rt=0),.agg (jg (jo ⟨fM,fg,rt⟩ units).1),[])
 |_,_=>none
def Oq:Ctx:=[(99,CT)]
theorem afM:fr Tryz.prog tab Oq:=(bn.f XZ)
theorem ahs(fM:Int)(fg:aK)(rt units:Int)(rec:bV)(K:aU):b5 Oq tab Tryz.f31 0 K rec [.code (bR Tryz.f31)] (df [.agg [A fM,af fg,A rt],.one (A units)] [])=(
 ((0:Int)<=(64:Int)/\(64:Int)<=(1000000:Int)) /\
 ((0:Int)<=(0:Int)/\(0:Int)<(len (bZ (Int.toNat 64) (65535:Int)):Int)) /\
 Int.toNat 0<len (bZ (Int.toNat 64) (65535:Int)) /\
 ((0:Int)<=units/\units*((1:Nat):Int)<=140737488355328/\units<=140737488355328) /\
 ((0:Int)<=units/\units*((1:Nat):Int)<=140737488355328/\units<=140737488355328) /\
 K (.agg [af (setAt (bZ (Int.toNat 64) (65535:Int)) (Int.toNat 0) (1:Int)),A (-1),ax true,A fM,af fg,A rt,A (0:Int),bh (bZ (Int.toNat units) (z.H z.bool)),bh (bZ (Int.toNat units) (z.H z.bool))]) []):=by kernel_rfl

theorem aiK(ad:1<=units/\units<=4/\gf fM fg rt=0)(K:aU)(D:K (.agg (jg (jo ⟨fM,fg,rt⟩ units).1)) []):∃m,co Oq tab Tryz.f31 0 K m [.code (bR Tryz.f31)] (df [.agg [A fM,af fg,A rt],.one (A units)] []):=by
 refine⟨1,?_⟩;rw[eB,ahs _ _ _ _ _ _];rw[KY ad.1 ad.2.1 ad.2.2]at D;unfold uf at D;rw[abn]at D;have Bf:len (bZ (Int.toNat (64:Int)) (65535:Int))=64:=by unfold len bZ;rw[List.length_replicate];rfl
 rw[Bf];exact⟨by omega,⟨by omega,by omega⟩,by decide,⟨by omega,by omega,by omega⟩,⟨by omega,by omega,by omega⟩,D⟩
theorem akj:bo 31 Hq:=hj afM Tryz.func31 (by kernel_rfl) (by
 intro vs au p v du h ad;unfold Hq at h;split at h
 ·cases h;exact⟨by kernel_rfl,rfl,.inl (aiK _ _ _ _ ad.1 _ ⟨rfl,rfl⟩)⟩
 ·cases h)

def PZ:a7
 |[.one (.E (.list .int) l)],[]=>some (some (eW l),.one (ax (cC l)),[])
 |_,_=>none

theorem BX:bo 100 PZ:=b2 0 ((bn.f Nb).f Nh) Tryz.func100 (by kernel_rfl) fun vs au=>by
 unfold PZ;split;rotate_left;trivial;rename_i l;refine⟨by kernel_rfl,fun ad K D=>?_⟩;refine⟨1,?_⟩;refine cf (fun rec=>(by kernel_rfl:_=(
  List.length l<=140737488355328 /\
  K (.one (ax (!(!(cC l))))) []))) ?_
 refine⟨ad,?_⟩;rw[Bool.not_not];exact D

def z1:a7
 |[.one (.E (.list .int) l)],[]=>some (none,.one (A (fv l)),[])
 |_,_=>none

theorem M6:bo 32 z1:=b2 0 (bn.f BX) Tryz.func32 (by kernel_rfl) fun vs au=>by
 unfold z1;split;rotate_left;trivial;rename_i l;refine⟨by kernel_rfl,fun K D=>?_⟩;refine⟨1,?_⟩;refine cf (fun rec=>(by kernel_rfl:_=(
  J (aL (len l:Int) 1)
  (K (.one (A 2)) [])
  (J (aL 40 (len l:Int))
  (K (.one (A 2)) [])
  (List.length l<=140737488355328 /\
  J (!(cC l))
  (K (.one (A 3)) [])
  (K (.one (A 0)) [])))))) ?_
 unfold fv at D;refine bq (fun h=>?_) (fun h=>bq (fun G=>?_) (fun G=>⟨by simp only[len]at G;omega,ew (fun Y=>?_) (fun Y=>?_)⟩))
 ·rw[if_pos (by simp only[len]at h;omega)]at D;exact D
 ·rw[if_pos (by simp only[len]at G;omega)]at D;exact D
 ·rw[if_neg (by simp only[len]at h G;omega),if_neg (by rw[Y];simp)]at D;exact D
 ·rw[if_neg (by simp only[len]at h G;omega),if_pos Y]at D;exact D

def zY:a7
 |[.agg [.E (.list .str) l],.one (.E .str s)],[]=>some (some (l.length<=60),.one (A (ev s l+1)),[])
 |_,_=>none
def FU:Ctx:=[]
def x1:List cu:=[.inLoop [10,9,8,4,1] (Code.sub (bR Tryz.f33) [1,0,1,0,0]),.inBlock 0,.code (Code.sub (bR Tryz.f33) [1,1])]
def Lo(F ai:Int)(M:cD)(ag:Int)(an:jM):bO:=⟨[(10,.one (A F)),(9,.one (A ai)),(8,.one (.E (z.list z.str) M)),(4,.one (A ag)),(1,.one (.E z.str an))],[],0⟩
theorem agZ(l:cD)(s:jM)(rec:bV)(K:aU):b5 FU tab Tryz.f33 0 K rec [.code (bR Tryz.f33)] (df [.agg [.E (z.list z.str) l],.one (.E z.str s)] [])=(
 rec x1 (Lo 0 (len l:Int) l 0 s)):=by kernel_rfl
theorem Vp{F:Int}{rec:bV}{K:aU}{ai M ag an}{v0}(bX:v0=fun a=>Lo a ai M ag an):b5 FU tab Tryz.f33 0 K rec (cU x1) (v0 F)=(
 J (aL F ai)
 (((0:Int)<=F/\F<(len M:Int)) /\
 J (eqs (nth M (Int.toNat F) (z.H z.str)) an)
 (K (.one (A (U (F+1)))) [])
 (rec x1 (v0 (U (F+1)))))
 (K (.one (A 0)) [])):=by subst_vars;kernel_rfl

theorem TM(l:cD)(s:jM)(az:l.length<=60)(K:aU):∀(d k:Nat),k+d=l.length->K (.one (A (hT k s (l.drop k)+1))) [] ->
  co FU tab Tryz.f33 0 K (d+1) x1 (Lo (k:Int) (((len l):Nat):Int) l 0 s)
 |0,k,ae,D=>by
  rw[bW (L:=x1),Vp rfl];rw[List.drop_of_length_le (by omega)]at D;exact ci (by simp only[len];omega) D
 |d+1,k,ae,D=>by
  rw[bW (L:=x1),Vp rfl,cM,di (by omega)];rw[ee (by omega) (z.H z.str)]at D;simp only[hT]at D;refine cV (by simp only[len];omega) ⟨⟨by omega,by simp only[len];omega⟩,b3 (fun h=>?_) (fun h=>?_)⟩
  ·rw[I5]at h;rw[if_pos h]at D;exact D
  ·rw[I4]at h;rw[if_neg h]at D;exact TM l s az K d (k+1) (by omega) D
theorem Fm:bo 33 zY:=b2 (Γ:=FU) 0 bn Tryz.func33 (by kernel_rfl) fun vs au=>by
 unfold zY;split;rotate_left;trivial;rename_i l s;refine⟨by kernel_rfl,fun ad K D=>?_⟩;refine⟨l.length+2,?_⟩;rw[eB,agZ _ _ _ _];exact TM l s ad K l.length 0 (by omega) D

def GH:a7
 |[.one (.E (.list .int) l)],[]=>some (some (len l<=1000/\j1 l=true),.one (.E .str (fO l)),[])
 |_,_=>none
def FV:Ctx:=[(160,Ac)]
def v2:List cu:=[.inLoop [8,7,6,3,2] (Code.sub (bR Tryz.f101) [1,1,0,1,0,0]),.inBlock 0,.code (Code.sub (bR Tryz.f101) [1,1,1])]
def Lr(F ai:Int)(M:aK)(ag an:jM):bO:=⟨[(8,.one (A F)),(7,.one (A ai)),(6,.one (af M)),(3,.one (.E z.str ag)),(2,.one (.E z.str an))],[],0⟩
theorem ag0(l:aK)(rec:bV)(K:aU):b5 FV tab Tryz.f101 0 K rec [.code (bR Tryz.f101)] (df [.one (af l)] [])=(
 rec v2 (Lr 0 (len l:Int) l [] [])):=by kernel_rfl
theorem Vs{F:Int}{ag:jM}{rec:bV}{K:aU}{ai M an}{v1 v0}(b9:v1=fun a b=>Lr a ai M b an)(bX:v0=fZ (nth M (Int.toNat F) (z.H z.int))):b5 FV tab Tryz.f101 0 K rec (cU v2) (v1 F ag)=(
 J (aL F ai)
 (((0:Int)<=F/\F<(len M:Int)) /\
 J (aL 0 F)
 (len ag+len ((32:UInt8)::[])<=140737488355328 /\
 ((0:Int)<=nth M (Int.toNat F) (z.H z.int)/\nth M (Int.toNat F) (z.H z.int)<=9223372036854775807) /\
 len (cat ag ((32:UInt8)::[]))+len v0<=140737488355328 /\
 rec v2 (v1 (U (F+1)) (cat (cat ag ((32:UInt8)::[])) v0)))
 (((0:Int)<=nth M (Int.toNat F) (z.H z.int)/\nth M (Int.toNat F) (z.H z.int)<=9223372036854775807) /\
 len ag+len v0<=140737488355328 /\
 rec v2 (v1 (U (F+1)) (cat ag v0))))
 (K (.one (.E z.str ag)) [])):=by subst_vars;kernel_rfl

theorem KJ(l:aK)(az:l.length<=1000)(aq:j1 l=true)(K:aU)(D:K (.one (.E .str (fO l))) [])(y:jM):∀(d k:Nat),k+d=l.length ->
  co FV tab Tryz.f101 0 K (d+1) v2 (Lr (k:Int) (((len l):Nat):Int) l (fO (l.take k)) y)
 |0,k,ae=>by
  rw[bW (L:=v2),Vs rfl rfl,List.take_of_length_le (by omega)];exact ci (by simp only[len];omega) D
 |d+1,k,ae=>by
  rw[bW (L:=v2),Vs rfl rfl,cM];have aB:nth l k (z.H z.int)∈l:=by
   have:k<l.length:=by omega
   simp[nth,List.getD_eq_getElem?_getD,this]
  have bm:=iz (l:=l) (k:=k) (by omega) (z.H z.int);have a2:=sL (l.take k);have lX:(l.take k).length=k:=by rw[List.length_take];omega
  obtain⟨x,aG⟩:∃x,nth l k (z.H z.int)=x:=⟨_,rfl⟩
  rw[aG]at aB bm |-;have I:=List.all_eq_true.1 aq _ aB;have G:=um x;simp only[Bool.and_eq_true,decide_eq_true_eq]at I;have hF:U ((k:Int)+1)=((k+1:Nat):Int):=di (by omega);rw[hF];refine cV (by simp only[len];omega) ⟨⟨by omega,by simp only[len];omega⟩,bq (fun Y=>?_) (fun Y=>?_)⟩
  ·refine⟨by simp only[len,List.length_cons,List.length_nil];omega,I,by simp only[len,cat,List.length_append,List.length_cons,List.length_nil];omega,?_⟩;rw[show cat (cat (fO (l.take k)) [32]) (fZ x)=fO (l.take (k+1))from by rw[bm,aeV (by intro e;rw[e]at lX;simp at lX;omega)];rfl];exact KJ l az aq K D y d (k+1) (by omega)
  ·have:k=0:=by omega
   subst this;refine⟨I,by simp only[len];omega,?_⟩;rw[show cat (fO (l.take 0)) (fZ x)=fO (l.take (0+1))from by rw[bm];rfl];exact KJ l az aq K D y d (0+1) (by omega)
theorem M7:bo 101 GH:=b2 (Γ:=FV) 0 (bn.f ⟨⟨_,Tryz.func160,(by kernel_rfl)⟩,Fx⟩) Tryz.func101 (by kernel_rfl) fun vs au=>by
 unfold GH;split;rotate_left;trivial;rename_i l;refine⟨by kernel_rfl,fun ad K D=>?_⟩;refine⟨l.length+2,?_⟩;rw[eB,ag0 _ _ _];exact KJ l ad.1 ad.2 K D [] l.length 0 (by omega)

def CK:a7
 |[.one (.E (.list .int) l)],[]=>some (some (fv l=0),.one (.E .str (kk l)),[])
 |_,_=>none

theorem M8:bo 34 CK:=b2 0 (bn.f M7) Tryz.func34 (by kernel_rfl) fun vs au=>by
 unfold CK;split;rotate_left;trivial;rename_i l;refine⟨by kernel_rfl,fun ad K D=>?_⟩;refine⟨1,?_⟩;refine cf (fun rec=>(by kernel_rfl:_=(
  (len l<=1000/\j1 l=true) /\
  len ((105:UInt8)::(109:UInt8)::(97:UInt8)::(103:UInt8)::(101:UInt8)::(32:UInt8)::[])+len (fO l)<=140737488355328 /\
  K (.one (.E z.str (cat ((105:UInt8)::(109:UInt8)::(97:UInt8)::(103:UInt8)::(101:UInt8)::(32:UInt8)::[]) (fO l)))) []))) ?_
 obtain⟨I,G,Y⟩:=r8 ad;have gD:=sL l;exact⟨⟨by simp only[len];omega,US Y⟩,by simp only[len,List.length_cons,List.length_nil];omega,D⟩

def Hg:a7
 |[.one (.E (.list .int) l),.one (.E .int name)],[]=>some (some (fv l=0/\1<=name/\name<=60),.agg (fJ (lH l name).1),[])
 |_,_=>none
def Om:Ctx:=[(99,CT)]
theorem afL:fr Tryz.prog tab Om:=(bn.f XZ)
theorem ahr(l:aK)(name:Int)(rec:bV)(K:aU):b5 Om tab Tryz.f35 0 K rec [.code (bR Tryz.f35)] (df [.one (af l),.one (A name)] [])=(
 ((0:Int)<=(192:Int)/\(192:Int)<=(1000000:Int)) /\
 ((0:Int)<=(0:Int)/\(0:Int)<(len (bZ (Int.toNat 192) (65535:Int)):Int)) /\
 Int.toNat 0<len (bZ (Int.toNat 192) (65535:Int)) /\
 ((0:Int)<=(1:Int)/\(1:Int)<=(((len (setAt (bZ (Int.toNat 192) (65535:Int)) (Int.toNat 0) (1:Int))):Nat):Int)/\(((len (setAt (bZ (Int.toNat 192) (65535:Int)) (Int.toNat 0) (1:Int))):Nat):Int)<=(((len (setAt (bZ (Int.toNat 192) (65535:Int)) (Int.toNat 0) (1:Int))):Nat):Int)) /\
 Int.toNat 1+Int.toNat ((((len (setAt (bZ (Int.toNat 192) (65535:Int)) (Int.toNat 0) (1:Int))):Nat):Int)-(1:Int))<=len (setAt (bZ (Int.toNat 192) (65535:Int)) (Int.toNat 0) (1:Int)) /\
 ((0:Int)<=(64:Int)/\(64:Int)<=(((len (put (setAt (bZ (Int.toNat 192) (65535:Int)) (Int.toNat 0) (1:Int)) (Int.toNat 1) (aW ((42243:Int)::(1:Int)::(0:Int)::(0:Int)::[]) 0 (min (Int.toNat ((((len (setAt (bZ (Int.toNat 192) (65535:Int)) (Int.toNat 0) (1:Int))):Nat):Int)-(1:Int))) (len ((42243:Int)::(1:Int)::(0:Int)::(0:Int)::[])))))):Nat):Int)/\(((len (put (setAt (bZ (Int.toNat 192) (65535:Int)) (Int.toNat 0) (1:Int)) (Int.toNat 1) (aW ((42243:Int)::(1:Int)::(0:Int)::(0:Int)::[]) 0 (min (Int.toNat ((((len (setAt (bZ (Int.toNat 192) (65535:Int)) (Int.toNat 0) (1:Int))):Nat):Int)-(1:Int))) (len ((42243:Int)::(1:Int)::(0:Int)::(0:Int)::[])))))):Nat):Int)<=(((len (put (setAt (bZ (Int.toNat 192) (65535:Int)) (Int.toNat 0) (1:Int)) (Int.toNat 1) (aW ((42243:Int)::(1:Int)::(0:Int)::(0:Int)::[]) 0 (min (Int.toNat ((((len (setAt (bZ (Int.toNat 192) (65535:Int)) (Int.toNat 0) (1:Int))):Nat):Int)-(1:Int))) (len ((42243:Int)::(1:Int)::(0:Int)::(0:Int)::[])))))):Nat):Int)) /\
 Int.toNat 64+Int.toNat ((((len (put (setAt (bZ (Int.toNat 192) (65535:Int)) (Int.toNat 0) (1:Int)) (Int.toNat 1) (aW ((42243:Int)::(1:Int)::(0:Int)::(0:Int)::[]) 0 (min (Int.toNat ((((len (setAt (bZ (Int.toNat 192) (65535:Int)) (Int.toNat 0) (1:Int))):Nat):Int)-(1:Int))) (len ((42243:Int)::(1:Int)::(0:Int)::(0:Int)::[])))))):Nat):Int)-(64:Int))<=len (put (setAt (bZ (Int.toNat 192) (65535:Int)) (Int.toNat 0) (1:Int)) (Int.toNat 1) (aW ((42243:Int)::(1:Int)::(0:Int)::(0:Int)::[]) 0 (min (Int.toNat ((((len (setAt (bZ (Int.toNat 192) (65535:Int)) (Int.toNat 0) (1:Int))):Nat):Int)-(1:Int))) (len ((42243:Int)::(1:Int)::(0:Int)::(0:Int)::[]))))) /\
 ((0:Int)<=(68:Int)/\(68:Int)<=(((len (put (put (setAt (bZ (Int.toNat 192) (65535:Int)) (Int.toNat 0) (1:Int)) (Int.toNat 1) (aW ((42243:Int)::(1:Int)::(0:Int)::(0:Int)::[]) 0 (min (Int.toNat ((((len (setAt (bZ (Int.toNat 192) (65535:Int)) (Int.toNat 0) (1:Int))):Nat):Int)-(1:Int))) (len ((42243:Int)::(1:Int)::(0:Int)::(0:Int)::[]))))) (Int.toNat 64) (aW ((len l:Int)::name::U ((65535:Int)-(len l:Int))::U ((65535:Int)-name)::[]) 0 (min (Int.toNat ((((len (put (setAt (bZ (Int.toNat 192) (65535:Int)) (Int.toNat 0) (1:Int)) (Int.toNat 1) (aW ((42243:Int)::(1:Int)::(0:Int)::(0:Int)::[]) 0 (min (Int.toNat ((((len (setAt (bZ (Int.toNat 192) (65535:Int)) (Int.toNat 0) (1:Int))):Nat):Int)-(1:Int))) (len ((42243:Int)::(1:Int)::(0:Int)::(0:Int)::[])))))):Nat):Int)-(64:Int))) (len ((len l:Int)::name::U ((65535:Int)-(len l:Int))::U ((65535:Int)-name)::[])))))):Nat):Int)/\(((len (put (put (setAt (bZ (Int.toNat 192) (65535:Int)) (Int.toNat 0) (1:Int)) (Int.toNat 1) (aW ((42243:Int)::(1:Int)::(0:Int)::(0:Int)::[]) 0 (min (Int.toNat ((((len (setAt (bZ (Int.toNat 192) (65535:Int)) (Int.toNat 0) (1:Int))):Nat):Int)-(1:Int))) (len ((42243:Int)::(1:Int)::(0:Int)::(0:Int)::[]))))) (Int.toNat 64) (aW ((len l:Int)::name::U ((65535:Int)-(len l:Int))::U ((65535:Int)-name)::[]) 0 (min (Int.toNat ((((len (put (setAt (bZ (Int.toNat 192) (65535:Int)) (Int.toNat 0) (1:Int)) (Int.toNat 1) (aW ((42243:Int)::(1:Int)::(0:Int)::(0:Int)::[]) 0 (min (Int.toNat ((((len (setAt (bZ (Int.toNat 192) (65535:Int)) (Int.toNat 0) (1:Int))):Nat):Int)-(1:Int))) (len ((42243:Int)::(1:Int)::(0:Int)::(0:Int)::[])))))):Nat):Int)-(64:Int))) (len ((len l:Int)::name::U ((65535:Int)-(len l:Int))::U ((65535:Int)-name)::[])))))):Nat):Int)<=(((len (put (put (setAt (bZ (Int.toNat 192) (65535:Int)) (Int.toNat 0) (1:Int)) (Int.toNat 1) (aW ((42243:Int)::(1:Int)::(0:Int)::(0:Int)::[]) 0 (min (Int.toNat ((((len (setAt (bZ (Int.toNat 192) (65535:Int)) (Int.toNat 0) (1:Int))):Nat):Int)-(1:Int))) (len ((42243:Int)::(1:Int)::(0:Int)::(0:Int)::[]))))) (Int.toNat 64) (aW ((len l:Int)::name::U ((65535:Int)-(len l:Int))::U ((65535:Int)-name)::[]) 0 (min (Int.toNat ((((len (put (setAt (bZ (Int.toNat 192) (65535:Int)) (Int.toNat 0) (1:Int)) (Int.toNat 1) (aW ((42243:Int)::(1:Int)::(0:Int)::(0:Int)::[]) 0 (min (Int.toNat ((((len (setAt (bZ (Int.toNat 192) (65535:Int)) (Int.toNat 0) (1:Int))):Nat):Int)-(1:Int))) (len ((42243:Int)::(1:Int)::(0:Int)::(0:Int)::[])))))):Nat):Int)-(64:Int))) (len ((len l:Int)::name::U ((65535:Int)-(len l:Int))::U ((65535:Int)-name)::[])))))):Nat):Int)) /\
 Int.toNat 68+Int.toNat ((((len (put (put (setAt (bZ (Int.toNat 192) (65535:Int)) (Int.toNat 0) (1:Int)) (Int.toNat 1) (aW ((42243:Int)::(1:Int)::(0:Int)::(0:Int)::[]) 0 (min (Int.toNat ((((len (setAt (bZ (Int.toNat 192) (65535:Int)) (Int.toNat 0) (1:Int))):Nat):Int)-(1:Int))) (len ((42243:Int)::(1:Int)::(0:Int)::(0:Int)::[]))))) (Int.toNat 64) (aW ((len l:Int)::name::U ((65535:Int)-(len l:Int))::U ((65535:Int)-name)::[]) 0 (min (Int.toNat ((((len (put (setAt (bZ (Int.toNat 192) (65535:Int)) (Int.toNat 0) (1:Int)) (Int.toNat 1) (aW ((42243:Int)::(1:Int)::(0:Int)::(0:Int)::[]) 0 (min (Int.toNat ((((len (setAt (bZ (Int.toNat 192) (65535:Int)) (Int.toNat 0) (1:Int))):Nat):Int)-(1:Int))) (len ((42243:Int)::(1:Int)::(0:Int)::(0:Int)::[])))))):Nat):Int)-(64:Int))) (len ((len l:Int)::name::U ((65535:Int)-(len l:Int))::U ((65535:Int)-name)::[])))))):Nat):Int)-(68:Int))<=len (put (put (setAt (bZ (Int.toNat 192) (65535:Int)) (Int.toNat 0) (1:Int)) (Int.toNat 1) (aW ((42243:Int)::(1:Int)::(0:Int)::(0:Int)::[]) 0 (min (Int.toNat ((((len (setAt (bZ (Int.toNat 192) (65535:Int)) (Int.toNat 0) (1:Int))):Nat):Int)-(1:Int))) (len ((42243:Int)::(1:Int)::(0:Int)::(0:Int)::[]))))) (Int.toNat 64) (aW ((len l:Int)::name::U ((65535:Int)-(len l:Int))::U ((65535:Int)-name)::[]) 0 (min (Int.toNat ((((len (put (setAt (bZ (Int.toNat 192) (65535:Int)) (Int.toNat 0) (1:Int)) (Int.toNat 1) (aW ((42243:Int)::(1:Int)::(0:Int)::(0:Int)::[]) 0 (min (Int.toNat ((((len (setAt (bZ (Int.toNat 192) (65535:Int)) (Int.toNat 0) (1:Int))):Nat):Int)-(1:Int))) (len ((42243:Int)::(1:Int)::(0:Int)::(0:Int)::[])))))):Nat):Int)-(64:Int))) (len ((len l:Int)::name::U ((65535:Int)-(len l:Int))::U ((65535:Int)-name)::[]))))) /\
 K (.agg [af (put (put (put (setAt (bZ (Int.toNat 192) (65535:Int)) (Int.toNat 0) (1:Int)) (Int.toNat 1) (aW ((42243:Int)::(1:Int)::(0:Int)::(0:Int)::[]) 0 (min (Int.toNat ((((len (setAt (bZ (Int.toNat 192) (65535:Int)) (Int.toNat 0) (1:Int))):Nat):Int)-(1:Int))) (len ((42243:Int)::(1:Int)::(0:Int)::(0:Int)::[]))))) (Int.toNat 64) (aW ((len l:Int)::name::U ((65535:Int)-(len l:Int))::U ((65535:Int)-name)::[]) 0 (min (Int.toNat ((((len (put (setAt (bZ (Int.toNat 192) (65535:Int)) (Int.toNat 0) (1:Int)) (Int.toNat 1) (aW ((42243:Int)::(1:Int)::(0:Int)::(0:Int)::[]) 0 (min (Int.toNat ((((len (setAt (bZ (Int.toNat 192) (65535:Int)) (Int.toNat 0) (1:Int))):Nat):Int)-(1:Int))) (len ((42243:Int)::(1:Int)::(0:Int)::(0:Int)::[])))))):Nat):Int)-(64:Int))) (len ((len l:Int)::name::U ((65535:Int)-(len l:Int))::U ((65535:Int)-name)::[]))))) (Int.toNat 68) (aW l 0 (min (Int.toNat ((((len (put (put (setAt (bZ (Int.toNat 192) (65535:Int)) (Int.toNat 0) (1:Int)) (Int.toNat 1) (aW ((42243:Int)::(1:Int)::(0:Int)::(0:Int)::[]) 0 (min (Int.toNat ((((len (setAt (bZ (Int.toNat 192) (65535:Int)) (Int.toNat 0) (1:Int))):Nat):Int)-(1:Int))) (len ((42243:Int)::(1:Int)::(0:Int)::(0:Int)::[]))))) (Int.toNat 64) (aW ((len l:Int)::name::U ((65535:Int)-(len l:Int))::U ((65535:Int)-name)::[]) 0 (min (Int.toNat ((((len (put (setAt (bZ (Int.toNat 192) (65535:Int)) (Int.toNat 0) (1:Int)) (Int.toNat 1) (aW ((42243:Int)::(1:Int)::(0:Int)::(0:Int)::[]) 0 (min (Int.toNat ((((len (setAt (bZ (Int.toNat 192) (65535:Int)) (Int.toNat 0) (1:Int))):Nat):Int)-(1:Int))) (len ((42243:Int)::(1:Int)::(0:Int)::(0:Int)::[])))))):Nat):Int)-(64:Int))) (len ((len l:Int)::name::U ((65535:Int)-(len l:Int))::U ((65535:Int)-name)::[])))))):Nat):Int)-(68:Int))) (len l)))),A (-1),ax true,A (0:Int),A (0:Int)]) []):=by kernel_rfl

theorem aiJ(ad:fv l=0/\1<=name/\name<=60)(K:aU)(D:K (.agg (fJ (lH l name).1)) []):∃m,co Om tab Tryz.f35 0 K m [.code (bR Tryz.f35)] (df [.one (af l),.one (A name)] []):=by
 obtain⟨e0,fj,g2⟩:=ad;obtain⟨i1,i2,i3⟩:=r8 e0;refine⟨1,?_⟩;rw[eB,ahr _ _ _ _];rw[KZ e0 fj g2]at D;have aaP:setAt (bZ (Int.toNat (192:Int)) (65535:Int)) (Int.toNat (0:Int)) (1:Int)=lC:=rfl;have Bf:len (bZ (Int.toNat (192:Int)) (65535:Int))=192:=by unfold len bZ;rw[List.length_replicate];rfl
 rw[aaP,Bf];have l0:len lC=192:=so;rw[l0];have ia:aW [(42243:Int),1,0,0] 0 (min (Int.toNat (((192:Nat):Int)-(1:Int))) (len [(42243:Int),1,0,0]))=[42243,1,0,0]:=M2 _ _ (by simp[len]);rw[ia,show Int.toNat (1:Int)=1 from rfl];have dI:(put lC 1 [42243,1,0,0]).length=192:=by rw[vZ _ _ _ (by rw[so];simp),so]
 have dY:len (put lC 1 [42243,1,0,0])=192:=dI;rw[dY];rw[cb (n:=65535-((len l:Nat):Int)) (by simp only[len];omega) (by simp only[len];omega),cb (n:=65535-name) (by omega) (by omega)];have iP:aW [((len l:Nat):Int),name,65535-((len l:Nat):Int),65535-name] 0 (min (Int.toNat (((192:Nat):Int)-(64:Int))) (len [((len l:Nat):Int),name,65535-((len l:Nat):Int),65535-name]))=gS l.length name:=M2 _ _ (by simp[len]);rw[iP,show Int.toNat (64:Int)=64 from rfl];have eD:(put (put lC 1 [42243,1,0,0]) 64 (gS l.length name)).length=192:=by rw[vZ _ _ _ (by rw[dI];simp[gS]),dI]
 have gI:len (put (put lC 1 [42243,1,0,0]) 64 (gS l.length name))=192:=eD;rw[gI];have kQ:aW l 0 (min (Int.toNat (((192:Nat):Int)-(68:Int))) (len l))=l:=M2 _ _ (by simp only[len];omega);rw[kQ,show Int.toNat (68:Int)=68 from rfl];refine⟨by omega,⟨by omega,by omega⟩,by omega,⟨by omega,by omega,by omega⟩,by omega,⟨by omega,by omega,by omega⟩,by omega,⟨by omega,by omega,by omega⟩,by omega,D⟩
theorem aj8:bo 35 Hg:=hj afL Tryz.func35 (by kernel_rfl) (by
 intro vs au p v du h ad;unfold Hg at h;split at h
 ·cases h;exact⟨by kernel_rfl,rfl,.inl (aiJ _ _ ad.1 _ ⟨rfl,rfl⟩)⟩
 ·cases h)

def HX:a7
 |[.one (.E .int e)],[]=>some (none,.ao [.agg (kA iY),.one (A e)],[])
 |_,_=>none

theorem akQ:bo 27 HX:=b2 0 bn Tryz.func27 (by kernel_rfl) fun vs au=>by
 unfold HX;split;rotate_left;trivial;rename_i e;refine⟨by kernel_rfl,fun K D=>?_⟩;refine⟨1,?_⟩;refine cf (fun rec=>(by kernel_rfl:_=(
  K (.ao [.agg fk,.one (A e)]) []))) ?_
 exact D

def HY:a7
 |[.agg [.E (.list .str) b],.one (.E (.list .signed) s),.agg [.E .int fM,.E (.list .int) fg,.E .int rt],.one (.E (.list (.list .int)) a8)],[]=>some (none,.ao [.agg (kA (oU b s ⟨fM,fg,rt⟩ a8).1),.one (A (oU b s ⟨fM,fg,rt⟩ a8).2)],[])
 |_,_=>none
def OE:Ctx:=[(28,w8),(29,z7),(30,zZ),(31,Hq),(32,z1),(33,zY),(34,CK),(35,Hg),(27,HX)]
def yT:List cu:=[.inLoop [67,66,65,14,10,9,8,4] (Code.sub (bR Tryz.f7) [1,1,1,1,1,1,1,0,1,0,0]),.inBlock 0,.code (Code.sub (bR Tryz.f7) [1,1,1,1,1,1,1,1])]
def Mq(F ai:Int)(M:cj)(ag:Int)(an:cD)(aE:cG)(aI:aK)(aV:Int)(aZ:Bool)(bd:Int)(bu:aK)(bx br:Int)(bD bM:da)(bJ bP:Int)(bC:Bool)(bT b1 cw cB:Int)(cY:cD)(c6:cZ)(dc:c3)(dz:cF)(dD:cD)(dZ:cG)(ea dB:aK)(dS dF:da)(eo:cZ)(em:c3)(ep:cF):bO:=⟨[(67,.one (A F)),(66,.one (A ai)),(65,.one (ct M)),(14,.one (.ptr 0 0)),(10,.one (.fn 27 [])),(9,.one (A ag)),(8,.one (.ptr 1 0)),(4,.one (.ptr 2 0))],[(0,.box [.E (z.list z.str) an,.E (z.list z.signed) aE,af aI,A aV,ax aZ,A bd,af bu,A bx,A br,bh bD,bh bM,.own 3,.own 4,.own 5,A bJ]),(1,.box [.own 6,.own 7,.own 8,A bP,ax bC,A bT,.own 9,A b1,A cw,.own 10,.own 11,.own 12,.own 13,.own 14,A cB]),(2,.box [.E (z.list z.str) cY]),(3,.arr z.aO c6),(4,.arr z.aP dc),(5,.arr z.message dz),(6,.arr z.str dD),(7,.arr z.signed dZ),(8,.arr z.int ea),(9,.arr z.int dB),(10,.arr z.bool dS),(11,.arr z.bool dF),(12,.arr z.aO eo),(13,.arr z.aP em),(14,.arr z.message ep)],15⟩
theorem Wu{F:Int}{c6:cZ}{rec:bV}{K:aU}{ai M ag an aE aI aV aZ bd bu bx br bD bM bJ bP bC bT b1 cw cB cY dc dz dD dZ ea dB dS dF eo em ep}{v4 v0 v1 aC v3}(e5:v4=fun a b=>Mq a ai M ag an aE aI aV aZ bd bu bx br bD bM bJ bP bC bT b1 cw cB cY b dc dz dD dZ ea dB dS dF eo em ep)(bX:v0=fv (nth M (Int.toNat F) (z.H (z.list z.int))))(b9:v1=kk (nth M (Int.toNat F) (z.H (z.list z.int))))(cT:aC=ev v1 cY)(ed:v3=lH (nth M (Int.toNat F) (z.H (z.list z.int))) (aC+1)):b5 OE tab Tryz.f7 0 K rec (cU yT) (v4 F c6)=(
 J (aL F ai)
 (((0:Int)<=F/\F<(len M:Int)) /\
 J (!(ar v0 0))
 (K (.ao [.agg fk,.one (A v0)]) [])
 (v0=(0:Int) /\
 List.length cY<=60 /\
 J (ar (aC+1) 0)
 (K (.ao [.agg fk,.one (A 5)]) [])
 ((v0=(0:Int)/\(1:Int)<=aC+1/\aC+1<=60) /\
 (len c6+len ((v3.fst:oi)::[]))*56<=140737488355328 /\
 rec yT (v4 (U (F+1)) (cat c6 ((v3.fst:oi)::[]))))))
 (K (.ao [.agg [.E (z.list z.str) an,.E (z.list z.signed) aE,af aI,A aV,ax aZ,A bd,af bu,A bx,A br,bh bD,bh bM,.E (z.list z.aO) c6,.E (z.list z.aP) dc,bs dz,A bJ],.one (A 0)]) [])):=by subst_vars;kernel_rfl

theorem Un(b:cD)(s:cG)(cx:Gate)(a8:cj)(ay:fq b=0)(hi:a8.length<=4)(K:aU):∀(d k:Nat) (acc:cZ),k+d=a8.length->acc.length<=k ->
  K (.ao [.agg (kA (iO b s cx acc (a8.drop k)).1),.one (A (iO b s cx acc (a8.drop k)).2)]) [] ->
  co OE tab Tryz.f7 0 K (d+1) yT (Mq (k:Int) (((len a8):Nat):Int) a8 0 b s cx.f.words cx.f.fuel cx.up cx.t.r.version cx.t.r.keys cx.t.r.dV cx.t.version cx.cH cx.did 0 0 false 0 0 0 0 b acc [] [] [] [] [] [] [] [] [] [] [])
 |0,k,acc,ae,bl,D=>by
  rw[bW (L:=yT),Wu rfl rfl rfl rfl rfl];rw[List.drop_of_length_le (by omega),show iO b s cx acc []=(⟨b,s,cx,acc,[],[],0⟩,0)from by simp[iO,hV]]at D;exact ci (by simp only[len];omega) D
 |d+1,k,acc,ae,bl,D=>by
  rw[bW (L:=yT),Wu rfl rfl rfl rfl rfl,cM];rw[ee (l:=a8) (by omega) (z.H (.list .int))]at D;obtain⟨w,b8⟩:∃w,nth a8 k (z.H (.list .int))=w:=⟨_,rfl⟩
  rw[b8]at D |-;obtain⟨r,aw⟩:∃r,a8.drop (k+1)=r:=⟨_,rfl⟩
  obtain⟨i1,i2⟩:=SZ (kk w) b;have Ph:=pg ay;refine cV (by simp only[len];omega) ⟨⟨by omega,by simp only[len];omega⟩,bG (fun I=>?_) (fun I=>⟨I,Ph,cI (fun G=>?_) (fun G=>⟨⟨I,by omega,by omega⟩,by simp only[len,List.length_cons,List.length_nil];omega,?_⟩)⟩)⟩
  ·have e:gH b w=(0,fv w):=if_neg I;rw[show iO b s cx acc (w::a8.drop (k+1))=(iY,fv w)from by simp[iO,hV,e,I]]at D;exact D
  ·have e:gH b w=(ev (kk w) b+1,0):=(if_pos I).trans (if_pos ay);rw[show iO b s cx acc (w::a8.drop (k+1))=(iY,5)from by simp[iO,hV,e,G]]at D;exact D
  ·have e:gH b w=(ev (kk w) b+1,0):=(if_pos I).trans (if_pos ay);have Y:=KZ (name:=ev (kk w) b+1) I (by omega) (by omega);have RK:(lH w (ev (kk w) b+1)).2=0:=by rw[Y]
   rw[show iO b s cx acc (w::a8.drop (k+1))=iO b s cx (acc++[(lH w (ev (kk w) b+1)).1]) (a8.drop (k+1))from by
    rw[aw]
    by_cases aS:(hV b r).2=0
    ·simp[iO,hV,e,G,RK,aS]
    ·simp[iO,hV,e,G,RK,aS]]at D
   rw[di (by omega)];exact Un b s cx a8 ay hi K d (k+1) (acc++[(lH w (ev (kk w) b+1)).1]) (by omega) (by simp;omega) D
theorem akR:bo 7 HY:=b2 (Γ:=OE) 0 (((((((((bn.f akQ).f aj8).f M8).f Fm).f M6).f akj).f Fo).f Nm).f Fl) Tryz.func7 (by kernel_rfl) fun vs au=>by
 unfold HY;split;rotate_left;trivial;rename_i b s fM fg rt a8;refine⟨by kernel_rfl,fun K D=>?_⟩;refine⟨a8.length+2,?_⟩;obtain⟨v3,ed⟩:∃v3,v3=jo ⟨fM,fg,rt⟩ (len a8:Int):=⟨_,rfl⟩
 refine cf (fun rec=>(by subst ed;kernel_rfl:_=(
  J (!(ar (fq b) 0))
  (K (.ao [.agg fk,.one (A (fq b))]) [])
  (J (!(ar (hO s) 0))
  (K (.ao [.agg fk,.one (A (hO s))]) [])
  (J (aL (len a8:Int) 1)
  (K (.ao [.agg fk,.one (A 3)]) [])
  (J (aL 4 (len a8:Int))
  (K (.ao [.agg fk,.one (A 3)]) [])
  (J (!(ar (gf fM fg rt) 0))
  (K (.ao [.agg fk,.one (A (gf fM fg rt))]) [])
  (((1:Int)<=(len a8:Int)/\(len a8:Int)<=(4:Int)/\gf fM fg rt=(0:Int)) /\
  rec yT (Mq 0 (len a8:Int) a8 0 b s v3.fst.f.words v3.fst.f.fuel v3.fst.up v3.fst.t.r.version v3.fst.t.r.keys v3.fst.t.r.dV v3.fst.t.version v3.fst.cH v3.fst.did 0 0 false 0 0 0 0 b [] [] [] [] [] [] [] [] [] [] [] []))))))))) ?_
 subst ed;unfold oU at D;have li:((len a8:Nat):Int)=(a8.length:Int):=rfl;rw[li];refine bG (fun h=>?_) (fun h=>bG (fun G=>?_) (fun G=>?_))
 ·rw[if_neg h]at D;exact D
 ·rw[if_pos h,if_neg G]at D;exact D
 rw[if_pos h,if_pos G]at D
 by_cases g:(a8.length:Int)<1\/4<(a8.length:Int)
 ·have e:jo ⟨fM,fg,rt⟩ a8.length=(kK,3):=if_pos g;rw[e,if_neg (by decide)]at D;exact bq (fun _=>D) (fun _=>bq (fun _=>D) (fun _=>by omega))
 refine ci (by omega) (ci (by omega) (bG (fun Y=>?_) (fun Y=>⟨⟨by omega,by omega,Y⟩,?_⟩)))
 ·rw[UN (r:=⟨fM,fg,rt⟩) (by omega) (by omega) Y,if_neg Y]at D;exact D
 ·have e:=KY (r:=⟨fM,fg,rt⟩) (units:=a8.length) (by omega) (by omega) Y;rw[if_pos (show(jo ⟨fM,fg,rt⟩ a8.length).2=0 from by rw[e])]at D;refine Un b s (jo ⟨fM,fg,rt⟩ a8.length).1 a8 h (by omega) K a8.length 0 [] (by omega) (Nat.le_refl _) ?_;exact D

def Qm:a7
 |[.agg [.E (.list .int) ws,.E .int fu]],[]=>some (some (eW ws),.one (A (e9 ⟨ws,fu⟩)),[])
 |_,_=>none

theorem akY:bo 161 Qm:=b2 0 (bn.f BX) Tryz.func161 (by kernel_rfl) fun vs au=>by
 unfold Qm;split;rotate_left;trivial;rename_i ws fu;dsimp only[z.den]at ws fu;refine⟨by kernel_rfl,fun ad K D=>?_⟩;refine⟨1,?_⟩;obtain⟨v1,b9⟩:∃v1,v1=J (aL fu (-1))
  (K (.one (A 3)) [])
  (J (aL 100000 fu)
  (K (.one (A 3)) [])
  (List.length ws<=140737488355328 /\
  J (!(cC ws))
  (K (.one (A 3)) [])
  (K (.one (A 0)) []))):=⟨_,rfl⟩
 refine cf (fun rec=>(by subst b9;kernel_rfl:_=(
  J (!(ar (len ws:Int) 32))
  (J (!(ar (len ws:Int) 64))
  (J (!(ar (len ws:Int) 96))
  (J (!(ar (len ws:Int) 128))
  (J (!(ar (len ws:Int) 160))
  (J (!(ar (len ws:Int) 192))
  (K (.one (A 4)) [])
  v1)
  v1)
  v1)
  v1)
  v1)
  v1))) ?_
 subst b9;have ru:kN ws.length=true->J (aL fu (-(1:Int))) (K (.one (A (3:Int))) []) (J (aL (100000:Int) fu) (K (.one (A (3:Int))) []) (((List.length ws)<=140737488355328)/\(J (!(cC ws)) (K (.one (A (3:Int))) []) (K (.one (A (0:Int))) [])))):=fun az=>by
  have three:(decide (-1<=fu)&&decide (fu<=100000)&&cC ws)=false->K (.one (A 3)) []:=fun h=>by
   rw[show e9 ⟨ws,fu⟩=3 from by simp[e9,az,h]]at D;exact D
  refine bq (fun h=>three (by simp;omega)) (fun h=>bq (fun G=>three (by simp;omega)) (fun G=>⟨ad,ew (fun Y=>three (by simp[Y])) (fun Y=>?_)⟩));rw[show e9 ⟨ws,fu⟩=0 from Di az h G Y]at D;exact D
 simp only[len];refine bG (fun I=>bG (fun G=>bG (fun Y=>bG (fun aS=>bG (fun bj=>bG (fun bK=>?_) (fun h=>ru ?_)) (fun h=>ru ?_)) (fun h=>ru ?_)) (fun h=>ru ?_)) (fun h=>ru ?_)) (fun h=>ru ?_)
 ·rw[show e9 ⟨ws,fu⟩=4 from by
   have:kN ws.length=false:=by simp[kN];omega
   simp[e9,this]]at D
  exact D
 all_goals (simp[kN];omega)

def Qy:a7
 |[.agg [.E (.list .int) ws,.E .int _],.one (.E .int dL)],[]=>some (some (0<=dL/\dL<=1/\64<=len ws),.one (A (eU ws dL.toNat)),[])
 |_,_=>none
def OK:Ctx:=[]
theorem af4:fr Tryz.prog tab OK:=bn
theorem ah7(ws:aK)(fu dL:Int)(rec:bV)(K:aU):b5 OK tab Tryz.f194 0 K rec [.code (bR Tryz.f194)] (df [.agg [af ws,A fu],.one (A dL)] [])=(
 ((0:Int)<=U ((32:Int)*dL)/\U ((32:Int)*dL)<(len ws:Int)) /\
 J (!(ar (nth ws (Int.toNat (U ((32:Int)*dL))) (z.H z.int)) 65535))
 (K (.one (A (nth ws (Int.toNat (U ((32:Int)*dL))) (z.H z.int)))) [])
 (K (.one (A 0)) [])):=by kernel_rfl

theorem ai5(ad:0<=dL/\dL<=1/\64<=len ws)(K:aU)(D:K (.one (A (eU ws dL.toNat))) []):∃m,co OK tab Tryz.f194 0 K m [.code (bR Tryz.f194)] (df [.agg [af ws,A fu],.one (A dL)] []):=by
 obtain⟨a2,I,G⟩:=ad;obtain⟨s,rfl⟩:=Int.eq_ofNat_of_zero_le a2;refine⟨1,?_⟩;rw[eB,ah7 _ _ _ _ _,cb (n:=32*(s:Int)) (by omega) (by omega),show Int.toNat (32*(s:Int))=32*s by omega];rw[cM]at D;unfold eU at D;have e:nth ws (32*s) (z.H z.int)=ws.getD (32*s) 0:=rfl;rw[e];refine⟨⟨by omega,by omega⟩,bG (fun h=>?_) (fun h=>?_)⟩
 ·rw[if_neg h]at D;exact D
 ·rw[if_pos h]at D;exact D
theorem alb:bo 194 Qy:=hj af4 Tryz.func194 (by kernel_rfl) (by
 intro vs au p v du h ad;unfold Qy at h;split at h
 ·cases h;exact⟨by kernel_rfl,rfl,.inl (ai5 _ _ _ ad.1 _ ⟨rfl,rfl⟩)⟩
 ·cases h)

def C9:a7
 |[.agg [.E (.list .int) ws,.E .int _]],[]=>some (some (64<=len ws),.ao [.one (A (eg ws)),.one (A (eZ ws))],[])
 |_,_=>none

theorem Ny:bo 162 C9:=b2 0 (bn.f alb) Tryz.func162 (by kernel_rfl) fun vs au=>by
 unfold C9;split;rotate_left;trivial;rename_i ws fu;refine⟨by kernel_rfl,fun ad K D=>?_⟩;refine⟨1,?_⟩;refine cf (fun rec=>(by kernel_rfl:_=(
  ((0:Int)<=(0:Int)/\(0:Int)<=(1:Int)/\64<=len ws) /\
  ((0:Int)<=(1:Int)/\(1:Int)<=(1:Int)/\64<=len ws) /\
  J (dh (eU ws (Int.toNat 1)) (eU ws (Int.toNat 0)))
  (K (.ao [.one (A 0),.one (A (eU ws (Int.toNat 0)))]) [])
  (K (.ao [.one (A 1),.one (A (eU ws (Int.toNat 1)))]) [])))) ?_
 have dU:eU ws (Int.toNat (0:Int))=eU ws 0:=rfl;have aN:eU ws (Int.toNat (1:Int))=eU ws 1:=rfl;rw[dU,aN];unfold eZ eg at D;refine⟨⟨by omega,by omega,ad⟩,⟨by omega,by omega,ad⟩,b3 (fun h=>?_) (fun h=>?_)⟩
 ·rw[fY]at h;rw[if_neg (by omega)]at D;exact D
 ·rw[eL]at h;rw[if_pos h]at D;exact D

def Qz:a7
 |[.agg [.E (.list .int) ws,.E .int fu]],[]=>some (some (eW ws),.one (A (dC ⟨ws,fu⟩)),[])
 |_,_=>none

theorem YA:bo 102 Qz:=b2 0 ((bn.f Ny).f akY) Tryz.func102 (by kernel_rfl) fun vs au=>by
 unfold Qz;split;rotate_left;trivial;rename_i ws fu;refine⟨by kernel_rfl,fun ad K D=>?_⟩;refine⟨1,?_⟩;refine cf (fun rec=>(by kernel_rfl:_=(
  List.length ws<=140737488355328 /\
  J (!(ar (e9 (⟨ws,fu⟩:cp)) 0))
  (K (.one (A (e9 (⟨ws,fu⟩:cp)))) [])
  (J (ar (len ws:Int) 32)
  (K (.one (A 4)) [])
  (64<=len ws /\
  J (ar (eZ ws) 0)
  (K (.one (A 5)) [])
  (J (aL 60000 (eZ ws))
  (K (.one (A 5)) [])
  (K (.one (A 0)) []))))))) ?_
 unfold dC at D;refine⟨ad,bG (fun h=>?_) (fun h=>?_)⟩
 ·rw[if_neg h]at D;exact D
 rw[if_pos h]at D;obtain⟨bp,_,_,dq⟩:=jx h;simp only at bp dq D;have aq:ws.length=32\/64<=ws.length:=by simp[kN]at bp;omega
 have abF:=xt dq (eg ws);have abz:eZ ws=eU ws (eg ws):=rfl;refine cI (fun G=>?_) (fun G=>?_)
 ·rw[if_neg (by simp only[len]at G;omega)]at D;exact D
 have Jz:64<=ws.length:=by simp only[len]at G;omega
 rw[if_pos Jz]at D;refine⟨Jz,cI (fun Y=>?_) (fun Y=>bq (fun aS=>?_) (fun aS=>?_))⟩
 ·rw[if_neg (by omega)]at D;exact D
 ·rw[if_neg (by omega)]at D;exact D
 ·rw[if_pos (by omega)]at D;exact D

def CU:a7
 |[.agg [.E .int v,.E (.list .int) aF,.E .int t,.E .int n]],[]=>some (none,.one (A (g5 ⟨⟨v,aF,t⟩,n⟩)),[])
 |_,_=>none

theorem Nn:bo 103 CU:=b2 0 (bn.f Fo) Tryz.func103 (by kernel_rfl) fun vs au=>by
 unfold CU;split;rotate_left;trivial;rename_i v aF t n;refine⟨by kernel_rfl,fun K D=>?_⟩;refine⟨1,?_⟩;refine cf (fun rec=>(by kernel_rfl:_=(
  J (aL n 0)
  (K (.one (A 3)) [])
  (J (aL 1000 n)
  (K (.one (A 3)) [])
  (K (.one (A (gf v aF t))) []))))) ?_
 unfold g5 at D;simp only at D;refine bq (fun h=>?_) (fun h=>bq (fun G=>?_) (fun G=>?_))
 ·rw[if_pos (.inl h)]at D;exact D
 ·rw[if_pos (.inr G)]at D;exact D
 ·rw[if_neg (by omega)]at D;exact D

def Ho:a7
 |[.agg [.E (.list .int) ws,.E .int fu,.E .bool up,.E .int al,.E (.list .int) ah,.E .int ak,.E .int aj,.E (.list .bool) aa,.E (.list .bool) ab]],[]=>some (some (eW ws),.one (A (dG ⟨⟨ws,fu⟩,up,⟨⟨al,ah,ak⟩,aj⟩,aa,ab⟩)),[])
 |_,_=>none

theorem aki:bo 36 Ho:=b2 0 ((bn.f Nn).f YA) Tryz.func36 (by kernel_rfl) fun vs au=>by
 unfold Ho;split;rotate_left;trivial;rename_i ws fu up al ah ak aj aa ab;refine⟨by kernel_rfl,fun ad K D=>?_⟩;refine⟨1,?_⟩;refine cf (fun rec=>(by kernel_rfl:_=(
  List.length ws<=140737488355328 /\
  J (!(ar (dC ⟨ws,fu⟩) 0))
  (K (.one (A (dC ⟨ws,fu⟩))) [])
  (J (aL (len aa:Int) 1)
  (K (.one (A 4)) [])
  (J (aL 4 (len aa:Int))
  (K (.one (A 4)) [])
  (J (!(ar (len ab:Int) (len aa:Int)))
  (K (.one (A 4)) [])
  (K (.one (A (g5 ⟨⟨al,ah,ak⟩,aj⟩))) []))))))) ?_
 unfold dG at D;simp only at D;refine⟨ad,bG (fun h=>?_) (fun h=>bq (fun G=>?_) (fun G=>bq (fun Y=>?_) (fun Y=>bG (fun aS=>?_) (fun aS=>?_))))⟩
 ·rw[if_neg h]at D;exact D
 all_goals rw[if_pos h]at D
 ·rw[if_pos (by simp only[len]at G;omega)]at D;exact D
 ·rw[if_pos (by simp only[len]at Y;omega)]at D;exact D
 ·rw[if_pos (by simp only[len]at aS;omega)]at D;exact D
 ·rw[if_neg (by simp only[len]at G Y aS;omega)]at D;exact D

def Hf:a7
 |[.agg [.E (.list .int) ws,.E .int fu,.E .bool up,.E .int bw,.E .int bz]],[]=>some (some (eW ws),.one (A (e4 ⟨⟨ws,fu⟩,up,bw,bz⟩)),[])
 |_,_=>none

theorem aj7:bo 37 Hf:=b2 0 (bn.f YA) Tryz.func37 (by kernel_rfl) fun vs au=>by
 unfold Hf;split;rotate_left;trivial;rename_i ws fu up bw bz;refine⟨by kernel_rfl,fun ad K D=>?_⟩;refine⟨1,?_⟩;refine cf (fun rec=>(by kernel_rfl:_=(
  List.length ws<=140737488355328 /\
  J (!(ar (dC ⟨ws,fu⟩) 0))
  (K (.one (A (dC ⟨ws,fu⟩))) [])
  (J (!(ar (len ws:Int) 192))
  (K (.one (A 4)) [])
  (J (aL bw 0)
  (K (.one (A 3)) [])
  (J (aL 8 bw)
  (K (.one (A 3)) [])
  (J (aL bz 0)
  (K (.one (A 3)) [])
  (J (aL 40 bz)
  (K (.one (A 3)) [])
  (K (.one (A 0)) []))))))))) ?_
 unfold e4 at D;simp only at D;refine⟨ad,bG (fun h=>?_) (fun h=>bG (fun G=>?_) (fun G=>bq (fun Y=>?_) (fun Y=>bq (fun aS=>?_) (fun aS=>bq (fun bj=>?_) (fun bj=>bq (fun bK=>?_) (fun bK=>?_))))))⟩
 ·rw[if_neg h]at D;exact D
 ·rw[if_pos h,if_neg (by simp only[len]at G;omega)]at D;exact D
 all_goals rw[if_pos h,if_pos (by simp only[len]at G;omega)]at D
 ·rw[if_pos (by omega)]at D;exact D
 ·rw[if_pos (by omega)]at D;exact D
 ·rw[if_pos (by omega)]at D;exact D
 ·rw[if_pos (by omega)]at D;exact D
 ·rw[if_neg (by omega)]at D;exact D

def CJ:a7
 |[.agg [.E .int v,.E .int u,.E (.list .target) ts]],[]=>some (none,.one (A (gG v u ts)),[])
 |_,_=>none
def Ob:Ctx:=[]
def x3:List cu:=[.inLoop [36,35,34,2] (Code.sub (bR Tryz.f38) [1,1,1,0,1,0,0]),.inBlock 0,.code (Code.sub (bR Tryz.f38) [1,1,1,1])]
def Lq(F ai:Int)(M:LT)(ag:Int):bO:=⟨[(36,.one (A F)),(35,.one (A ai)),(34,.one (.E (z.list z.target) M)),(2,.one (A ag))],[],0⟩
theorem Vr{F:Int}{rec:bV}{K:aU}{ai M ag}{v0}(bX:v0=fun a=>Lq a ai M ag):b5 Ob tab Tryz.f38 0 K rec (cU x3) (v0 F)=(
 J (aL F ai)
 (((0:Int)<=F/\F<(len M:Int)) /\
 J (!(ar (nth M (Int.toNat F) (z.H z.target)).unit F))
 (K (.one (A 3)) [])
 (J (aL (nth M (Int.toNat F) (z.H z.target)).image 1)
 (K (.one (A 3)) [])
 (J (aL 60 (nth M (Int.toNat F) (z.H z.target)).image)
 (K (.one (A 3)) [])
 (J (aL (nth M (Int.toNat F) (z.H z.target)).dr 1)
 (K (.one (A 3)) [])
 (J (aL 40 (nth M (Int.toNat F) (z.H z.target)).dr)
 (K (.one (A 3)) [])
 (rec x3 (v0 (U (F+1)))))))))
 (K (.one (A 0)) [])):=by subst_vars;kernel_rfl

theorem TN(ts:LT)(az:ts.length<=4)(K:aU):∀(d k:Nat),k+d=ts.length->K (.one (A (if j2 (k:Int) (ts.drop k)then 0 else 3))) [] ->
  co Ob tab Tryz.f38 0 K (d+1) x3 (Lq (k:Int) (((len ts):Nat):Int) ts 0)
 |0,k,ae,D=>by
  rw[bW (L:=x3),Vr rfl];rw[List.drop_of_length_le (by omega)]at D;exact ci (by simp only[len];omega) D
 |d+1,k,ae,D=>by
  rw[bW (L:=x3),Vr rfl,cM];rw[ee (by omega) (z.H z.target)]at D;obtain⟨x,aG⟩:∃x,nth ts k (z.H z.target)=x:=⟨_,rfl⟩
  rw[aG]at D |-;have three:qM (k:Int) x=false->K (.one (A 3)) []:=fun h=>by rw[show j2 (k:Int) (x::ts.drop (k+1))=false from by simp[j2,h]]at D;exact D
  have AY:qM (k:Int) x=true↔(x.unit=k/\1<=x.image/\x.image<=60/\1<=x.dr/\x.dr<=40):=by
   simp only[qM,Bool.and_eq_true,decide_eq_true_eq];omega
  have bad:¬(x.unit=k/\1<=x.image/\x.image<=60/\1<=x.dr/\x.dr<=40)->K (.one (A 3)) []:=fun h=>three (by
   cases aA:qM (k:Int) x
   ·rfl
   ·exact absurd (AY.1 aA) h)
  refine cV (by simp only[len];omega) ⟨⟨by omega,by simp only[len];omega⟩,bG (fun h=>bad (by omega)) (fun h=>bq (fun G=>bad (by omega)) (fun G=>bq (fun Y=>bad (by omega)) (fun Y=>bq (fun aS=>bad (by omega)) (fun aS=>bq (fun bj=>bad (by omega)) (fun bj=>?_)))))⟩;rw[di (by omega)];rw[show j2 (k:Int) (x::ts.drop (k+1))=j2 ((k:Int)+1) (ts.drop (k+1))from by simp only[j2,AY.2 (show _ by omega),Bool.true_and]]at D;exact TN ts az K d (k+1) (by omega) (by rw[show((k+1:Nat):Int)=(k:Int)+1 by omega];exact D)
theorem XI:bo 38 CJ:=b2 (Γ:=Ob) 0 bn Tryz.func38 (by kernel_rfl) fun vs au=>by
 unfold CJ;split;rotate_left;trivial;rename_i v u ts;refine⟨by kernel_rfl,fun K D=>?_⟩;refine⟨ts.length+2,?_⟩;refine cf (fun rec=>(by kernel_rfl:_=(
  J (aL v 1)
  (K (.one (A 3)) [])
  (J (aL 1000 v)
  (K (.one (A 3)) [])
  (J (aL u 0)
  (K (.one (A 3)) [])
  (J (aL 100000 u)
  (K (.one (A 3)) [])
  (J (aL (len ts:Int) 1)
  (K (.one (A 2)) [])
  (J (aL 4 (len ts:Int))
  (K (.one (A 2)) [])
  (rec x3 (Lq 0 (len ts:Int) ts 0)))))))))) ?_
 unfold gG at D;refine bq (fun h=>?_) (fun h=>bq (fun G=>?_) (fun G=>bq (fun Y=>?_) (fun Y=>bq (fun aS=>?_) (fun aS=>bq (fun bj=>?_) (fun bj=>bq (fun bK=>?_) (fun bK=>?_))))))
 ·rw[if_pos (by omega)]at D;exact D
 ·rw[if_pos (by omega)]at D;exact D
 ·rw[if_pos (by omega)]at D;exact D
 ·rw[if_pos (by omega)]at D;exact D
 ·rw[if_neg (by omega),if_pos (by simp only[len]at bj;omega)]at D;exact D
 ·rw[if_neg (by omega),if_pos (by simp only[len]at bK;omega)]at D;exact D
 ·rw[if_neg (by omega),if_neg (by simp only[len]at bj bK;omega)]at D;exact TN ts (by simp only[len]at bK;omega) K ts.length 0 (by omega) D

def Hh:a7
 |[.agg [.E .int mk,.E .int ba,.E .int bb,.E .int bB,.E .int ch,.E (.list .int) bQ,.E .bool cz]],[]=>some (none,.one (A (gd ⟨mk,ba,bb,bB,ch,bQ,cz⟩)),[])
 |_,_=>none

theorem aj9:bo 39 Hh:=b2 0 (bn.f BX) Tryz.func39 (by kernel_rfl) fun vs au=>by
 unfold Hh;split;rotate_left;trivial;rename_i mk ba bb bB ch bQ cz;refine⟨by kernel_rfl,fun K D=>?_⟩;refine⟨1,?_⟩;refine cf (fun rec=>(by kernel_rfl:_=(
  J (aL mk 1)
  (K (.one (A 3)) [])
  (J (aL 7 mk)
  (K (.one (A 3)) [])
  (J (aL ba 0)
  (K (.one (A 3)) [])
  (J (aL 3 ba)
  (K (.one (A 3)) [])
  (J (aL bb 1)
  (K (.one (A 3)) [])
  (J (aL 8 bb)
  (K (.one (A 3)) [])
  (J (aL bB 0)
  (K (.one (A 3)) [])
  (J (aL 40 bB)
  (K (.one (A 3)) [])
  (J (aL ch 0)
  (K (.one (A 3)) [])
  (J (aL 60 ch)
  (K (.one (A 3)) [])
  (J (aL 8 (len bQ:Int))
  (K (.one (A 3)) [])
  (List.length bQ<=140737488355328 /\
  J (!(cC bQ))
  (K (.one (A 3)) [])
  (K (.one (A 0)) []))))))))))))))) ?_
 unfold gd at D;simp only at D;refine bq (fun I=>?_) (fun I=>bq (fun G=>?_) (fun G=>bq (fun Y=>?_) (fun Y=>bq (fun aS=>?_) (fun aS=>bq (fun bj=>?_) (fun bj=>bq (fun bK=>?_) (fun bK=>bq (fun c4=>?_) (fun c4=>bq (fun dJ=>?_) (fun dJ=>bq (fun hd=>?_) (fun hd=>bq (fun lS=>?_) (fun lS=>bq (fun k5=>?_) (fun k5=>⟨?_,ew (fun mC=>?_) (fun mC=>?_)⟩)))))))))))
 ·rw[if_pos (by omega)]at D;exact D
 ·rw[if_pos (by omega)]at D;exact D
 ·rw[if_pos (by omega)]at D;exact D
 ·rw[if_pos (by omega)]at D;exact D
 ·rw[if_pos (by omega)]at D;exact D
 ·rw[if_pos (by omega)]at D;exact D
 ·rw[if_pos (by omega)]at D;exact D
 ·rw[if_pos (by omega)]at D;exact D
 ·rw[if_pos (by omega)]at D;exact D
 ·rw[if_pos (by omega)]at D;exact D
 ·rw[if_pos (by simp only[len]at k5;omega)]at D;exact D
 ·simp only[len]at k5;omega
 ·rw[if_neg (by simp only[len]at k5;omega)]at D;have:cC bQ=false:=by simpa using mC
  rw[if_neg (by rw[this];simp)]at D;exact D
 ·rw[if_neg (by simp only[len]at k5;omega)]at D;have:cC bQ=true:=by simpa using mC
  rw[if_pos this]at D;exact D

def HW:a7
 |[.agg [.E (.list .str) aJ,.E (.list .signed) vs,.E (.list .int) ws,.E .int fu,.E .bool up,.E .int al,.E (.list .int) ah,.E .int ak,.E .int aj,.E (.list .bool) aa,.E (.list .bool) ab,.E (.list .aO) us,.E (.list .aP) cs,.E (.list .message) W,.E .int now]],[]=>some (some (o3 ⟨aJ,vs,⟨⟨ws,fu⟩,up,⟨⟨al,ah,ak⟩,aj⟩,aa,ab⟩,us,cs,W,now⟩=true),.one (A (mr ⟨aJ,vs,⟨⟨ws,fu⟩,up,⟨⟨al,ah,ak⟩,aj⟩,aa,ab⟩,us,cs,W,now⟩)),[])
 |_,_=>none
def p1:Ctx:=[(28,w8),(29,z7),(36,Ho),(37,Hf),(32,z1),(38,CJ),(39,Hh)]
def uw:List cu:=[.inLoop [49,48,47,6,2,1] (cy jA [1,1,1,1,1,1,0,1,0,0]),.inBlock 0,.code (cy jA [1,1,1,1,1,1,1])]
def Mm(F ai:Int)(M:cZ)(ag an:Int)(aE:cD)(aI:cG)(aV:aK)(aZ:Int)(bd:Bool)(bu:Int)(bx:aK)(br bD:Int)(bM bJ:da)(bP:cZ)(bC:c3)(bT:cF)(b1:Int):bO:=⟨[(49,.one (A F)),(48,.one (A ai)),(47,.one (.E (z.list z.aO) M)),(6,.one (A ag)),(2,.one (A an)),(1,.one (.ptr 0 0))],[(0,.box [.E (z.list z.str) aE,.E (z.list z.signed) aI,af aV,A aZ,ax bd,A bu,af bx,A br,A bD,bh bM,bh bJ,.E (z.list z.aO) bP,.E (z.list z.aP) bC,bs bT,A b1])],1⟩
def sR:List cu:=[.inLoop [72,71,70,6,2,1] (cy jA [1,1,1,1,1,1,1,1,0,1,0,0]),.inBlock 2,.code (cy jA [1,1,1,1,1,1,1,1,1])]
def yS(F ai:Int)(M:c3)(ag an:Int)(aE:cD)(aI:cG)(aV:aK)(aZ:Int)(bd:Bool)(bu:Int)(bx:aK)(br bD:Int)(bM bJ:da)(bP:cZ)(bC:c3)(bT:cF)(b1:Int):bO:=⟨[(72,.one (A F)),(71,.one (A ai)),(70,.one (.E (z.list z.aP) M)),(6,.one (A ag)),(2,.one (A an)),(1,.one (.ptr 0 0))],[(0,.box [.E (z.list z.str) aE,.E (z.list z.signed) aI,af aV,A aZ,ax bd,A bu,af bx,A br,A bD,bh bM,bh bJ,.E (z.list z.aO) bP,.E (z.list z.aP) bC,bs bT,A b1])],1⟩
def yQ:List cu:=[.inLoop [100,99,98,97,96,95,94,93,92,91,90,89,88,87,86,85,84,83,82,81,80,79,78,77,10,11,76,75,74,73,72,71,70,6,2,1] (cy jA [1,1,1,1,1,1,1,1,0,1,0,0,1,1,0,0,1,1,0,1,0,0]),.inBlock 4,.code (cy jA [1,1,1,1,1,1,1,1,0,1,0,0,1,1,0,0,1,1,1]),.inBlock 3,.code (cy jA [1,1,1,1,1,1,1,1,0,1,0,0,1,1,1]),.inLoop [72,71,70,6,2,1] (cy jA [1,1,1,1,1,1,1,1,0,1,0,0]),.inBlock 2,.code (cy jA [1,1,1,1,1,1,1,1,1])]
def Mn(F ai:Int)(M:cj)(ag an:Bool)(aE aI:Int)(aV:LT)(aZ bd bu:Bool)(bx br:Int)(bD:cj)(bM bJ:Bool)(bP bC bT b1 cw cB cY:Int)(c6:LT)(dc:cj)(dz:c3)(dD:Nat)(dZ:Int)(ea:Bool)(dB dS:Int)(dF:c3)(eo em ep eS fR:Int)(fS:LT)(gq:cj)(ho:cD)(gr:cG)(gV:aK)(iC:Int)(j7:Bool)(j8:Int)(j9:aK)(mg mh:Int)(wH wI:da)(wJ:cZ)(wK:c3)(wL:cF)(wM:Int):bO:=⟨[(100,.one (A F)),(99,.one (A ai)),(98,.one (ct M)),(97,.one (.ptr 0 4)),(96,.one (ax ag)),(95,.one (ax an)),(94,.one (A aE)),(93,.one (A aI)),(92,.one (.E (z.list z.target) aV)),(91,.one (.ptr 0 3)),(90,.one (.ptr 0 1)),(89,.one (ax aZ)),(88,.one (ax bd)),(87,.one (ax bu)),(86,.one (A bx)),(85,.one (A br)),(84,.one (ct bD)),(83,.one (.ptr 0 4)),(82,.one (ax bM)),(81,.one (ax bJ)),(80,.one (A bP)),(79,.one (A bC)),(78,.one (A bT)),(77,.one (.ptr 0 0)),(10,.one (A b1)),(11,.one (.ptr 0 0)),(76,.agg [A cw,A cB,A cY,.E (z.list z.target) c6,ct dc]),(75,.one (.mw z.aP dz dD 0)),(74,.one (A dZ)),(73,.one (ax ea)),(72,.one (A dB)),(71,.one (A dS)),(70,.one (.E (z.list z.aP) dF)),(6,.one (A eo)),(2,.one (A em)),(1,.one (.ptr 1 0))],[(0,.box [A ep,A eS,A fR,.E (z.list z.target) fS,ct gq]),(1,.box [.E (z.list z.str) ho,.E (z.list z.signed) gr,af gV,A iC,ax j7,A j8,af j9,A mg,A mh,bh wH,bh wI,.E (z.list z.aO) wJ,.E (z.list z.aP) wK,bs wL,A wM])],2⟩
def yR:List cu:=[.inLoop [120,119,118,6,2,1] (cy jA [1,1,1,1,1,1,1,1,1,0,1,0,0]),.inBlock 6,.code (cy jA [1,1,1,1,1,1,1,1,1,1])]
def Mo(F ai:Int)(M:cF)(ag an:Int)(aE:cD)(aI:cG)(aV:aK)(aZ:Int)(bd:Bool)(bu:Int)(bx:aK)(br bD:Int)(bM bJ:da)(bP:cZ)(bC:c3)(bT:cF)(b1:Int):bO:=⟨[(120,.one (A F)),(119,.one (A ai)),(118,.one (bs M)),(6,.one (A ag)),(2,.one (A an)),(1,.one (.ptr 0 0))],[(0,.box [.E (z.list z.str) aE,.E (z.list z.signed) aI,af aV,A aZ,ax bd,A bu,af bx,A br,A bD,bh bM,bh bJ,.E (z.list z.aO) bP,.E (z.list z.aP) bC,bs bT,A b1])],1⟩
theorem Wr(aJ:cD)(vs:cG)(ws:aK)(fu:Int)(up:Bool)(al:Int)(ah:aK)(ak aj:Int)(aa ab:da)(us:cZ)(cs:c3)(W:cF)(now:Int)(rec:bV)(K:aU) v0 (bX:v0=fq aJ) v1 (b9:v1=hO vs) aC (cT:aC=dG ⟨⟨ws,fu⟩,up,⟨⟨al,ah,ak⟩,aj⟩,aa,ab⟩):b5 p1 tab jA 0 K rec [.code (bR jA)] (df [.agg (et aJ vs ws fu up al ah ak aj aa ab (.E (z.list z.aO) us) (.E (z.list z.aP) cs) (bs W) now)] [])=(
 J (!(ar v0 0))
 (K (.one (A v0)) [])
 (J (!(ar v1 0))
 (K (.one (A v1)) [])
 (List.length ws<=140737488355328 /\
 J (!(ar aC 0))
 (K (.one (A aC)) [])
 (J (!(ar (len us:Int) (len aa:Int)))
 (K (.one (A 4)) [])
 (rec uw (Mm 0 (len us:Int) us (len us:Int) 0 aJ vs ws fu up al ah ak aj aa ab us cs W now)))))):=by subst_vars;kernel_rfl
theorem EV{F:Int}{rec:bV}{K:aU}{ai M ag an aE aI aV aZ bd bu bx br bD bM bJ bP bC bT b1}{v1 v0}(b9:v1=fun a=>Mm a ai M ag an aE aI aV aZ bd bu bx br bD bM bJ bP bC bT b1)(bX:v0=e4 ⟨(nth M (Int.toNat F) (z.H z.aO)).f,(nth M (Int.toNat F) (z.H z.aO)).up,(nth M (Int.toNat F) (z.H z.aO)).n,(nth M (Int.toNat F) (z.H z.aO)).eG⟩):b5 p1 tab jA 0 K rec (cU uw) (v1 F)=(
 J (aL F ai)
 (((0:Int)<=F/\F<(len M:Int)) /\
 List.length ((nth M (Int.toNat F) (z.H z.aO)).f).words<=140737488355328 /\
 J (!(ar v0 0))
 (K (.one (A v0)) [])
 (rec uw (v1 (U (F+1)))))
 (J (aL 8 (len bC:Int))
 (K (.one (A 2)) [])
 (J (aL 24 (len bT:Int))
 (K (.one (A 2)) [])
 (rec sR (yS 0 (len bC:Int) bC ag an aE aI aV aZ bd bu bx br bD bM bJ bP bC bT b1))))):=by subst_vars;kernel_rfl
theorem Mp{F ai ag an aZ bu br bD b1:Int}{M bC:c3}{aE:cD}{aI:cG}{aV bx:aK}{bd:Bool}{bM bJ:da}{bP:cZ}{bT:cF}{rec:bV}{K:aU}:b5 p1 tab jA 0 K rec (cU sR) (yS F ai M ag an aE aI aV aZ bd bu bx br bD bM bJ bP bC bT b1)=(
 J (aL F ai)
 (((0:Int)<=F/\F<(len M:Int)) /\
 J (!(ar (nth M (Int.toNat F) (z.H z.aP)).n (U (F+1))))
 (K (.one (A 4)) [])
 (J (!(ar (((len (nth M (Int.toNat F) (z.H z.aP)).cQ):Nat):Int) ag))
 (K (.one (A 4)) [])
 (J (!(ar (((len ((nth M (Int.toNat F) (z.H z.aP)).r).targets):Nat):Int) ag))
 (K (.one (A 4)) [])
 (rec yQ (Mn 0 (((len (nth M (Int.toNat F) (z.H z.aP)).cQ):Nat):Int) (nth M (Int.toNat F) (z.H z.aP)).cQ (!(ar (((len ((nth M (Int.toNat F) (z.H z.aP)).r).targets):Nat):Int) ag)) (!(ar (((len ((nth M (Int.toNat F) (z.H z.aP)).r).targets):Nat):Int) ag)) ag (((len ((nth M (Int.toNat F) (z.H z.aP)).r).targets):Nat):Int) ((nth M (Int.toNat F) (z.H z.aP)).r).targets false (!(ar (((len (nth M (Int.toNat F) (z.H z.aP)).cQ):Nat):Int) ag)) (!(ar (((len (nth M (Int.toNat F) (z.H z.aP)).cQ):Nat):Int) ag)) ag (((len (nth M (Int.toNat F) (z.H z.aP)).cQ):Nat):Int) (nth M (Int.toNat F) (z.H z.aP)).cQ false (!(ar (nth M (Int.toNat F) (z.H z.aP)).n (U (F+1)))) (U (F+1)) F (nth M (Int.toNat F) (z.H z.aP)).n F (nth M (Int.toNat F) (z.H z.aP)).n ((nth M (Int.toNat F) (z.H z.aP)).r).version ((nth M (Int.toNat F) (z.H z.aP)).r).cg ((nth M (Int.toNat F) (z.H z.aP)).r).targets (nth M (Int.toNat F) (z.H z.aP)).cQ M (Int.toNat F) F (aL F ai) F ai M ag an (nth M (Int.toNat F) (z.H z.aP)).n ((nth M (Int.toNat F) (z.H z.aP)).r).version ((nth M (Int.toNat F) (z.H z.aP)).r).cg ((nth M (Int.toNat F) (z.H z.aP)).r).targets (nth M (Int.toNat F) (z.H z.aP)).cQ aE aI aV aZ bd bu bx br bD bM bJ bP bC bT b1)))))
 (rec yR (Mo 0 (len bT:Int) bT ag an aE aI aV aZ bd bu bx br bD bM bJ bP bC bT b1))):=by kernel_rfl
theorem Ws{F:Int}{rec:bV}{K:aU}{ai M ag an aE aI aV aZ bd bu bx br bD bM bJ bP bC bT b1 cw cB cY c6 dc dz dD dZ ea dB dS dF eo em ep eS fR fS gq ho gr gV iC j7 j8 j9 mg mh wH wI wJ wK wL wM}{aC v0 v1}(cT:aC=fun a=>Mn a ai M ag an aE aI aV aZ bd bu bx br bD bM bJ bP bC bT b1 cw cB cY c6 dc dz dD dZ ea dB dS dF eo em ep eS fR fS gq ho gr gV iC j7 j8 j9 mg mh wH wI wJ wK wL wM)(bX:v0=fv (nth M (Int.toNat F) (z.H (z.list z.int))))(b9:v1=gG eS fR fS):b5 p1 tab jA 0 K rec (cU yQ) (aC F)=(
 J (aL F ai)
 (((0:Int)<=F/\F<(len M:Int)) /\
 J (!(ar v0 0))
 (K (.one (A v0)) [])
 (rec yQ (aC (U (F+1)))))
 (J (!(ar v1 0))
 (K (.one (A v1)) [])
 (rec sR (yS (U (dB+1)) dS dF eo em ho gr gV iC j7 j8 j9 mg mh wH wI wJ wK wL wM)))):=by subst_vars;kernel_rfl
theorem Wt{F:Int}{rec:bV}{K:aU}{ai M ag an aE aI aV aZ bd bu bx br bD bM bJ bP bC bT b1}{v1 v0}(b9:v1=fun a=>Mo a ai M ag an aE aI aV aZ bd bu bx br bD bM bJ bP bC bT b1)(bX:v0=gd (nth M (Int.toNat F) (z.H z.message))):b5 p1 tab jA 0 K rec (cU yR) (v1 F)=(
 J (aL F ai)
 (((0:Int)<=F/\F<(len M:Int)) /\
 J (!(ar v0 0))
 (K (.one (A v0)) [])
 (J (dh ag (nth M (Int.toNat F) (z.H z.message)).unit)
 (K (.one (A 5)) [])
 (rec yR (v1 (U (F+1))))))
 (J (aL b1 0)
 (K (.one (A 3)) [])
 (J (aL 100000 b1)
 (K (.one (A 3)) [])
 (K (.one (A 0)) [])))):=by subst_vars;kernel_rfl

theorem TI(aJ:cD)(vs:cG)(ws:aK)(fu:Int)(up:Bool)(al:Int)(ah:aK)(ak aj:Int)(aa ab:da)(us:cZ)(cs:c3)(W:cF)(now:Int)(aq:W.length<=24)(K:aU):∀(d k:Nat),k+d=W.length->K (.one (A (hQ us.length (W.drop k) now))) [] ->
  co p1 tab jA 0 K (d+1) yR (Mo (k:Int) (((len W):Nat):Int) W (((len us):Nat):Int) 0 aJ vs ws fu up al ah ak aj aa ab us cs W now)
 |0,k,ae,D=>by
  rw[bW (L:=yR),Wt rfl rfl];rw[List.drop_of_length_le (by omega)]at D;refine ci (by simp only[len];omega) (bq (fun h=>?_) (fun h=>bq (fun G=>?_) (fun G=>?_)))
  ·rw[show hQ us.length [] now=3 from(show hQ us.length [] now=vi now from rfl).trans (if_pos (.inl h))]at D;exact D
  ·rw[show hQ us.length [] now=3 from(show hQ us.length [] now=vi now from rfl).trans (if_pos (.inr G))]at D;exact D
  ·rw[show hQ us.length [] now=0 from(show hQ us.length [] now=vi now from rfl).trans (if_neg (by omega))]at D;exact D
 |d+1,k,ae,D=>by
  rw[bW (L:=yR),Wt rfl rfl,cM,di (by omega)];rw[ee (by omega) (z.H z.message)]at D;obtain⟨m,aB⟩:∃m,nth W k (z.H z.message)=m:=⟨_,rfl⟩
  rw[aB]at D |-;refine cV (by simp only[len];omega) ⟨⟨by omega,by simp only[len];omega⟩,bG (fun h=>?_) (fun h=>b3 (fun G=>?_) (fun G=>?_))⟩
  ·have e:nD us.length (m::W.drop (k+1))=gd m:=if_neg h;rw[show hQ us.length (m::W.drop (k+1)) now=gd m from by unfold hQ;rw[e,if_neg h]]at D;exact D
  ·rw[fY]at G;have e:nD us.length (m::W.drop (k+1))=5:=(if_pos h).trans (if_pos G);rw[show hQ us.length (m::W.drop (k+1)) now=5 from by unfold hQ;rw[e];rfl]at D;exact D
  ·rw[eL]at G;have e:nD us.length (m::W.drop (k+1))=nD us.length (W.drop (k+1)):=(if_pos h).trans (if_neg (by simp only[len]at G;omega));rw[show hQ us.length (m::W.drop (k+1)) now=hQ us.length (W.drop (k+1)) now from by unfold hQ;rw[e]]at D;exact TI aJ vs ws fu up al ah ak aj aa ab us cs W now aq K d (k+1) (by omega) D
theorem TE(K:aU){a8:cj}(acD:a8.length<=1000){ag:Bool}{an:Bool}{aE:Int}{aI:Int}{aV:(List uY)}{aZ:Bool}{bd:Bool}{bu:Bool}{bx:Int}{br:Int}{bD:(List (List Int))}{bM:Bool}{bJ:Bool}{bP:Int}{bC:Int}{bT:Int}{b1:Int}{cw:Int}{cB:Int}{cY:Int}{c6:(List uY)}{dc:(List (List Int))}{dz:(List og)}{dD:Nat}{dZ:Int}{ea:Bool}{dB:Int}{dS:Int}{dF:(List og)}{eo:Int}{em:Int}{ep:Int}{eS:Int}{fR:Int}{fS:(List uY)}{gq:(List (List Int))}{ho:(List (List UInt8))}{gr:(List tc)}{gV:(List Int)}{iC:Int}{j7:Bool}{j8:Int}{j9:(List Int)}{mg:Int}{mh:Int}{wH:(List Bool)}{wI:(List Bool)}{wJ:(List oi)}{wK:(List og)}{wL:(List fD)}{wM:Int}(m:Nat):∀(d j:Nat),j+d=a8.length->(lx (a8.drop j)≠0->K (.one (A (lx (a8.drop j)))) [])->(lx (a8.drop j)=0->gG eS fR fS≠0->K (.one (A (gG eS fR fS))) []) ->
  (lx (a8.drop j)=0->gG eS fR fS=0->co p1 tab jA 0 K m sR (yS (U (dB+1)) dS dF eo em ho gr gV iC j7 j8 j9 mg mh wH wI wJ wK wL wM))->co p1 tab jA 0 K (m+d+1) yQ (Mn (j:Int) (((len a8):Nat):Int) a8 ag an aE aI aV aZ bd bu bx br bD bM bJ bP bC bT b1 cw cB cY c6 dc dz dD dZ ea dB dS dF eo em ep eS fR fS gq ho gr gV iC j7 j8 j9 mg mh wH wI wJ wK wL wM)
 |0,j,aT,I,G,Y=>by
  rw[bW (L:=yQ),Ws rfl rfl rfl];rw[List.drop_of_length_le (by omega)]at G Y;exact ci (by simp only[len];omega) (bG (fun h=>G rfl h) (fun h=>Y rfl h))
 |d+1,j,aT,I,G,Y=>by
  rw[show m+(d+1)+1=(m+d+1)+1 by omega,bW (L:=yQ),Ws rfl rfl rfl,cM,di (by omega)];rw[ee (l:=a8) (by omega) (z.H (z.list z.int))]at I G Y;obtain⟨w,b8⟩:∃w,nth a8 j (z.H (z.list z.int))=w:=⟨_,rfl⟩
  rw[b8]at I G Y |-;refine cV (by simp only[len];omega) ⟨⟨by omega,by simp only[len];omega⟩,bG (fun h=>?_) (fun h=>?_)⟩
  ·have e:lx (w::a8.drop (j+1))=fv w:=if_neg h;rw[e]at I;exact I h
  ·have e:lx (w::a8.drop (j+1))=lx (a8.drop (j+1)):=if_pos h;rw[e]at I G Y;exact TE K acD m d (j+1) (by omega) I G Y
theorem Tv(aJ:cD)(vs:cG)(ws:aK)(fu:Int)(up:Bool)(al:Int)(ah:aK)(ak aj:Int)(aa ab:da)(us:cZ)(cs:c3)(W:cF)(now:Int)(aA:cs.length<=8)(aq:W.length<=24)(hu:us.length<=4)(K:aU):∀(d k:Nat),k+d=cs.length->K (.one (A (na us.length ((k+1:Nat):Int) (cs.drop k) W now))) [] ->
  ∃m,co p1 tab jA 0 K m sR (yS (k:Int) (((len cs):Nat):Int) cs (((len us):Nat):Int) 0 aJ vs ws fu up al ah ak aj aa ab us cs W now)
 |0,k,ae,D=>by
  rw[List.drop_of_length_le (by omega)]at D;refine⟨W.length+1+1,?_⟩;rw[bW (L:=sR),Mp ];exact ci (by simp only[len];omega) (TI aJ vs ws fu up al ah ak aj aa ab us cs W now aq K W.length 0 (by omega) D)
 |d+1,k,ae,D=>by
  rw[ee (by omega) (z.H z.aP)]at D;obtain⟨c,aB⟩:∃c,nth cs k (z.H z.aP)=c:=⟨_,rfl⟩
  rw[aB]at D;have ex:∀x,ou c ((k+1:Nat):Int) us.length=x->x≠0->K (.one (A x)) []:=fun x aG a2=>by
   have e:ov us.length ((k+1:Nat):Int) (c::cs.drop (k+1))=x:=(if_neg (by rw[aG];exact a2)).trans aG;rw[show na us.length ((k+1:Nat):Int) (c::cs.drop (k+1)) W now=x from by unfold na;rw[e];exact if_neg a2]at D;exact D
  have lz:c.n≠((k+1:Nat):Int)\/c.cQ.length≠us.length\/c.r.targets.length≠us.length->K (.one (A 4)) []:=fun h=>ex 4 (if_pos h) (by decide)
  have le:∀a b:Nat,(((a:Nat):Int)=((b:Nat):Int))↔a=b:=fun a b=>by omega
  by_cases g:c.n≠((k+1:Nat):Int)\/c.cQ.length≠us.length\/c.r.targets.length≠us.length
  ·have JB:=lz g;refine⟨1,?_⟩;rw[bW (L:=sR),Mp ,cM,di (by omega),aB];refine cV (by simp only[len];omega) ⟨⟨by omega,by simp only[len];omega⟩,bG (fun _=>JB) (fun I=>bG (fun _=>JB) (fun G=>bG (fun _=>JB) (fun Y=>?_)))⟩;simp only[len,le]at G Y;omega
  ·have sr:ou c ((k+1:Nat):Int) us.length=if lx c.cQ=0 then gG c.r.version c.r.cg c.r.targets else lx c.cQ:=if_neg g
   simp only[not_or,ne_eq,Decidable.not_not]at g;obtain⟨a1,bf,ck⟩:=g;obtain⟨m,AR⟩:∃m,lx c.cQ=0->gG c.r.version c.r.cg c.r.targets=0->co p1 tab jA 0 K m sR (yS ((k+1:Nat):Int) (((len cs):Nat):Int) cs (((len us):Nat):Int) 0 aJ vs ws fu up al ah ak aj aa ab us cs W now):=by
    by_cases q:lx c.cQ=0/\gG c.r.version c.r.cg c.r.targets=0
    ·have e:ov us.length ((k+1:Nat):Int) (c::cs.drop (k+1))=ov us.length ((k+1+1:Nat):Int) (cs.drop (k+1)):=if_pos (by rw[sr,if_pos q.1];exact q.2);rw[show na us.length ((k+1:Nat):Int) (c::cs.drop (k+1)) W now=na us.length ((k+1+1:Nat):Int) (cs.drop (k+1)) W now from by unfold na;rw[e]]at D;obtain⟨m,h⟩:=Tv aJ vs ws fu up al ah ak aj aa ab us cs W now aA aq hu K d (k+1) (by omega) D;exact⟨m,fun _ _=>h⟩
    ·exact⟨0,fun a b=>absurd ⟨a,b⟩ q⟩
   refine⟨(m+c.cQ.length+1)+1,?_⟩;rw[bW (L:=sR),Mp ,cM,di (by omega),aB];refine cV (by simp only[len];omega) ⟨⟨by omega,by simp only[len];omega⟩,bG (fun h=>absurd a1 h) (fun _=>bG (fun h=>absurd ((le _ _).2 bf) h) (fun _=>bG (fun h=>absurd ((le _ _).2 ck) h) (fun _=>?_)))⟩;refine TE K (by omega) m c.cQ.length 0 (by omega) (fun h=>?_) (fun h G=>?_) (fun h G=>?_)
   ·exact ex _ (by rw[sr];exact if_neg h) h
   ·exact ex _ (by rw[sr];exact if_pos h) G
   ·rw[di (by omega)];exact AR h G
theorem Tq(aJ:cD)(vs:cG)(ws:aK)(fu:Int)(up:Bool)(al:Int)(ah:aK)(ak aj:Int)(aa ab:da)(us:cZ)(cs:c3)(W:cF)(now:Int)(oK:pW us=true)(hu:us.length<=4)(K:aU):∀(d k:Nat),k+d=us.length->K (.one (A (kZ us.length (us.drop k) cs W now))) [] ->
  ∃m,co p1 tab jA 0 K m uw (Mm (k:Int) (((len us):Nat):Int) us (((len us):Nat):Int) 0 aJ vs ws fu up al ah ak aj aa ab us cs W now)
 |0,k,ae,D=>by
  rw[List.drop_of_length_le (by omega)]at D;have dU:kZ us.length [] cs W now=vh us.length cs W now:=rfl
  by_cases g:8<cs.length\/24<W.length
  ·rw[dU,show vh us.length cs W now=2 from if_pos g]at D;refine⟨1,?_⟩;rw[bW (L:=uw),EV rfl rfl];refine ci (by simp only[len];omega) (bq (fun _=>D) (fun h=>bq (fun _=>D) (fun G=>?_)));simp only[len]at h G;omega
  ·rw[dU,show vh us.length cs W now=na us.length 1 cs W now from if_neg g]at D;obtain⟨m,h⟩:=Tv aJ vs ws fu up al ah ak aj aa ab us cs W now (by omega) (by omega) hu K cs.length 0 (by omega) D;refine⟨m+1,?_⟩;rw[bW (L:=uw),EV rfl rfl];exact ci (by simp only[len];omega) (ci (by simp only[len];omega) (ci (by simp only[len];omega) h))
 |d+1,k,ae,D=>by
  rw[ee (by omega) (z.H z.aO)]at D;have av:=M4 oK (iu (l:=us) (k:=k) (by omega) (z.H z.aO));obtain⟨u,aB⟩:∃u,nth us k (z.H z.aO)=u:=⟨_,rfl⟩
  rw[aB]at D av
  by_cases g:e4 u=0
  ·have e:pj (u::us.drop (k+1))=pj (us.drop (k+1)):=if_pos g;rw[show kZ us.length (u::us.drop (k+1)) cs W now=kZ us.length (us.drop (k+1)) cs W now from by unfold kZ;rw[e]]at D;obtain⟨m,h⟩:=Tq aJ vs ws fu up al ah ak aj aa ab us cs W now oK hu K d (k+1) (by omega) D;refine⟨m+1,?_⟩;rw[bW (L:=uw),EV rfl rfl,cM,di (by omega),aB];exact cV (by simp only[len];omega) ⟨⟨by omega,by simp only[len];omega⟩,av,bG (fun q=>absurd g q) (fun _=>h)⟩
  ·have e:pj (u::us.drop (k+1))=e4 u:=if_neg g;rw[show kZ us.length (u::us.drop (k+1)) cs W now=e4 u from by unfold kZ;rw[e];exact if_neg g]at D;refine⟨1,?_⟩;rw[bW (L:=uw),EV rfl rfl,cM,di (by omega),aB];exact cV (by simp only[len];omega) ⟨⟨by omega,by simp only[len];omega⟩,av,bG (fun _=>D) (fun q=>absurd q g)⟩
theorem akP:bo 8 HW:=b2 (Γ:=p1) 0 (((((((bn.f aj9).f XI).f M6).f aj7).f aki).f Nm).f Fl) Tryz.func8 (by kernel_rfl) fun vs au=>by
 unfold HW;split;rotate_left;trivial;rename_i aJ vs ws fu up al ah ak aj aa ab us cs W now;refine⟨by kernel_rfl,fun ad K D=>?_⟩;have S:=B5.1 ad;unfold mr at D;simp only at D;have le:∀a b:Nat,(((a:Nat):Int)=((b:Nat):Int))↔a=b:=fun a b=>by omega
 by_cases g:fq aJ=0/\hO vs=0/\dG ⟨⟨ws,fu⟩,up,⟨⟨al,ah,ak⟩,aj⟩,aa,ab⟩=0/\us.length=aa.length
 ·obtain⟨a1,bf,ck,eP⟩:=g;rw[if_pos a1,if_pos bf,if_pos ck,if_pos eP]at D;obtain⟨_,a,b,_⟩:=iH ck;simp only at a b;obtain⟨m,h⟩:=Tq aJ vs ws fu up al ah ak aj aa ab us cs W now S.u (by omega) K us.length 0 (by omega) D;refine⟨m+1,?_⟩;rw[eB,Wr _ _ _ _ _ _ _ _ _ _ _ _ _ _ _ _ _ _ rfl _ rfl _ rfl];exact bG (fun q=>absurd a1 q) (fun _=>bG (fun q=>absurd bf q) (fun _=>⟨S.ws,bG (fun q=>absurd ck q) (fun _=>bG (fun q=>absurd ((le _ _).2 eP) q) (fun _=>h))⟩))
 ·refine⟨1,?_⟩;rw[eB,Wr _ _ _ _ _ _ _ _ _ _ _ _ _ _ _ _ _ _ rfl _ rfl _ rfl];refine bG (fun h=>?_) (fun h=>bG (fun G=>?_) (fun G=>⟨S.ws,bG (fun Y=>?_) (fun Y=>bG (fun aS=>?_) (fun aS=>?_))⟩))
  ·rw[if_neg h]at D;exact D
  ·rw[if_pos h,if_neg G]at D;exact D
  ·rw[if_pos h,if_pos G,if_neg Y]at D;exact D
  ·rw[if_pos h,if_pos G,if_pos Y,if_neg (show ¬us.length=aa.length from fun q=>aS ((le _ _).2 q))]at D;exact D
  ·exact absurd ⟨h,G,Y,(le _ _).1 aS⟩ g

def Qj:a7
 |[.one (.own 0),.one (.E .str s)],[.arr .str l]=>some (some (l.length<=1000),.one (A (ev s l)),[.arr .str l])
 |_,_=>none
def F0:Ctx:=[]
def yI:List cu:=[.inLoop [8,7,4,0,1] (cy pz [1,0,1,0,0]),.inBlock 0,.code (cy pz [1,1])]
def Me(F ai M:Int)(ag:jM)(an:cD):bO:=⟨[(8,.one (A F)),(7,.one (A ai)),(4,.one (A M)),(0,.one (.own 0)),(1,.one (.E z.str ag))],[(0,.arr z.str an)],1⟩
theorem ahI(l:cD)(s:jM)(rec:bV)(K:aU):b5 F0 tab pz 1 K rec [.code (bR pz)] (df [.one (.own 0),.one (.E z.str s)] [.arr z.str l])=(
 rec yI (Me 0 (len l:Int) 0 s l)):=by kernel_rfl
theorem Wg{F:Int}{rec:bV}{K:aU}{ai M ag an}{v0}(bX:v0=fun a=>Me a ai M ag an):b5 F0 tab pz 1 K rec (cU yI) (v0 F)=(
 J (aL F ai)
 (((0:Int)<=F/\F<(len an:Int)) /\
 Int.toNat F<len an /\
 J (eqs ag (nth an (Int.toNat F) (z.H z.str)))
 (K (.one (A F)) [.arr z.str an])
 (rec yI (v0 (U (F+1)))))
 (K (.one (A (-1))) [.arr z.str an])):=by subst_vars;kernel_rfl

theorem Uk(l:cD)(s:jM)(az:l.length<=1000)(K:aU):∀(d k:Nat),k+d=l.length->K (.one (A (hT k s (l.drop k)))) [.arr .str l] ->
  co F0 tab pz 1 K (d+1) yI (Me (k:Int) (((len l):Nat):Int) 0 s l)
 |0,k,ae,D=>by
  rw[bW (L:=yI),Wg rfl];rw[List.drop_of_length_le (by omega)]at D;exact ci (by simp only[len];omega) D
 |d+1,k,ae,D=>by
  rw[bW (L:=yI),Wg rfl,cM];rw[ee (by omega) (z.H z.str)]at D;simp only[hT]at D;refine cV (by simp only[len];omega) ⟨⟨by omega,by simp only[len];omega⟩,by simp only[len];omega,b3 (fun h=>?_) (fun h=>?_)⟩
  ·rw[I5]at h;rw[if_pos h.symm]at D;exact D
  ·rw[I4]at h;rw[if_neg (fun e=>h e.symm)]at D;rw[di (by omega)];exact Uk l s az K d (k+1) (by omega) D
theorem akE:bo 98 Qj:=b2 (Γ:=F0) 1 bn Tryz.func98 (by kernel_rfl) fun vs au=>by
 unfold Qj;split;rotate_left;trivial;rename_i s l;refine⟨by kernel_rfl,fun ad K D=>?_⟩;refine⟨l.length+2,?_⟩;rw[eB,ahI _ _ _ _];exact Uk l s ad K l.length 0 (by omega) D

def HL:a7
 |[.one (.E .str s),.one (.ptr 0 0)],[.box [.own 1],.arr .str b]=>some (some (b.length<=1000),.one (A (oT b s).2),[.box [.own 2],.dead,.arr .str (oT b s).1])
 |_,_=>none

theorem akF:bo 104 HL:=sY 2 (bn.f akE) Tryz.func104 (by kernel_rfl) fun vs au=>by
 unfold HL;split;rotate_left;trivial;rename_i s b;refine⟨by kernel_rfl,fun ad K D=>?_⟩;refine⟨1,?_⟩;refine k4 (fun rec=>(by kernel_rfl:_=(
  List.length b<=1000 /\
  J (dh 0 (ev s b))
  (K (.one (A (U (ev s b+1)))) [.box [.own 2],.dead,.arr z.str b])
  ((len b+len (s::[]))*16<=140737488355328 /\
  K (.one (A (len (cat b (s::[])):Int))) [.box [.own 2],.dead,.arr z.str (cat b (s::[]))])))) ?_
 refine⟨ad,b3 (fun h=>?_) (fun h=>⟨by simp only[len,List.length_cons,List.length_nil];omega,?_⟩)⟩
 ·have ay:=Kr s b 0 (Int.le_refl _);rw[show hT 0 s b=ev s b from rfl]at ay;have h:=fY.1 h;rw[show oT b s=(b,ev s b+1)from if_pos h]at D;rw[cb (by omega) (by omega)];exact D
 ·have h:=eL.1 h;rw[show oT b s=(b++[s],(b.length:Int)+1)from if_neg (by omega)]at D;have e:((len (cat b [s]):Nat):Int)=(b.length:Int)+1:=by simp[len,cat]
  rw[e];exact D

def HM:a7
 |[.one (.E .int v),.one (.E .int k)],[]=>some (some (0<=v/\v<=10/\0<=k/\k<=10),.one (af (mK v k)),[])
 |_,_=>none
def OB:Ctx:=[(99,C3)]
theorem afW:fr Tryz.prog tab OB:=(bn.f Ns)
theorem ahJ(v k:Int)(rec:bV)(K:aU):b5 OB tab Tryz.f105 0 K rec [.code (bR Tryz.f105)] (df [.one (A v),.one (A k)] [])=(
 ((0:Int)<=U (U ((3:Int)+U ((9:Int)*k))+v)/\U (U ((3:Int)+U ((9:Int)*k))+v)<=1000000) /\
 K (.one (af (bZ (Int.toNat (U (U ((3:Int)+U ((9:Int)*k))+v))) (U (U ((100:Int)*v)+k))))) []):=by kernel_rfl

theorem aiX(ad:0<=v/\v<=10/\0<=k/\k<=10)(K:aU)(D:K (.one (af (mK v k))) []):∃m,co OB tab Tryz.f105 0 K m [.code (bR Tryz.f105)] (df [.one (A v),.one (A k)] []):=by
 refine⟨1,?_⟩;rw[eB,ahJ _ _ _ _];have aN:U (U (3+U (9*k))+v)=3+9*k+v:=by
  rw[cb (n:=9*k) (by omega) (by omega),cb (n:=3+9*k) (by omega) (by omega),cb (by omega) (by omega)]
 have aX:U (U (100*v)+k)=100*v+k:=by
  rw[cb (n:=100*v) (by omega) (by omega),cb (by omega) (by omega)]
 rw[aN,aX];exact⟨⟨by omega,by omega⟩,D⟩
theorem akG:bo 105 HM:=hj afW Tryz.func105 (by kernel_rfl) (by
 intro vs au p v du h ad;unfold HM at h;split at h
 ·cases h;exact⟨by kernel_rfl,rfl,.inl (aiX _ _ ad.1 _ ⟨rfl,rfl⟩)⟩
 ·cases h)

def HO:a7
 |[.one (.E .int units),.one (.E .int hm)],[]=>some (some (1<=units/\units<=4/\Jc units.toNat hm=true),.ao [.agg (kA (rj units.toNat hm).1),.one (.E (.list .offer) (Jb units.toNat hm)),.one (ax true)],[])
 |_,_=>none
def nz:Ctx:=[(92,Iw),(106,Df),(104,HL),(105,HM),(6,C4)]
theorem afX:fr Tryz.prog tab nz:=(((((bn.f Ym).f akG).f akF).f YE).f YF)
def mR:List cu:=[.inLoop [29,13,12,11,10,9,8,7,6,5,4,0,1] (cy jR [1,1,1,1,1,1,1,1,0,1,0,0]),.inBlock 0,.code (cy jR [1,1,1,1,1,1,1,1,1])]
def ES(F:Int)(ai:Bool)(M ag:Int)(an:List oh)(aE:cj)(aI:cG)(aV aZ:Int)(bd:List oh)(bu:Int)(bx:Bool)(br bD bM bJ:Int)(bP:cD)(bC:aK)(bT:cD)(b1:cG)(cw cB:aK)(cY c6:da)(dc:cZ)(dz:c3)(dD:cF):bO:=⟨[(29,.one (A F)),(13,.one (.own 0)),(12,.one (.own 1)),(11,.one (.fn 105 [])),(10,.one (.fn 104 [2])),(9,.one (.own 3)),(8,.one (.ptr 2 0)),(7,.one (.ptr 4 0)),(6,.one (ax ai)),(5,.one (.own 5)),(4,.one (.ptr 6 0)),(0,.one (A M)),(1,.one (A ag))],[(0,.arr z.offer an),(1,.arr (z.list z.int) aE),(2,.box [.own 7]),(3,.arr z.signed aI),(4,.box [A aV,.own 8,A aZ]),(5,.arr z.offer bd),(6,.box [.own 9,.own 10,.own 11,A bu,ax bx,A br,.own 12,A bD,A bM,.own 13,.own 14,.own 15,.own 16,.own 17,A bJ]),(7,.arr z.str bP),(8,.arr z.int bC),(9,.arr z.str bT),(10,.arr z.signed b1),(11,.arr z.int cw),(12,.arr z.int cB),(13,.arr z.bool cY),(14,.arr z.bool c6),(15,.arr z.aO dc),(16,.arr z.aP dz),(17,.arr z.message dD)],18⟩
def wb:List cu:=[.inLoop [39,38,15,37,36,35,34,33,32,14,31,30,29,13,12,11,10,9,8,7,6,5,4,0,1] (cy jR [1,1,1,1,1,1,1,1,0,1,0,0,1,1,0,0,1,1,0,1,0,0]),.inBlock 2,.code (cy jR [1,1,1,1,1,1,1,1,0,1,0,0,1,1,0,0,1,1,1]),.inBlock 1,.code (cy jR [1,1,1,1,1,1,1,1,0,1,0,0,1,1,1]),.inLoop [29,13,12,11,10,9,8,7,6,5,4,0,1] (cy jR [1,1,1,1,1,1,1,1,0,1,0,0]),.inBlock 0,.code (cy jR [1,1,1,1,1,1,1,1,1])]
def Mg(F ai M ag an aE aI aV aZ bd bu:Int)(bx:Bool)(br:Int)(bD:Bool)(bM bJ bP bC:Int)(bT:aK)(b1:List oh)(cw:cj)(cB:cG)(cY c6:Int)(dc:List oh)(dz:Int)(dD:Bool)(dZ ea dB dS:Int)(dF:hs)(eo:cj)(em:LT)(ep:cj)(eS:cD)(fR:aK)(fS:cD)(gq:cG)(ho gr:aK)(gV iC:da)(j7:cZ)(j8:c3)(j9:cF):bO:=⟨[(39,.one (A F)),(38,.one (A ai)),(15,.one (.ptr 0 0)),(37,.agg [.nil z.root,.nil (z.list z.int),A M,A ag,.nil z.target,.own 1,.nil (z.list z.int)]),(36,.one (.own 1)),(35,.agg [A an,A aE,.nil z.target]),(34,.one (A aI)),(33,.one (A aV)),(32,.one (A aZ)),(14,.one (A bd)),(31,.one (A bu)),(30,.one (ax bx)),(29,.one (A br)),(13,.one (.own 2)),(12,.one (.own 3)),(11,.one (.fn 105 [])),(10,.one (.fn 104 [4])),(9,.one (.own 5)),(8,.one (.ptr 4 0)),(7,.one (.ptr 6 0)),(6,.one (ax bD)),(5,.one (.own 7)),(4,.one (.ptr 8 0)),(0,.one (A bM)),(1,.one (A bJ))],[(0,.box [.own 9,.own 10,A bP,A bC,.own 11,.own 1,.own 12]),(1,.arr z.int bT),(2,.arr z.offer b1),(3,.arr (z.list z.int) cw),(4,.box [.own 13]),(5,.arr z.signed cB),(6,.box [A cY,.own 14,A c6]),(7,.arr z.offer dc),(8,.box [.own 15,.own 16,.own 17,A dz,ax dD,A dZ,.own 18,A ea,A dB,.own 19,.own 20,.own 21,.own 22,.own 23,A dS]),(9,.arr z.root dF),(10,.arr (z.list z.int) eo),(11,.arr z.target em),(12,.arr (z.list z.int) ep),(13,.arr z.str eS),(14,.arr z.int fR),(15,.arr z.str fS),(16,.arr z.signed gq),(17,.arr z.int ho),(18,.arr z.int gr),(19,.arr z.bool gV),(20,.arr z.bool iC),(21,.arr z.aO j7),(22,.arr z.aP j8),(23,.arr z.message j9)],24⟩
theorem ahK(units hm:Int)(rec:bV)(K:aU):b5 nz tab jR 0 K rec [.code (bR jR)] (df [.one (A units),.one (A hm)] [])=(
 rec mR (ES 0 false units hm [] [] [] 1 2 [] 0 false 0 0 0 0 [] ((3:Int)::(4:Int)::(5:Int)::[]) [] [] [] [] [] [] [] [] [])):=by kernel_rfl
theorem Wi{F M ag aV aZ bu br bD bM bJ:Int}{ai bx:Bool}{an bd:List oh}{aE:cj}{aI b1:cG}{bP bT:cD}{bC cw cB:aK}{cY c6:da}{dc:cZ}{dz:c3}{dD:cF}{rec:bV}{K:aU}{v0}(bX:v0=oU bP aI ⟨aV,bC,aZ⟩ aE):b5 nz tab jR 0 K rec (cU mR) (ES F ai M ag an aE aI aV aZ bd bu bx br bD bM bJ bP bC bT b1 cw cB cY c6 dc dz dD)=(
 J (aL F 4)
 (rec wb (Mg 0 M (max F 1) ag (max F 1) ag ag (max F 1) F F F (aL F 4) F ai M ag (max F 1) ag ((3:Int)::(5:Int)::[]) an aE aI aV aZ bd bu bx br bD bM bJ [] [] [] [] bP bC bT b1 cw cB cY c6 dc dz dD))
 (len bC*8<=140737488355328 /\
 J (ar v0.snd 0)
 (K (.ao [.agg (kA v0.fst),.one (.E (z.list z.offer) an),.one (ax (ar (len v0.fst.units:Int) M))]) [])
 (K (.ao [.agg (kA v0.fst),.one (.E (z.list z.offer) an),.one (ax false)]) []))):=by subst_vars;kernel_rfl
theorem Wj{F:Int}{cw ep:cj}{em:LT}{eS:cD}{rec:bV}{K:aU}{ai M ag an aE aI aV aZ bd bu bx br bD bM bJ bP bC bT b1 cB cY c6 dc dz dD dZ ea dB dS dF eo fR fS gq ho gr gV iC j7 j8 j9}{cn dR v0 v1 aC v3 v4 dy}(hx:cn=fun a b c d e=>Mg a ai M ag an aE aI aV aZ bd bu bx br bD bM bJ bP bC bT b1 b cB cY c6 dc dz dD dZ ea dB dS dF eo c d e fR fS gq ho gr gV iC j7 j8 j9)(kG:dR=fun a b c=>ES (U (br+1)) bD bM bJ a cw b cY c6 dc dz dD dZ ea dB dS c fR fS gq ho gr gV iC j7 j8 j9)(bX:v0=mK bd F)(b9:v1=lb v0)(cT:aC=oT eS v1.fst)(ed:v3=nr bP bC em)(e5:v4=oT eS v3.fst)(iL:dy=K (.ao [.agg fk,.one (.E (z.list z.offer) []),.one (ax false)]) []):b5 nz tab jR 0 K rec (cU wb) (cn F cw em ep eS)=(
 J (aL F ai)
 (((0:Int)<=bd/\bd<=10/\(0:Int)<=F/\F<=10) /\
 J (!(ar v1.snd 0))
 dy
 (List.length eS<=1000 /\
 J (ar bd 0)
 ((len cw+len (v0::[]))*24<=140737488355328 /\
 (len em+len ((⟨F,aC.snd,(len v0:Int)⟩:uY)::[]))*24<=140737488355328 /\
 (len ep+len (v0::[]))*24<=140737488355328 /\
 rec wb (cn (U (F+1)) (cat cw (v0::[])) (cat em ((⟨F,aC.snd,(len v0:Int)⟩:uY)::[])) (cat ep (v0::[])) aC.fst))
 ((len em+len ((⟨F,aC.snd,(len v0:Int)⟩:uY)::[]))*24<=140737488355328 /\
 (len ep+len (v0::[]))*24<=140737488355328 /\
 rec wb (cn (U (F+1)) cw (cat em ((⟨F,aC.snd,(len v0:Int)⟩:uY)::[])) (cat ep (v0::[])) aC.fst))))
 (J (ar bd 0)
 (rec mR (dR b1 cB eS))
 (J (!(ar v3.snd 0))
 dy
 (List.length eS<=1000 /\
 J (!(ar bd 3))
 ((len cB+len ((⟨3,v4.snd⟩:tc)::[]))*16<=140737488355328 /\
 (len (cat cB ((⟨3,v4.snd⟩:tc)::[]))+len ((⟨5,v4.snd⟩:tc)::[]))*16<=140737488355328 /\
 (len b1+len ((⟨dF,eo,⟨bP,bC,em⟩,bT,ep⟩:oh)::[]))*136<=140737488355328 /\
 rec mR (dR (cat b1 ((⟨dF,eo,⟨bP,bC,em⟩,bT,ep⟩:oh)::[])) (cat (cat cB ((⟨3,v4.snd⟩:tc)::[])) ((⟨5,v4.snd⟩:tc)::[])) v4.fst))
 ((len cB+len ((⟨5,v4.snd⟩:tc)::[]))*16<=140737488355328 /\
 (len b1+len ((⟨dF,eo,⟨bP,bC,em⟩,bT,ep⟩:oh)::[]))*136<=140737488355328 /\
 rec mR (dR (cat b1 ((⟨dF,eo,⟨bP,bC,em⟩,bT,ep⟩:oh)::[])) (cat cB ((⟨5,v4.snd⟩:tc)::[])) v4.fst)))))):=by subst_vars;kernel_rfl

abbrev sg(v units cg:Int)(a:ls):bO:=ES v false units cg a.offers a.first a.l 1 2 [] 0 false 0 0 0 0 a.b [3,4,5] [] [] [] [] [] [] [] [] []
abbrev Jd(k v units cg:Int)(a:ls)(f:o9):bO:=Mg k units (max v 1) cg (max v 1) cg cg (max v 1) v v v (aL v 4) v false units cg (max v 1) cg [3,5] a.offers f.first a.l 1 2 [] 0 false 0 0 0 0 [] [] f.ts f.mL f.b [3,4,5] [] [] [] [] [] [] [] [] []
theorem Rk(K:aU)(units:Nat)(cg v:Int)(a:ls)(m:Nat)(bX:0<=v)(ed:v<=3)(hu:units<=4)(az:a.l.length<=100)(aY:a.offers.length<=100)(hi:∀k:Int,0<=k->k<units->(lb (mK v k)).2=0) :
  ∀(n k:Nat) (f:o9),k+n=units->f.b.length<=100+k->f.first.length<=100+k->f.ts.length<=k->f.mL.length<=k ->
  (v≠0->(nr (max v 1) cg (nI v n k f).ts).2=0)->co nz tab jR 0 K m mR (sg (v+1) units cg (sf cg v a (nI v n k f))) ->
  co nz tab jR 0 K (n+1+m) wb (Jd k v units cg a f)
 |0,k,f,ae,ay,b6,bm,aB,aw,h5=>by
  rw[show 0+1+m=m+1 by omega,bW (L:=wb),Wj rfl rfl rfl rfl rfl rfl rfl rfl];simp only[nI]at aw h5;refine ci (by omega) (cI (fun h=>?_) (fun h=>?_))
  ·have e:sf cg v a f=⟨f.b,a.l,f.first,a.offers⟩:=if_pos h;rw[e]at h5;rw[cb (by omega) (by omega)];exact h5
  ·have e:sf cg v a f=_:=if_neg h;rw[e]at h5;refine bG (fun G=>absurd (aw h) G) (fun _=>⟨by omega,bG (fun Y=>⟨by simp only[len,List.length_cons,List.length_nil];omega,by simp only[len,cat,List.length_append,List.length_cons,List.length_nil];omega,by simp only[len,List.length_cons,List.length_nil];omega,?_⟩) (fun Y=>⟨by simp only[len,List.length_cons,List.length_nil];omega,by simp only[len,List.length_cons,List.length_nil];omega,?_⟩)⟩)
   ·rw[if_neg Y]at h5;rw[cb (by omega) (by omega)];exact h5
   ·rw[if_pos Y]at h5;rw[cb (by omega) (by omega)];exact h5
 |n+1,k,f,ae,ay,b6,bm,aB,aw,h5=>by
  rw[show n+1+1+m=(n+1+m)+1 by omega,bW (L:=wb),Wj rfl rfl rfl rfl rfl rfl rfl rfl];have acC:=hi k (by omega) (by omega);have pG:=KW f.b (lb (mK v k)).1;have hF:U ((k:Int)+1)=((k+1:Nat):Int):=by rw[cb (by omega) (by omega)];omega
  have f1:(k2 v k f).b.length<=100+(k+1):=by
   have:(k2 v k f).b.length<=f.b.length+1:=pG;omega
  have f2:(k2 v k f).first.length<=100+(k+1):=by
   have:(k2 v k f).first.length<=f.first.length+1:=by simp only[k2];split<;>simp
   omega
  have f3:(k2 v k f).ts.length<=k+1:=by
   have:(k2 v k f).ts.length=f.ts.length+1:=by simp[k2]
   omega
  have f4:(k2 v k f).mL.length<=k+1:=by
   have:(k2 v k f).mL.length=f.mL.length+1:=by simp[k2]
   omega
  have step:=Rk K units cg v a m bX ed hu az aY hi n (k+1) (k2 v k f) (by omega) f1 f2 f3 f4 aw h5;refine cV (by omega) ⟨⟨bX,by omega,by omega,by omega⟩,bG (fun h=>absurd acC h) (fun _=>⟨by omega,cI (fun h=>⟨by simp only[len,List.length_cons,List.length_nil];omega,by simp only[len,List.length_cons,List.length_nil];omega,by simp only[len,List.length_cons,List.length_nil];omega,?_⟩) (fun h=>⟨by simp only[len,List.length_cons,List.length_nil];omega,by simp only[len,List.length_cons,List.length_nil];omega,?_⟩)⟩)⟩
  ·rw[hF];have e:(k2 v k f).first=f.first++[mK v k]:=if_pos h
   simp only[Jd]at step;rw[e]at step;exact step
  ·rw[hF];have e:(k2 v k f).first=f.first:=if_neg h
   simp only[Jd]at step;rw[e]at step;exact step
theorem Ri(v:Int):∀(n:Nat) (k:Int) (f:o9),(nI v n k f).b.length<=f.b.length+n/\(nI v n k f).first.length<=f.first.length+n
 |0,_,f=>⟨Nat.le_refl _,Nat.le_refl _⟩
 |n+1,k,f=>by
  have h:=Ri v n (k+1) (k2 v k f);have I:=KW f.b (lb (mK v k)).1;have G:(k2 v k f).b.length<=f.b.length+1:=I;have Y:(k2 v k f).first.length<=f.first.length+1:=by simp only[k2];split<;>simp
  simp only[nI];omega
theorem aa8(cg v:Int)(a:ls)(f:o9):(sf cg v a f).b.length<=f.b.length+1/\(sf cg v a f).l.length<=a.l.length+2/\(sf cg v a f).first=f.first/\(sf cg v a f).offers.length<=a.offers.length+1:=by
 have I:=KW f.b (Fz v cg f);unfold sf;split
 ·exact⟨Nat.le_succ _,by show a.l.length<=_;omega,rfl,Nat.le_succ _⟩
 ·refine⟨I,?_,rfl,by simp⟩;show((if v=3 then a.l else a.l++_)++_).length<=_;split<;>simp
theorem Je(units:Nat)(cg v:Int)(a:ls):(lB units cg v a).b.length<=a.b.length+units+1/\(lB units cg v a).l.length<=a.l.length+2/\(lB units cg v a).first.length<=a.first.length+units/\(lB units cg v a).offers.length<=a.offers.length+1:=by
 obtain⟨I,G,Y,aS⟩:=aa8 cg v a (nI v units 0 (qk a));obtain⟨a1,bf⟩:=Ri v units 0 (qk a);have aN:(qk a).b=a.b:=rfl;have aX:(qk a).first=a.first:=rfl
 rw[aN]at a1;rw[aX]at bf;unfold lB;rw[Y];omega
theorem DB(K:aU)(units:Nat)(cg v:Int)(a:ls)(m:Nat)(bX:0<=v)(ed:v<=3)(hu:units<=4)(ay:a.b.length<=100)(b6:a.first.length<=100)(az:a.l.length<=100)(aY:a.offers.length<=100)(hi:∀k:Int,0<=k->k<units->(lb (mK v k)).2=0)
  (aw:v≠0->(nr (max v 1) cg (nI v units 0 (qk a)).ts).2=0) (h5:co nz tab jR 0 K m mR (sg (v+1) units cg (lB units cg v a))) :
  co nz tab jR 0 K (units+1+m+1) mR (sg v units cg a):=by
 rw[bW (L:=mR),Wi rfl];exact cV (by omega) (Rk K units cg v a m bX ed hu az aY hi units 0 (qk a) (by omega) ay b6 (Nat.le_refl _) (Nat.le_refl _) aw h5)
theorem aba(K:aU)(c2:Nat)(cg v:Int)(m:Nat)(aR:v=4)(aB:m=1)(gy:(rj c2 cg).2=0)(n8:((rj c2 cg).1.units.length:Int)=c2)(D:K (.ao [.agg (kA (rj c2 cg).1),.one (.E (.list .offer) (Jb c2 cg)),.one (ax true)]) []) :
  co nz tab jR 0 K m mR (sg v c2 cg (oA c2 cg)):=by
 subst aB;rw[bW (L:=mR),Wi rfl];have aaN:oU (oA c2 cg).b (oA c2 cg).l ⟨1,[3,4,5],2⟩ (oA c2 cg).first=rj c2 cg:=rfl
 refine ci (by omega) ⟨by decide,?_⟩;rw[aaN];refine k0 gy ?_;have:ar (((len (rj c2 cg).1.units):Nat):Int) (c2:Int)=true:=decide_eq_true n8;rw[this];exact D
theorem aa9(K:aU)(c2:Nat)(cg:Int)(im:c2<=4)(m1 o7 o8 p2 Cs:ls)(v0 v1 aC v3 v4:Int)(zK uP uQ uR uS:Nat)(AB:m1.b.length=0/\m1.first.length=0/\m1.l.length=0/\m1.offers.length=0)
  (a2:v0=0) (I:v1=v0+1) (G:aC=v1+1) (Y:v3=aC+1) (aS:v4=v3+1) (m0:zK=c2+1+uP+1) (fc:uP=c2+1+uQ+1) (gJ:uQ=c2+1+uR+1) (hz:uR=c2+1+uS+1)
  (aN:lB c2 cg v0 m1=o7) (aX:lB c2 cg v1 o7=o8) (cS:lB c2 cg aC o8=p2) (lz:lB c2 cg v3 p2=Cs)
  (hi:∀v:Int,0<=v->v<4->∀k:Int,0<=k->k<c2->(lb (mK v k)).2=0)
  (cO:(nr (max v1 1) cg (nI v1 c2 0 (qk o7)).ts).2=0) (cL:(nr (max aC 1) cg (nI aC c2 0 (qk o8)).ts).2=0) (eH:(nr (max v3 1) cg (nI v3 c2 0 (qk p2)).ts).2=0)
  (ic:co nz tab jR 0 K uS mR (sg v4 c2 cg Cs)) :
  co nz tab jR 0 K zK mR (sg v0 c2 cg m1):=by
 obtain⟨N4,N5,z3,z4⟩:=AB;obtain⟨dI,eD,a3,a4⟩:=Je c2 cg v0 m1;obtain⟨jf,kf,ot,kx⟩:=Je c2 cg v1 o7;obtain⟨bp,bc,cq,dq⟩:=Je c2 cg aC o8;rw[aN]at dI eD a3 a4;rw[aX]at jf kf ot kx;rw[cS]at bp bc cq dq;have i0:=hi v0 (by omega) (by omega);have i1:=hi v1 (by omega) (by omega);have i2:=hi aC (by omega) (by omega);have i3:=hi v3 (by omega) (by omega);have ai:m1.b.length<=100/\m1.first.length<=100/\m1.l.length<=100/\m1.offers.length<=100:=by omega
 have M:o7.b.length<=100/\o7.first.length<=100/\o7.l.length<=100/\o7.offers.length<=100:=by omega
 have ag:o8.b.length<=100/\o8.first.length<=100/\o8.l.length<=100/\o8.offers.length<=100:=by omega
 have an:p2.b.length<=100/\p2.first.length<=100/\p2.l.length<=100/\p2.offers.length<=100:=by omega
 have mZ:0<=v0/\v0<=3:=by omega
 have cK:0<=v1/\v1<=3:=by omega
 have cN:0<=aC/\aC<=3:=by omega
 have dA:0<=v3/\v3<=3:=by omega
 clear dI eD a3 a4 jf kf ot kx bp bc cq dq N4 N5 z3 z4 hi;have gu:co nz tab jR 0 K uR mR (sg v3 c2 cg p2):=by
  rw[hz];exact DB K c2 cg v3 p2 uS dA.1 dA.2 im an.1 an.2.1 an.2.2.1 an.2.2.2 i3 (fun _=>eH) (by rw[lz,<- aS];exact ic)
 have dO:co nz tab jR 0 K uQ mR (sg aC c2 cg o8):=by
  rw[gJ];exact DB K c2 cg aC o8 uR cN.1 cN.2 im ag.1 ag.2.1 ag.2.2.1 ag.2.2.2 i2 (fun _=>cL) (by rw[cS,<- Y];exact gu)
 have er:co nz tab jR 0 K uP mR (sg v1 c2 cg o7):=by
  rw[fc];exact DB K c2 cg v1 o7 uQ cK.1 cK.2 im M.1 M.2.1 M.2.2.1 M.2.2.2 i1 (fun _=>cO) (by rw[aX,<- G];exact dO)
 rw[m0];exact DB K c2 cg v0 m1 uP mZ.1 mZ.2 im ai.1 ai.2.1 ai.2.2.1 ai.2.2.2 i0 (fun h=>(h a2).elim) (by rw[aN,<- I];exact er)
theorem aiY(ad:1<=units/\units<=4/\Jc units.toNat hm=true)(K:aU)(D:K (.ao [.agg (kA (rj units.toNat hm).1),.one (.E (.list .offer) (Jb units.toNat hm)),.one (ax true)]) []):ku nz jR 0 K [.one (A units),.one (A hm)] []:=by
 obtain⟨e0,fj,g2⟩:=ad;obtain⟨c2,im⟩:∃c2:Nat,units=c2:=⟨units.toNat,by omega⟩
 subst im;have aaO:((c2:Int)).toNat=c2:=by omega
 have abQ:c2<=4:=by omega
 rw[aaO]at g2 D;unfold Jc at g2;simp only[Bool.and_eq_true,DA,ar,decide_eq_true_eq]at g2;obtain⟨nq,cO,cL,eH,gy,n8⟩:=g2;have hi:∀v:Int,0<=v->v<4->∀k:Int,0<=k->k<c2->(lb (mK v k)).2=0:=fun v bX aR k a2 I=>by
  unfold SU at nq;have:=List.all_eq_true.1 (List.all_eq_true.1 nq v.toNat (List.mem_range.2 (by omega))) k.toNat (List.mem_range.2 (by omega));rw[show((k.toNat:Nat):Int)=k by omega,show((v.toNat:Nat):Int)=v by omega]at this;exact of_decide_eq_true this
 obtain⟨uS,ue⟩:∃gz,gz=1:=⟨1,rfl⟩
 obtain⟨uR,hz⟩:∃gz,gz=c2+1+uS+1:=⟨_,rfl⟩
 obtain⟨uQ,gJ⟩:∃gz,gz=c2+1+uR+1:=⟨_,rfl⟩
 obtain⟨uP,fc⟩:∃gz,gz=c2+1+uQ+1:=⟨_,rfl⟩
 obtain⟨zK,m0⟩:∃gz,gz=c2+1+uP+1:=⟨_,rfl⟩
 obtain⟨m1,AB⟩:∃hp:ls,hp=⟨[],[],[],[]⟩:=⟨_,rfl⟩
 have a1:An c2 hm=lB c2 hm 0 m1:=by rw[AB];rfl
 have bf:Ao c2 hm=lB c2 hm 1 (An c2 hm):=rfl;have ck:Ap c2 hm=lB c2 hm 2 (Ao c2 hm):=rfl;have eP:oA c2 hm=lB c2 hm 3 (Ap c2 hm):=rfl;have am4:rj c2 hm=oU (oA c2 hm).b (oA c2 hm).l Rj (oA c2 hm).first:=rfl
 have ic:=aba K c2 hm 4 uS rfl ue gy n8 D;generalize oA c2 hm=Cs at eP ic;generalize Ap c2 hm=p2 at ck eP eH;generalize Ao c2 hm=o8 at bf ck cL;generalize An c2 hm=o7 at a1 bf cO;have mi:=aa9 K c2 hm abQ m1 o7 o8 p2 Cs 0 1 2 3 4 zK uP uQ uR uS (by rw[AB];exact⟨rfl,rfl,rfl,rfl⟩) rfl rfl rfl rfl rfl m0 fc gJ hz a1.symm bf.symm ck.symm eP.symm hi cO cL eH ic;refine⟨zK+1,?_⟩;rw[eB,ahK _ _ _ _];rw[AB]at mi;exact mi
theorem akI:bo 40 HO:=hj afX Tryz.func40 (by kernel_rfl) (by
 intro vs au p v du h ad;unfold HO at h;split at h
 ·cases h;exact⟨by kernel_rfl,rfl,.inl (aiY _ _ ad.1 _ ⟨rfl,rfl⟩)⟩
 ·cases h)

def HP:a7
 |[.agg [.E (.list .str) aJ,.E (.list .signed) vs,.E (.list .int) ws,.E .int fu,.E .bool up,.E .int al,.E (.list .int) ah,.E .int ak,.E .int aj,.E (.list .bool) aa,.E (.list .bool) ab,.E (.list .aO) us,.E (.list .aP) cs,.E (.list .message) W,.E .int now],.one (.E (.list .gR) l)],[]=>some (none,.ao [.agg (kA (E9 ⟨aJ,vs,⟨⟨ws,fu⟩,up,⟨⟨al,ah,ak⟩,aj⟩,aa,ab⟩,us,cs,W,now⟩ l).1),.one (af (E9 ⟨aJ,vs,⟨⟨ws,fu⟩,up,⟨⟨al,ah,ak⟩,aj⟩,aa,ab⟩,us,cs,W,now⟩ l).2.1),.one (A (E9 ⟨aJ,vs,⟨⟨ws,fu⟩,up,⟨⟨al,ah,ak⟩,aj⟩,aa,ab⟩,us,cs,W,now⟩ l).2.2)],[])
 |_,_=>none
def Cq:Ctx:=[(10,C0),(17,HD),(18,HE)]
def wc:List cu:=[.inLoop [27,26,25,8,6,5,4,2] (Code.sub (bR Tryz.f41) [1,1,1,1,1,0,1,0,0]),.inBlock 0,.code (Code.sub (bR Tryz.f41) [1,1,1,1,1,1])]
def ET(F ai:Int)(M:List w1)(ag:Int)(an aE:aK)(aI:Int)(aV:Bool)(aZ bd bu bx:Int)(br:cD)(bD:cG)(bM:aK)(bJ:Int)(bP:Bool)(bC:Int)(bT:aK)(b1 cw:Int)(cB cY:da)(c6:Int)(dc:cD)(dz:cG)(dD dZ:aK)(ea dB:da)(dS:cZ)(dF:c3)(eo:cF)(em:cZ)(ep:c3)(eS:cF):bO:=⟨[(27,.one (A F)),(26,.one (A ai)),(25,.one (.E (z.list z.gR) M)),(8,.one (.own 0)),(6,.one (A ag)),(5,.one (.own 1)),(4,.one (.ptr 2 0)),(2,.one (.ptr 3 0))],[(0,.arr z.int an),(1,.arr z.int aE),(2,.box [.own 4,.own 5,.own 6,A aI,ax aV,A aZ,.own 7,A bd,A bu,.own 8,.own 9,.own 10,.own 11,.own 12,A bx]),(3,.box [.E (z.list z.str) br,.E (z.list z.signed) bD,af bM,A bJ,ax bP,A bC,af bT,A b1,A cw,bh cB,bh cY,.own 13,.own 14,.own 15,A c6]),(4,.arr z.str dc),(5,.arr z.signed dz),(6,.arr z.int dD),(7,.arr z.int dZ),(8,.arr z.bool ea),(9,.arr z.bool dB),(10,.arr z.aO dS),(11,.arr z.aP dF),(12,.arr z.message eo),(13,.arr z.aO em),(14,.arr z.aP ep),(15,.arr z.message eS)],16⟩
def yK:List cu:=[.inLoop [27,26,25,8,6,5,4,2] (Code.sub (bR Tryz.f41) [1,1,1,1,1,0,1,0,0]),.inBlock 0,.code (Code.sub (bR Tryz.f41) [1,1,1,1,1,1])]
def Mh(F ai:Int)(M:List w1)(ag:Int)(an aE:aK)(aI:Int)(aV:Bool)(aZ bd bu bx:Int)(br:cD)(bD:cG)(bM:aK)(bJ:Int)(bP:Bool)(bC:Int)(bT:aK)(b1 cw:Int)(cB cY:da)(c6:cZ)(dc:c3)(dz:cF)(dD:Int)(dZ:cD)(ea:cG)(dB dS:aK)(dF eo:da)(em:cZ)(ep:c3)(eS:cF):bO:=⟨[(27,.one (A F)),(26,.one (A ai)),(25,.one (.E (z.list z.gR) M)),(8,.one (.own 0)),(6,.one (A ag)),(5,.one (.own 1)),(4,.one (.ptr 2 0)),(2,.one (.ptr 3 0))],[(0,.arr z.int an),(1,.arr z.int aE),(2,.box [.own 4,.own 5,.own 6,A aI,ax aV,A aZ,.own 7,A bd,A bu,.own 8,.own 9,.own 10,.own 11,.own 12,A bx]),(3,.box [.E (z.list z.str) br,.E (z.list z.signed) bD,af bM,A bJ,ax bP,A bC,af bT,A b1,A cw,bh cB,bh cY,.E (z.list z.aO) c6,.E (z.list z.aP) dc,bs dz,A dD]),(4,.arr z.str dZ),(5,.arr z.signed ea),(6,.arr z.int dB),(7,.arr z.int dS),(8,.arr z.bool dF),(9,.arr z.bool eo),(10,.arr z.aO em),(11,.arr z.aP ep),(12,.arr z.message eS)],13⟩
theorem Wk{F bJ bC b1 cw c6:Int}{an bM bT:aK}{br:cD}{bD:cG}{bP:Bool}{cB cY:da}{em:cZ}{ep:c3}{eS:cF}{rec:bV}{K:aU}{ai M ag aE aI aV aZ bd bu bx dc dz dD dZ ea dB dS dF eo}{aC v0 v1}(cT:aC=fun a b c d e f g h i j k l m n o p q=>ET a ai M ag b aE aI aV aZ bd bu bx c d e f g h i j k l m n dc dz dD dZ ea dB dS dF eo o p q)(bX:v0=okW ⟨br,bD,⟨⟨bM,bJ⟩,bP,⟨⟨bC,bT,b1⟩,cw⟩,cB,cY⟩,em,ep,eS,c6⟩)(b9:v1=fp ⟨br,bD,⟨⟨bM,bJ⟩,bP,⟨⟨bC,bT,b1⟩,cw⟩,cB,cY⟩,em,ep,eS,c6⟩ ⟨(nth M (Int.toNat F) (z.H z.gR)).kind,(nth M (Int.toNat F) (z.H z.gR)).unit,(nth M (Int.toNat F) (z.H z.gR)).k,⟨((nth M (Int.toNat F) (z.H z.gR)).o).roots,((nth M (Int.toNat F) (z.H z.gR)).o).lM,⟨(((nth M (Int.toNat F) (z.H z.gR)).o).r).version,(((nth M (Int.toNat F) (z.H z.gR)).o).r).cg,(((nth M (Int.toNat F) (z.H z.gR)).o).r).targets⟩,((nth M (Int.toNat F) (z.H z.gR)).o).sigs,((nth M (Int.toNat F) (z.H z.gR)).o).cQ⟩⟩):b5 Cq tab Tryz.f41 0 K rec (cU wc) (aC F an br bD bM bJ bP bC bT b1 cw cB cY c6 em ep eS)=(
 J (aL F ai)
 (((0:Int)<=F/\F<(len M:Int)) /\
 v0=true /\
 v0=true /\
 J (ar v1.snd 0)
 ((len an+len (v1.snd::[]))*8<=140737488355328 /\
 rec wc (aC (U (F+1)) (cat an (v1.snd::[])) v1.fst.b v1.fst.s v1.fst.g.f.words v1.fst.g.f.fuel v1.fst.g.up v1.fst.g.t.r.version v1.fst.g.t.r.keys v1.fst.g.t.r.dV v1.fst.g.t.version v1.fst.g.cH v1.fst.g.did v1.fst.now v1.fst.units v1.fst.cr v1.fst.W))
 ((len an+len (v1.snd::[]))*8<=140737488355328 /\
 rec yK (Mh (U (F+1)) ai M ag (cat an (v1.snd::[])) aE aI aV aZ bd bu bx br bD bM bJ bP bC bT b1 cw cB cY em ep eS c6 dc dz dD dZ ea dB dS dF eo)))
 (K (.ao [.agg [.E (z.list z.str) br,.E (z.list z.signed) bD,af bM,A bJ,ax bP,A bC,af bT,A b1,A cw,bh cB,bh cY,.E (z.list z.aO) em,.E (z.list z.aP) ep,bs eS,A c6],.one (af an),.one (A 0)]) [])):=by subst_vars;kernel_rfl
theorem Wl{F:Int}{an:aK}{rec:bV}{K:aU}{ai M ag aE aI aV aZ bd bu bx br bD bM bJ bP bC bT b1 cw cB cY c6 dc dz dD dZ ea dB dS dF eo em ep eS}{aC v0 v1}(cT:aC=fun a b=>Mh a ai M ag b aE aI aV aZ bd bu bx br bD bM bJ bP bC bT b1 cw cB cY c6 dc dz dD dZ ea dB dS dF eo em ep eS)(bX:v0=okW ⟨br,bD,⟨⟨bM,bJ⟩,bP,⟨⟨bC,bT,b1⟩,cw⟩,cB,cY⟩,c6,dc,dz,dD⟩)(b9:v1=fp ⟨br,bD,⟨⟨bM,bJ⟩,bP,⟨⟨bC,bT,b1⟩,cw⟩,cB,cY⟩,c6,dc,dz,dD⟩ ⟨(nth M (Int.toNat F) (z.H z.gR)).kind,(nth M (Int.toNat F) (z.H z.gR)).unit,(nth M (Int.toNat F) (z.H z.gR)).k,⟨((nth M (Int.toNat F) (z.H z.gR)).o).roots,((nth M (Int.toNat F) (z.H z.gR)).o).lM,⟨(((nth M (Int.toNat F) (z.H z.gR)).o).r).version,(((nth M (Int.toNat F) (z.H z.gR)).o).r).cg,(((nth M (Int.toNat F) (z.H z.gR)).o).r).targets⟩,((nth M (Int.toNat F) (z.H z.gR)).o).sigs,((nth M (Int.toNat F) (z.H z.gR)).o).cQ⟩⟩):b5 Cq tab Tryz.f41 0 K rec (cU yK) (aC F an)=(
 J (aL F ai)
 (((0:Int)<=F/\F<(len M:Int)) /\
 v0=true /\
 v0=true /\
 J (ar v1.snd 0)
 ((len an+len (v1.snd::[]))*8<=140737488355328 /\
 rec wc (ET (U (F+1)) ai M ag (cat an (v1.snd::[])) aE aI aV aZ bd bu bx v1.fst.b v1.fst.s v1.fst.g.f.words v1.fst.g.f.fuel v1.fst.g.up v1.fst.g.t.r.version v1.fst.g.t.r.keys v1.fst.g.t.r.dV v1.fst.g.t.version v1.fst.g.cH v1.fst.g.did v1.fst.now dZ ea dB dS dF eo em ep eS v1.fst.units v1.fst.cr v1.fst.W))
 ((len an+len (v1.snd::[]))*8<=140737488355328 /\
 rec yK (aC (U (F+1)) (cat an (v1.snd::[])))))
 (K (.ao [.agg [.E (z.list z.str) br,.E (z.list z.signed) bD,af bM,A bJ,ax bP,A bC,af bT,A b1,A cw,bh cB,bh cY,.E (z.list z.aO) c6,.E (z.list z.aP) dc,bs dz,A dD],.one (af an),.one (A 0)]) [])):=by subst_vars;kernel_rfl

theorem KM(l:List m4)(az:l.length<=160)(R:cX×List Int)(K:aU)(D:K (.ao [.agg (kA R.1),.one (af R.2),.one (A 0)]) []):∀(d k:Nat) (v:cX) (acc:aK),k+d=l.length->acc.length<=k->fB v->(pU v (l.drop k)).1=R.1->acc++(pU v (l.drop k)).2=R.2 ->
  co Cq tab Tryz.f41 0 K (d+1) wc (ET (k:Int) (((len l):Nat):Int) l 0 acc [] 0 false 0 0 0 0 v.b v.s v.g.f.words v.g.f.fuel v.g.up v.g.t.r.version v.g.t.r.keys v.g.t.r.dV v.g.t.version v.g.cH v.g.did v.now [] [] [] [] [] [] [] [] [] v.units v.cr v.W)/\co Cq tab Tryz.f41 0 K (d+1) yK (Mh (k:Int) (((len l):Nat):Int) l 0 acc [] 0 false 0 0 0 0 v.b v.s v.g.f.words v.g.f.fuel v.g.up v.g.t.r.version v.g.t.r.keys v.g.t.r.dV v.g.t.version v.g.cH v.g.did v.units v.cr v.W v.now [] [] [] [] [] [] [] [] [])
 |0,k,v,acc,ae,bl,aY,I,G=>by
  rw[List.drop_of_length_le (by omega)]at I G;have a1:v=R.1:=I;have bf:acc=R.2:=by simpa[pU]using G
  clear I G aY;subst a1 bf;refine⟨?_,?_⟩
  ·rw[bW (L:=wc),Wk rfl rfl rfl];exact ci (by simp only[len];omega) D
  ·rw[bW (L:=yK),Wl rfl rfl rfl];exact ci (by simp only[len];omega) D
 |d+1,k,v,acc,ae,bl,aY,I,G=>by
  rw[ee (l:=l) (by omega) (z.H .gR)]at I G;obtain⟨x,aG⟩:∃x,nth l k (z.H .gR)=x:=⟨_,rfl⟩
  rw[aG]at I G;have aA:okW v=true:=oW.2 aY;have ok:(fp v x).2=0->_:=fun h=>KM l az R K D d (k+1) (fp v x).1 (acc++[(fp v x).2]) (by omega) (by simp;omega) (YN aY h) (by have:=I;simp only[pU,if_pos h]at this;exact this) (by have:=G;simp only[pU,if_pos h]at this;rw[List.append_assoc];exact this)
  have bad:(fp v x).2≠0->_:=fun h=>KM l az R K D d (k+1) v (acc++[(fp v x).2]) (by omega) (by simp;omega) aY (by have:=I;simp only[pU,if_neg h]at this;exact this) (by have:=G;simp only[pU,if_neg h]at this;rw[List.append_assoc];exact this)
  refine⟨?_,?_⟩
  ·rw[bW (L:=wc),Wk rfl rfl rfl,cM];rw[aG];exact cV (by simp only[len];omega) ⟨⟨by omega,by simp only[len];omega⟩,aA,aA,cI (fun h=>⟨by simp only[len,List.length_cons,List.length_nil];omega,by rw[di (by omega)];exact(ok h).1⟩) (fun h=>⟨by simp only[len,List.length_cons,List.length_nil];omega,by rw[di (by omega)];exact(bad h).2⟩)⟩
  ·rw[bW (L:=yK),Wl rfl rfl rfl,cM];rw[aG];exact cV (by simp only[len];omega) ⟨⟨by omega,by simp only[len];omega⟩,aA,aA,cI (fun h=>⟨by simp only[len,List.length_cons,List.length_nil];omega,by rw[di (by omega)];exact(ok h).1⟩) (fun h=>⟨by simp only[len,List.length_cons,List.length_nil];omega,by rw[di (by omega)];exact(bad h).2⟩)⟩
theorem akJ:bo 41 HP:=b2 (Γ:=Cq) 0 (((bn.f Ya).f X9).f Nr) Tryz.func41 (by kernel_rfl) fun vs au=>by
 unfold HP;split;rotate_left;trivial;rename_i aJ vs ws fu up al ah ak aj aa ab us cs W now l;refine⟨by kernel_rfl,fun K D=>?_⟩;refine⟨l.length+2,?_⟩;obtain⟨v0,bX⟩:∃v0,v0=mr ⟨aJ,vs,⟨⟨ws,fu⟩,up,⟨⟨al,ah,ak⟩,aj⟩,aa,ab⟩,us,cs,W,now⟩:=⟨_,rfl⟩
 refine cf (fun rec=>(by subst bX;kernel_rfl:_=(
  J (!(ar v0 0))
  (K (.ao [.agg fk,.one (af []),.one (A v0)]) [])
  (J (aL 160 (len l:Int))
  (K (.ao [.agg fk,.one (af []),.one (A 2)]) [])
  (okW ⟨aJ,vs,⟨⟨ws,fu⟩,up,⟨⟨al,ah,ak⟩,aj⟩,aa,ab⟩,us,cs,W,now⟩=true /\
  rec wc (ET 0 (len l:Int) l 0 [] [] 0 false 0 0 0 0 aJ vs ws fu up al ah ak aj aa ab now [] [] [] [] [] [] [] [] [] us cs W)))))) ?_
 subst bX;obtain⟨v,aR⟩:∃v:ke,v=⟨aJ,vs,⟨⟨ws,fu⟩,up,⟨⟨al,ah,ak⟩,aj⟩,aa,ab⟩,us,cs,W,now⟩:=⟨_,rfl⟩
 rw[<- aR]at D |-;unfold E9 at D;refine bG (fun h=>?_) (fun h=>bq (fun G=>?_) (fun G=>⟨oW.2 (Bv (xd h)),?_⟩))
 ·rw[if_neg h]at D;exact D
 ·rw[if_pos h,if_pos (show 160<l.length by simp only[len]at G;omega)]at D;exact D
 ·have Y:¬160<l.length:=by simp only[len]at G;omega
  rw[if_pos h,if_neg Y]at D;have q:=(KM l (by omega) (pU v l) K D l.length 0 v [] (by omega) (Nat.le_refl _) (Bv (xd h)) rfl rfl).1;rw[aR]at q;exact q

def GW:a7
 |[.agg [.E (.list .int) ws,.E .int fu,.E .bool up,.E .int bw,.E .int bz]],[]=>some (none,.ao [.one (af (Fc ⟨⟨ws,fu⟩,up,bw,bz⟩).1),.one (A (Fc ⟨⟨ws,fu⟩,up,bw,bz⟩).2.1),.one (A (Fc ⟨⟨ws,fu⟩,up,bw,bz⟩).2.2)],[])
 |_,_=>none

theorem ajT:bo 42 GW:=b2 0 (((bn.f Yx).f Fp).f BW) Tryz.func42 (by kernel_rfl) fun vs au=>by
 unfold GW;split;rotate_left;trivial;rename_i ws fu up bw bz;refine⟨by kernel_rfl,fun K D=>?_⟩;refine⟨1,?_⟩;obtain⟨aC,cT⟩:∃aC,aC=la ⟨ws,fu⟩ (c5 ⟨ws,fu⟩).slot:=⟨_,rfl⟩
 refine cf (fun rec=>(by subst cT;kernel_rfl:_=(
  J (!(ar (e4 ⟨⟨ws,fu⟩,up,bw,bz⟩) 0))
  (K (.ao [.one (af []),.one (A 0),.one (A (e4 ⟨⟨ws,fu⟩,up,bw,bz⟩))]) [])
  (K (.ao [.one (af aC.fst),.one (A aC.snd.fst),.one (A aC.snd.snd)]) [])))) ?_
 subst cT;unfold Fc at D;refine bG (fun h=>?_) (fun h=>?_)
 ·rw[if_neg h]at D;exact D
 ·rw[if_pos h]at D;exact D

def HR:a7
 |[],[]=>some (none,.one (ax true),[])
 |_,_=>none
def Zn:Ctx:=[(40,HO),(41,HP),(42,GW),(43,G5),(44,CI)]

theorem akK:bo 9 HR:=b2 (Γ:=Zn) 0 (((((bn.f qT).f XX).f ajT).f akJ).f akI) Tryz.func9 (by kernel_rfl) fun vs au=>by
 unfold HR;split;rotate_left;trivial;refine⟨by kernel_rfl,fun K D=>?_⟩;refine⟨40,?_⟩;have e:co Zn tab Tryz.f9 0 K 40 [.code (bR Tryz.f9)] (df [] [])=((((1:Int)<=(1:Int))/\(((1:Int)<=(4:Int))/\(true=true)))/\(((0:Int)<=(2:Int))/\((2:Int)<(3:Int)))/\(((0:Int)<=(0:Int))/\((0:Int)<(3:Int)))/\(640<=140737488355328)/\(800<=140737488355328)/\(960<=140737488355328)/\(1120<=140737488355328)/\(1600<=140737488355328)/\(((0:Int)<=(0:Int))/\((0:Int)<(10:Int)))/\(((0:Int)<=(1:Int))/\((1:Int)<(10:Int)))/\(((0:Int)<=(0:Int))/\((0:Int)<(1:Int)))/\(((0:Int)<=(0:Int))/\((0:Int)<(3:Int)))/\(((0:Int)<=(0:Int))/\((0:Int)<(1:Int)))/\(4<=140737488355328)/\K (.one (ax true)) []):=by kernel_rfl
 rw[e];exact⟨⟨by decide,by decide,rfl⟩,⟨by decide,by decide⟩,⟨by decide,by decide⟩,by decide,by decide,by decide,by decide,by decide,⟨by decide,by decide⟩,⟨by decide,by decide⟩,⟨by decide,by decide⟩,⟨by decide,by decide⟩,⟨by decide,by decide⟩,by decide,D⟩

def Qe:a7
 |[.one (.E (.list .str) a),.one (.E (.list .str) b)],[]=>some (some (a.length<=140737488355328),.one (ax (eF eqs a b)),[])
 |_,_=>none
def OA:Ctx:=[]
def yB:List cu:=[.inLoop [13,12,4,0,1] (Code.sub (bR Tryz.f49) [1,1,0,1,0,0]),.inBlock 0,.code (Code.sub (bR Tryz.f49) [1,1,1])]
def L7(F ai:Int)(M:Bool)(ag an:cD):bO:=⟨[(13,.one (A F)),(12,.one (A ai)),(4,.one (ax M)),(0,.one (.E (z.list z.str) ag)),(1,.one (.E (z.list z.str) an))],[],0⟩
theorem V9{F:Int}{rec:bV}{K:aU}{ai M ag an}{v0}(bX:v0=fun a=>L7 a ai M ag an):b5 OA tab Tryz.f49 0 K rec (cU yB) (v0 F)=(
 J (aL F ai)
 (((0:Int)<=F/\F<(len ag:Int)) /\
 ((0:Int)<=F/\F<(len an:Int)) /\
 J (!(eqs (nth ag (Int.toNat F) (z.H z.str)) (nth an (Int.toNat F) (z.H z.str))))
 (K dt [])
 (rec yB (v0 (U (F+1)))))
 (K mY [])):=by subst_vars;kernel_rfl

theorem Uc(a b:cD)(az:a.length=b.length)(av:a.length<=140737488355328)(K:aU):∀(d k:Nat),k+d=a.length->K (.one (ax (eF eqs (a.drop k) (b.drop k)))) [] ->
  co OA tab Tryz.f49 0 K (d+1) yB (L7 (k:Int) (((len a):Nat):Int) false a b)
 |0,k,ae,D=>by
  rw[bW (L:=yB),V9 rfl];refine ci (by simp only[len];omega) ?_;rw[List.drop_of_length_le (by omega),List.drop_of_length_le (by omega)]at D;exact D
 |d+1,k,ae,D=>by
  rw[bW (L:=yB),V9 rfl,cM];rw[ee (l:=a) (by omega) (z.H .str),ee (l:=b) (by omega) (z.H .str)]at D;simp only[eF]at D;refine cV (by simp only[len];omega) ⟨⟨by omega,by simp only[len];omega⟩,⟨by omega,by simp only[len];omega⟩,ew (fun dj=>?_) (fun heq=>?_)⟩
  ·rw[show eqs (nth a k (z.H .str)) (nth b k (z.H .str))=false from dj]at D;exact D
  ·rw[di (by omega)];rw[show eqs (nth a k (z.H .str)) (nth b k (z.H .str))=true from heq,Bool.true_and]at D;exact Uc a b az av K d (k+1) (by omega) D
theorem Ye:bo 49 Qe:=b2 (Γ:=OA) 0 bn Tryz.func49 (by kernel_rfl) fun vs au=>by
 unfold Qe;split;rotate_left;trivial;rename_i a b;refine⟨by kernel_rfl,fun ad K D=>?_⟩;refine⟨a.length+2,?_⟩;refine cf (fun rec=>(by kernel_rfl:_=(
  J (!(ar (len a:Int) (len b:Int)))
  (K dt [])
  (rec yB (L7 0 (len a:Int) false a b))))) ?_
 refine bG (fun h=>?_) (fun h=>?_)
 ·rw[tr eqs a b (by simp only[len]at h;omega)]at D;exact D
 ·exact Uc a b (by simp only[len]at h;omega) ad K a.length 0 (by omega) D

def Qd:a7
 |[.one (.E (.list .signed) a),.one (.E (.list .signed) b)],[]=>some (some (a.length<=140737488355328),.one (ax (eF nG a b)),[])
 |_,_=>none
def Oz:Ctx:=[]
def yA:List cu:=[.inLoop [13,12,4,0,1] (Code.sub (bR Tryz.f50) [1,1,0,1,0,0]),.inBlock 0,.code (Code.sub (bR Tryz.f50) [1,1,1])]
def L6(F ai:Int)(M:Bool)(ag an:cG):bO:=⟨[(13,.one (A F)),(12,.one (A ai)),(4,.one (ax M)),(0,.one (.E (z.list z.signed) ag)),(1,.one (.E (z.list z.signed) an))],[],0⟩
theorem V8{F:Int}{rec:bV}{K:aU}{ai M ag an}{v0}(bX:v0=fun a=>L6 a ai M ag an):b5 Oz tab Tryz.f50 0 K rec (cU yA) (v0 F)=(
 J (aL F ai)
 (((0:Int)<=F/\F<(len ag:Int)) /\
 ((0:Int)<=F/\F<(len an:Int)) /\
 J (!((ar (nth ag (Int.toNat F) (z.H z.signed)).key (nth an (Int.toNat F) (z.H z.signed)).key)&&((ar (nth ag (Int.toNat F) (z.H z.signed)).name (nth an (Int.toNat F) (z.H z.signed)).name)&&true)))
 (K dt [])
 (rec yA (v0 (U (F+1)))))
 (K mY [])):=by subst_vars;kernel_rfl

theorem Ub(a b:cG)(az:a.length=b.length)(av:a.length<=140737488355328)(K:aU):∀(d k:Nat),k+d=a.length->K (.one (ax (eF nG (a.drop k) (b.drop k)))) [] ->
  co Oz tab Tryz.f50 0 K (d+1) yA (L6 (k:Int) (((len a):Nat):Int) false a b)
 |0,k,ae,D=>by
  rw[bW (L:=yA),V8 rfl];refine ci (by simp only[len];omega) ?_;rw[List.drop_of_length_le (by omega),List.drop_of_length_le (by omega)]at D;exact D
 |d+1,k,ae,D=>by
  rw[bW (L:=yA),V8 rfl,cM];rw[ee (l:=a) (by omega) (z.H .signed),ee (l:=b) (by omega) (z.H .signed)]at D;simp only[eF]at D;refine cV (by simp only[len];omega) ⟨⟨by omega,by simp only[len];omega⟩,⟨by omega,by simp only[len];omega⟩,ew (fun dj=>?_) (fun heq=>?_)⟩
  ·rw[show nG (nth a k (z.H .signed)) (nth b k (z.H .signed))=false from by simpa[nG]using dj]at D;exact D
  ·rw[di (by omega)];rw[show nG (nth a k (z.H .signed)) (nth b k (z.H .signed))=true from by simpa[nG]using heq,Bool.true_and]at D;exact Ub a b az av K d (k+1) (by omega) D
theorem Yd:bo 50 Qd:=b2 (Γ:=Oz) 0 bn Tryz.func50 (by kernel_rfl) fun vs au=>by
 unfold Qd;split;rotate_left;trivial;rename_i a b;refine⟨by kernel_rfl,fun ad K D=>?_⟩;refine⟨a.length+2,?_⟩;refine cf (fun rec=>(by kernel_rfl:_=(
  J (!(ar (len a:Int) (len b:Int)))
  (K dt [])
  (rec yA (L6 0 (len a:Int) false a b))))) ?_
 refine bG (fun h=>?_) (fun h=>?_)
 ·rw[tr nG a b (by simp only[len]at h;omega)]at D;exact D
 ·exact Ub a b (by simp only[len]at h;omega) ad K a.length 0 (by omega) D

def Qn:a7
 |[.agg [.E (.list .int) ws,.E .int fu],.agg [.E (.list .int) us,.E .int nb]],[]=>some (some (eW ws),.one (ax (kR ⟨ws,fu⟩ ⟨us,nb⟩)),[])
 |_,_=>none

theorem Yr:bo 115 Qn:=b2 0 (bn.f qT) Tryz.func115 (by kernel_rfl) fun vs au=>by
 unfold Qn;split;rotate_left;trivial;rename_i ws fu us nb;refine⟨by kernel_rfl,fun ad K D=>?_⟩;refine⟨1,?_⟩;refine cf (fun rec=>(by kernel_rfl:_=(
  J (ar fu nb)
  (List.length ws<=140737488355328 /\
  K (.one (ax (gx ws us))) [])
  (K dt [])))) ?_
 refine cI (fun h=>⟨ad,?_⟩) (fun h=>?_)
 ·rw[show kR ⟨ws,fu⟩ ⟨us,nb⟩=gx ws us from by simp[kR,h]]at D;exact D
 ·rw[show kR ⟨ws,fu⟩ ⟨us,nb⟩=false from by simp[kR,h]]at D;exact D

def PA:a7
 |[.agg [.E .int v,.E (.list .int) aF,.E .int t,.E .int n],.agg [.E .int aC,.E (.list .int) Kz,.E .int t2,.E .int iN]],[]=>some (some (eW aF),.one (ax (BQ ⟨⟨v,aF,t⟩,n⟩ ⟨⟨aC,Kz,t2⟩,iN⟩)),[])
 |_,_=>none

theorem ajI:bo 116 PA:=b2 0 (bn.f qT) Tryz.func116 (by kernel_rfl) fun vs au=>by
 unfold PA;split;rotate_left;trivial;rename_i v aF t n aC Kz t2 iN;refine⟨by kernel_rfl,fun ad K D=>?_⟩;refine⟨1,?_⟩;refine cf (fun rec=>(by kernel_rfl:_=(
  J (ar n iN)
  (J (ar v aC)
  (J (ar t t2)
  (List.length aF<=140737488355328 /\
  K (.one (ax (gx aF Kz))) [])
  (K dt []))
  (K dt []))
  (K dt [])))) ?_
 unfold BQ at D;simp only at D;refine b3 (fun h=>b3 (fun G=>b3 (fun Y=>⟨ad,?_⟩) (fun Y=>?_)) (fun G=>?_)) (fun h=>?_)
 ·rw[h,G,Y]at D;exact D
 ·rw[h,G,Y]at D;exact D
 ·rw[h,G]at D;exact D
 ·rw[h]at D;exact D

def PO:a7
 |[.one (.E (.list .bool) a),.one (.E (.list .bool) b)],[]=>some (some (len a<=140737488355328),.one (ax (mx a b)),[])
 |_,_=>none
def Oj:Ctx:=[]
def yh:List cu:=[.inLoop [13,12,4,0,1] (Code.sub (bR Tryz.f62) [1,1,0,1,0,0]),.inBlock 0,.code (Code.sub (bR Tryz.f62) [1,1,1])]
def LI(F ai:Int)(M:Bool)(ag an:da):bO:=⟨[(13,.one (A F)),(12,.one (A ai)),(4,.one (ax M)),(0,.one (bh ag)),(1,.one (bh an))],[],0⟩
theorem VI{F:Int}{rec:bV}{K:aU}{ai M ag an}{v0}(bX:v0=fun a=>LI a ai M ag an):b5 Oj tab Tryz.f62 0 K rec (cU yh) (v0 F)=(
 J (aL F ai)
 (((0:Int)<=F/\F<(len ag:Int)) /\
 ((0:Int)<=F/\F<(len an:Int)) /\
 J (!(h3 (nth ag (Int.toNat F) (z.H z.bool)) (nth an (Int.toNat F) (z.H z.bool))))
 (K dt [])
 (rec yh (v0 (U (F+1)))))
 (K mY [])):=by subst_vars;kernel_rfl

theorem T0(a b:da)(az:a.length=b.length)(av:a.length<=140737488355328)(K:aU)(D:K (.one (ax (mx a b))) []):∀(d k:Nat),k+d=a.length->a.take k=b.take k ->
  co Oj tab Tryz.f62 0 K (d+1) yh (LI (k:Int) (((len a):Nat):Int) false a b)
 |0,k,ae,bv=>by
  rw[bW (L:=yh),VI rfl];refine ci (by simp only[len];omega) ?_;rw[List.take_of_length_le (by omega),List.take_of_length_le (by omega)]at bv;rw[show mx a b=true from decide_eq_true bv]at D;exact D
 |d+1,k,ae,bv=>by
  rw[bW (L:=yh),VI rfl];refine cV (by simp only[len];omega) ⟨⟨by omega,by simp only[len];omega⟩,⟨by omega,by simp only[len];omega⟩,ew (fun dj=>?_) (fun heq=>?_)⟩
  ·have dj:=of_decide_eq_false dj;rw[show mx a b=false from decide_eq_false (by rintro rfl;exact dj rfl)]at D;exact D
  ·have heq:=of_decide_eq_true heq;rw[di (by omega)];refine T0 a b az av K D d (k+1) (by omega) ?_;rw[iz (by omega) (z.H z.bool),iz (by omega) (z.H z.bool),bv];rw[cM]at heq;rw[heq]
theorem XU:bo 62 PO:=b2 (Γ:=Oj) 0 bn Tryz.func62 (by kernel_rfl) fun vs au=>by
 unfold PO;split;rotate_left;trivial;rename_i a b;refine⟨by kernel_rfl,fun ad K D=>?_⟩;refine⟨a.length+2,?_⟩;refine cf (fun rec=>(by kernel_rfl:_=(
  J (!(ar (len a:Int) (len b:Int)))
  (K dt [])
  (rec yh (LI 0 (len a:Int) false a b))))) ?_
 refine bG (fun h=>?_) (fun h=>?_)
 ·rw[show mx a b=false from decide_eq_false (by rintro rfl;exact h rfl)]at D;exact D
 ·exact T0 a b (by simp only[len]at h;omega) ad K D a.length 0 (by omega) rfl

def PY:a7
 |[.agg [.E (.list .int) ws,.E .int fu,.E .bool up,.E .int al,.E (.list .int) ah,.E .int ak,.E .int aj,.E (.list .bool) aa,.E (.list .bool) ab],.agg [.E (.list .int) iB,.E .int il,.E .bool iA,.E .int ll,.E (.list .int) lh,.E .int lk,.E .int lj,.E (.list .bool) lp,.E (.list .bool) kY]],[]=>some (some (eW ws/\eW ah/\len aa<=140737488355328/\len ab<=140737488355328),.one (ax (BP ⟨⟨ws,fu⟩,up,⟨⟨al,ah,ak⟩,aj⟩,aa,ab⟩ ⟨⟨iB,il⟩,iA,⟨⟨ll,lh,lk⟩,lj⟩,lp,kY⟩)),[])
 |_,_=>none

theorem aj6:bo 51 PY:=b2 0 (((bn.f XU).f ajI).f Yr) Tryz.func51 (by kernel_rfl) fun vs au=>by
 unfold PY;split;rotate_left;trivial;rename_i ws fu up al ah ak aj aa ab iB il iA ll lh lk lj lp kY;refine⟨by kernel_rfl,fun ad K D=>?_⟩;refine⟨1,?_⟩;refine cf (fun rec=>(by kernel_rfl:_=(
  List.length ws<=140737488355328 /\
  J (kR ⟨ws,fu⟩ ⟨iB,il⟩)
  (J (h3 up iA)
  (List.length ah<=140737488355328 /\
  J (BQ ⟨⟨al,ah,ak⟩,aj⟩ ⟨⟨ll,lh,lk⟩,lj⟩)
  (len aa<=140737488355328 /\
  J (mx aa lp)
  (len ab<=140737488355328 /\
  K (.one (ax (mx ab kY))) [])
  (K dt []))
  (K dt []))
  (K dt []))
  (K dt [])))) ?_
 unfold BP at D;simp only at D;refine⟨ad.1,b3 (fun I=>b3 (fun G=>⟨ad.2.1,b3 (fun Y=>⟨ad.2.2.1,b3 (fun aS=>⟨ad.2.2.2,?_⟩) (fun aS=>?_)⟩) (fun Y=>?_)⟩) (fun G=>?_)) (fun I=>?_)⟩
 ·rw[I,G,Y,aS]at D;exact D
 ·rw[I,G,Y,aS]at D;exact D
 ·rw[I,G,Y]at D;exact D
 ·rw[I,G]at D;exact D
 ·rw[I]at D;exact D

def P5:a7
 |[.agg [.E (.list .int) ws,.E .int fu],.agg [.E (.list .int) us,.E .int nb]],[]=>some (some (eW ws),.one (ax (kR ⟨ws,fu⟩ ⟨us,nb⟩)),[])
 |_,_=>none

theorem X3:bo 61 P5:=b2 0 (bn.f qT) Tryz.func61 (by kernel_rfl) fun vs au=>by
 unfold P5;split;rotate_left;trivial;rename_i ws fu us nb;refine⟨by kernel_rfl,fun ad K D=>?_⟩;refine⟨1,?_⟩;refine cf (fun rec=>(by kernel_rfl:_=(
  J (ar fu nb)
  (List.length ws<=140737488355328 /\
  K (.one (ax (gx ws us))) [])
  (K dt [])))) ?_
 refine cI (fun h=>⟨ad,?_⟩) (fun h=>?_)
 ·rw[show kR ⟨ws,fu⟩ ⟨us,nb⟩=gx ws us from by simp[kR,h]]at D;exact D
 ·rw[show kR ⟨ws,fu⟩ ⟨us,nb⟩=false from by simp[kR,h]]at D;exact D

def HG:a7
 |[.agg [.E (.list .int) ws,.E .int fu,.E .bool up,.E .int bw,.E .int bz],.agg [.E (.list .int) iB,.E .int il,.E .bool iA,.E .int wD,.E .int wC]],[]=>some (some (eW ws),.one (ax (iZ ⟨⟨ws,fu⟩,up,bw,bz⟩ ⟨⟨iB,il⟩,iA,wD,wC⟩)),[])
 |_,_=>none

theorem Yf:bo 60 HG:=b2 0 (bn.f X3) Tryz.func60 (by kernel_rfl) fun vs au=>by
 unfold HG;split;rotate_left;trivial;rename_i ws fu up bw bz iB il iA wD wC;refine⟨by kernel_rfl,fun ad K D=>?_⟩;refine⟨1,?_⟩;refine cf (fun rec=>(by kernel_rfl:_=(
  List.length ws<=140737488355328 /\
  J (kR ⟨ws,fu⟩ ⟨iB,il⟩)
  (J (h3 up iA)
  (J (ar bw wD)
  (K (.one (ax (ar bz wC))) [])
  (K dt []))
  (K dt []))
  (K dt [])))) ?_
 unfold iZ at D;simp only at D;refine⟨ad,b3 (fun I=>b3 (fun G=>b3 (fun Y=>?_) (fun Y=>?_)) (fun G=>?_)) (fun I=>?_)⟩
 ·rw[I,G,Y]at D;exact D
 ·rw[I,G,Y]at D;exact D
 ·rw[I,G]at D;exact D
 ·rw[I]at D;exact D

def GZ:a7
 |[.agg [.E (.list .int) ws,.E .int fu,.E .bool up,.E .int bw,.E .int bz],.agg [.E (.list .int) iB,.E .int il,.E .bool iA,.E .int wD,.E .int wC]],[]=>some (some (eW ws),.one (ax (iZ ⟨⟨ws,fu⟩,up,bw,bz⟩ ⟨⟨iB,il⟩,iA,wD,wC⟩)),[])
 |_,_=>none

theorem XQ:bo 53 GZ:=b2 0 (bn.f Yr) Tryz.func53 (by kernel_rfl) fun vs au=>by
 unfold GZ;split;rotate_left;trivial;rename_i ws fu up bw bz iB il iA wD wC;refine⟨by kernel_rfl,fun ad K D=>?_⟩;refine⟨1,?_⟩;refine cf (fun rec=>(by kernel_rfl:_=(
  List.length ws<=140737488355328 /\
  J (kR ⟨ws,fu⟩ ⟨iB,il⟩)
  (J (h3 up iA)
  (J (ar bw wD)
  (K (.one (ax (ar bz wC))) [])
  (K dt []))
  (K dt []))
  (K dt [])))) ?_
 unfold iZ at D;simp only at D;refine⟨ad,b3 (fun I=>b3 (fun G=>b3 (fun Y=>?_) (fun Y=>?_)) (fun G=>?_)) (fun I=>?_)⟩
 ·rw[I,G,Y]at D;exact D
 ·rw[I,G,Y]at D;exact D
 ·rw[I,G]at D;exact D
 ·rw[I]at D;exact D

def Qf:a7
 |[.one (.E (.list .aO) a),.one (.E (.list .aO) b),.one (.fn f [])],[]=>(match Nat.beq f 60 with|true=>some (some (a.length<=140737488355328/\pW a=true),.one (ax (eF iZ a b)),[])|false=>(match Nat.beq f 53 with|true=>some (some (a.length<=140737488355328/\pW a=true),.one (ax (eF iZ a b)),[])|false=>none))
 |_,_=>none
def s7:Ctx:=[(60,HG),(53,GZ)]
theorem afS:fr Tryz.prog tab s7:=((bn.f XQ).f Yf)
def yC:List cu:=[.inLoop [17,16,15,6,1,2] (cy nL [1,1,0,1,0,0]),.inBlock 0,.code (cy nL [1,1,1])]
def L8(F ai:Int)(M:cZ)(ag:Bool)(an:cZ):bO:=⟨[(17,.one (A F)),(16,.one (A ai)),(15,.one (.E (z.list z.aO) M)),(6,.one (ax ag)),(1,.one (.E (z.list z.aO) an)),(2,.one (.fn 60 []))],[],0⟩
theorem ahC(a b:cZ)(rec:bV)(K:aU):b5 s7 tab nL 0 K rec [.code (bR nL)] (df [.one (.E (z.list z.aO) a),.one (.E (z.list z.aO) b),.one (.fn 60 [])] [])=(
 J (!(ar (len a:Int) (len b:Int)))
 (K dt [])
 (rec yC (L8 0 (len a:Int) a false b))):=by kernel_rfl
theorem Wa{F:Int}{rec:bV}{K:aU}{ai M ag an}{v1 v0}(b9:v1=fun a=>L8 a ai M ag an)(bX:v0=iZ ⟨⟨((nth M (Int.toNat F) (z.H z.aO)).f).words,((nth M (Int.toNat F) (z.H z.aO)).f).fuel⟩,(nth M (Int.toNat F) (z.H z.aO)).up,(nth M (Int.toNat F) (z.H z.aO)).n,(nth M (Int.toNat F) (z.H z.aO)).eG⟩ ⟨⟨((nth an (Int.toNat F) (z.H z.aO)).f).words,((nth an (Int.toNat F) (z.H z.aO)).f).fuel⟩,(nth an (Int.toNat F) (z.H z.aO)).up,(nth an (Int.toNat F) (z.H z.aO)).n,(nth an (Int.toNat F) (z.H z.aO)).eG⟩):b5 s7 tab nL 0 K rec (cU yC) (v1 F)=(
 J (aL F ai)
 (((0:Int)<=F/\F<(len M:Int)) /\
 ((0:Int)<=F/\F<(len an:Int)) /\
 List.length ((nth M (Int.toNat F) (z.H z.aO)).f).words<=140737488355328 /\
 J (!v0)
 (K dt [])
 (rec yC (v1 (U (F+1)))))
 (K mY [])):=by subst_vars;kernel_rfl

def yD:List cu:=[.inLoop [17,16,15,6,1,2] (cy nL [1,1,0,1,0,0]),.inBlock 0,.code (cy nL [1,1,1])]
def L9(F ai:Int)(M:cZ)(ag:Bool)(an:cZ):bO:=⟨[(17,.one (A F)),(16,.one (A ai)),(15,.one (.E (z.list z.aO) M)),(6,.one (ax ag)),(1,.one (.E (z.list z.aO) an)),(2,.one (.fn 53 []))],[],0⟩
theorem ahD(a b:cZ)(rec:bV)(K:aU):b5 s7 tab nL 0 K rec [.code (bR nL)] (df [.one (.E (z.list z.aO) a),.one (.E (z.list z.aO) b),.one (.fn 53 [])] [])=(
 J (!(ar (len a:Int) (len b:Int)))
 (K dt [])
 (rec yD (L9 0 (len a:Int) a false b))):=by kernel_rfl
theorem Wb{F:Int}{rec:bV}{K:aU}{ai M ag an}{v1 v0}(b9:v1=fun a=>L9 a ai M ag an)(bX:v0=iZ ⟨⟨((nth M (Int.toNat F) (z.H z.aO)).f).words,((nth M (Int.toNat F) (z.H z.aO)).f).fuel⟩,(nth M (Int.toNat F) (z.H z.aO)).up,(nth M (Int.toNat F) (z.H z.aO)).n,(nth M (Int.toNat F) (z.H z.aO)).eG⟩ ⟨⟨((nth an (Int.toNat F) (z.H z.aO)).f).words,((nth an (Int.toNat F) (z.H z.aO)).f).fuel⟩,(nth an (Int.toNat F) (z.H z.aO)).up,(nth an (Int.toNat F) (z.H z.aO)).n,(nth an (Int.toNat F) (z.H z.aO)).eG⟩):b5 s7 tab nL 0 K rec (cU yD) (v1 F)=(
 J (aL F ai)
 (((0:Int)<=F/\F<(len M:Int)) /\
 ((0:Int)<=F/\F<(len an:Int)) /\
 List.length ((nth M (Int.toNat F) (z.H z.aO)).f).words<=140737488355328 /\
 J (!v0)
 (K dt [])
 (rec yD (v1 (U (F+1)))))
 (K mY [])):=by subst_vars;kernel_rfl

theorem Ud(a b:cZ)(az:a.length=b.length)(av:a.length<=140737488355328)(aw:pW a=true)(K:aU):∀(d k:Nat),k+d=a.length->K (.one (ax (eF iZ (a.drop k) (b.drop k)))) [] ->
  co s7 tab nL 0 K (d+1) yC (L8 (k:Int) (((len a):Nat):Int) a false b)
 |0,k,ae,D=>by
  rw[bW (L:=yC),Wa rfl rfl];refine ci (by simp only[len];omega) ?_;rw[List.drop_of_length_le (by omega),List.drop_of_length_le (by omega)]at D;exact D
 |d+1,k,ae,D=>by
  rw[bW (L:=yC),Wa rfl rfl,cM];have aB:nth a k (z.H .aO)∈a:=by
   have:k<a.length:=by omega
   simp[nth,List.getD_eq_getElem?_getD,this]
  rw[ee (l:=a) (by omega) (z.H .aO),ee (l:=b) (by omega) (z.H .aO)]at D;simp only[eF]at D;refine cV (by simp only[len];omega) ⟨⟨by omega,by simp only[len];omega⟩,⟨by omega,by simp only[len];omega⟩,M4 aw aB,ew (fun dj=>?_) (fun heq=>?_)⟩
  ·rw[show iZ (nth a k (z.H .aO)) (nth b k (z.H .aO))=false from dj]at D;exact D
  ·rw[di (by omega)];rw[show iZ (nth a k (z.H .aO)) (nth b k (z.H .aO))=true from heq,Bool.true_and]at D;exact Ud a b az av aw K d (k+1) (by omega) D
theorem aiQ(ad:a.length<=140737488355328/\pW a=true)(K:aU)(D:K (.one (ax (eF iZ a b))) []):ku s7 nL 0 K [.one (.E (z.list z.aO) a),.one (.E (z.list z.aO) b),.one (.fn 60 [])] []:=by
 refine⟨a.length+2,?_⟩;rw[eB,ahC _ _ _ _];refine bG (fun h=>?_) (fun h=>?_)
 ·rw[tr iZ a b (by simp only[len]at h;omega)]at D;exact D
 ·exact Ud a b (by simp only[len]at h;omega) ad.1 ad.2 K a.length 0 (by omega) D
theorem Ue(a b:cZ)(az:a.length=b.length)(av:a.length<=140737488355328)(aw:pW a=true)(K:aU):∀(d k:Nat),k+d=a.length->K (.one (ax (eF iZ (a.drop k) (b.drop k)))) [] ->
  co s7 tab nL 0 K (d+1) yD (L9 (k:Int) (((len a):Nat):Int) a false b)
 |0,k,ae,D=>by
  rw[bW (L:=yD),Wb rfl rfl];refine ci (by simp only[len];omega) ?_;rw[List.drop_of_length_le (by omega),List.drop_of_length_le (by omega)]at D;exact D
 |d+1,k,ae,D=>by
  rw[bW (L:=yD),Wb rfl rfl,cM];have aB:nth a k (z.H .aO)∈a:=by
   have:k<a.length:=by omega
   simp[nth,List.getD_eq_getElem?_getD,this]
  rw[ee (l:=a) (by omega) (z.H .aO),ee (l:=b) (by omega) (z.H .aO)]at D;simp only[eF]at D;refine cV (by simp only[len];omega) ⟨⟨by omega,by simp only[len];omega⟩,⟨by omega,by simp only[len];omega⟩,M4 aw aB,ew (fun dj=>?_) (fun heq=>?_)⟩
  ·rw[show iZ (nth a k (z.H .aO)) (nth b k (z.H .aO))=false from dj]at D;exact D
  ·rw[di (by omega)];rw[show iZ (nth a k (z.H .aO)) (nth b k (z.H .aO))=true from heq,Bool.true_and]at D;exact Ue a b az av aw K d (k+1) (by omega) D
theorem aiR(ad:a.length<=140737488355328/\pW a=true)(K:aU)(D:K (.one (ax (eF iZ a b))) []):ku s7 nL 0 K [.one (.E (z.list z.aO) a),.one (.E (z.list z.aO) b),.one (.fn 53 [])] []:=by
 refine⟨a.length+2,?_⟩;rw[eB,ahD _ _ _ _];refine bG (fun h=>?_) (fun h=>?_)
 ·rw[tr iZ a b (by simp only[len]at h;omega)]at D;exact D
 ·exact Ue a b (by simp only[len]at h;omega) ad.1 ad.2 K a.length 0 (by omega) D
theorem Yh:bo 52 Qf:=hj afS Tryz.func52 (by kernel_rfl) (by
 intro vs au p v du h ad;unfold Qf at h;split at h
 ·split at h
  ·rename_i dW;have dW:=Nat.eq_of_beq_eq_true dW;subst dW;cases h;exact⟨by kernel_rfl,rfl,.inl (aiQ _ _ ad.1 _ ⟨rfl,rfl⟩)⟩
  ·split at h
   ·rename_i dW;have dW:=Nat.eq_of_beq_eq_true dW;subst dW;cases h;exact⟨by kernel_rfl,rfl,.inl (aiR _ _ ad.1 _ ⟨rfl,rfl⟩)⟩
   ·cases h
 ·cases h)

def GX:a7
 |[.agg [.E .int mk,.E .int ba,.E .int bb,.E .int bB,.E .int ch,.E (.list .int) bQ,.E .bool cz],.agg [.E .int wk,.E .int wo,.E .int wm,.E .int wi,.E .int wj,.E (.list .int) wq,.E .bool wu]],[]=>some (some (eW bQ),.one (ax (oZ ⟨mk,ba,bb,bB,ch,bQ,cz⟩ ⟨wk,wo,wm,wi,wj,wq,wu⟩)),[])
 |_,_=>none

theorem XO:bo 117 GX:=b2 0 (bn.f qT) Tryz.func117 (by kernel_rfl) fun vs au=>by
 unfold GX;split;rotate_left;trivial;rename_i mk ba bb bB ch bQ cz wk wo wm wi wj wq wu;refine⟨by kernel_rfl,fun ad K D=>?_⟩;refine⟨1,?_⟩;refine cf (fun rec=>(by kernel_rfl:_=(
  J (ar mk wk)
  (J (ar ba wo)
  (J (ar bb wm)
  (J (ar bB wi)
  (J (ar ch wj)
  (J (h3 cz wu)
  (List.length bQ<=140737488355328 /\
  K (.one (ax (gx bQ wq))) [])
  (K dt []))
  (K dt []))
  (K dt []))
  (K dt []))
  (K dt []))
  (K dt [])))) ?_
 unfold oZ at D;simp only at D;refine b3 (fun I=>b3 (fun G=>b3 (fun Y=>b3 (fun aS=>b3 (fun bj=>b3 (fun bK=>⟨ad,?_⟩) (fun bK=>?_)) (fun bj=>?_)) (fun aS=>?_)) (fun Y=>?_)) (fun G=>?_)) (fun I=>?_)
 ·rw[I,G,Y,aS,bj,bK]at D;exact D
 ·rw[I,G,Y,aS,bj,bK]at D;exact D
 ·rw[I,G,Y,aS,bj]at D;exact D
 ·rw[I,G,Y,aS]at D;exact D
 ·rw[I,G,Y]at D;exact D
 ·rw[I,G]at D;exact D
 ·rw[I]at D;exact D

def HH:a7
 |[.agg [.E .int mk,.E .int ba,.E .int bb,.E .int bB,.E .int ch,.E (.list .int) bQ,.E .bool cz],.agg [.E .int wk,.E .int wo,.E .int wm,.E .int wi,.E .int wj,.E (.list .int) wq,.E .bool wu]],[]=>some (some (eW bQ),.one (ax (oZ ⟨mk,ba,bb,bB,ch,bQ,cz⟩ ⟨wk,wo,wm,wi,wj,wq,wu⟩)),[])
 |_,_=>none

theorem Yg:bo 65 HH:=b2 0 (bn.f qT) Tryz.func65 (by kernel_rfl) fun vs au=>by
 unfold HH;split;rotate_left;trivial;rename_i mk ba bb bB ch bQ cz wk wo wm wi wj wq wu;refine⟨by kernel_rfl,fun ad K D=>?_⟩;refine⟨1,?_⟩;refine cf (fun rec=>(by kernel_rfl:_=(
  J (ar mk wk)
  (J (ar ba wo)
  (J (ar bb wm)
  (J (ar bB wi)
  (J (ar ch wj)
  (List.length bQ<=140737488355328 /\
  J (gx bQ wq)
  (K (.one (ax (h3 cz wu))) [])
  (K dt []))
  (K dt []))
  (K dt []))
  (K dt []))
  (K dt []))
  (K dt [])))) ?_
 unfold oZ at D;simp only at D;refine b3 (fun I=>b3 (fun G=>b3 (fun Y=>b3 (fun aS=>b3 (fun bj=>⟨ad,b3 (fun bK=>?_) (fun bK=>?_)⟩) (fun bj=>?_)) (fun aS=>?_)) (fun Y=>?_)) (fun G=>?_)) (fun I=>?_)
 ·rw[I,G,Y,aS,bj,bK]at D;simpa using D
 ·rw[I,G,Y,aS,bj,bK]at D;simpa using D
 ·rw[I,G,Y,aS,bj]at D;exact D
 ·rw[I,G,Y,aS]at D;exact D
 ·rw[I,G,Y]at D;exact D
 ·rw[I,G]at D;exact D
 ·rw[I]at D;exact D

def PJ:a7
 |[.one (.E (.list .message) a),.one (.E (.list .message) b),.one (.fn f [])],[]=>(match Nat.beq f 117 with|true=>some (some (a.length<=140737488355328/\kT a=true),.one (ax (kS a b)),[])|false=>(match Nat.beq f 65 with|true=>some (some (a.length<=140737488355328/\kT a=true),.one (ax (kS a b)),[])|false=>none))
 |_,_=>none
def s6:Ctx:=[(117,GX),(65,HH)]
theorem afG:fr Tryz.prog tab s6:=((bn.f Yg).f XO)
def yb:List cu:=[.inLoop [17,16,15,6,1,2] (cy nK [1,1,0,1,0,0]),.inBlock 0,.code (cy nK [1,1,1])]
def LB(F ai:Int)(M:cF)(ag:Bool)(an:cF):bO:=⟨[(17,.one (A F)),(16,.one (A ai)),(15,.one (bs M)),(6,.one (ax ag)),(1,.one (bs an)),(2,.one (.fn 117 []))],[],0⟩
theorem ahd(a b:cF)(rec:bV)(K:aU):b5 s6 tab nK 0 K rec [.code (bR nK)] (df [.one (bs a),.one (bs b),.one (.fn 117 [])] [])=(
 J (!(ar (len a:Int) (len b:Int)))
 (K dt [])
 (rec yb (LB 0 (len a:Int) a false b))):=by kernel_rfl
theorem VC{F:Int}{rec:bV}{K:aU}{ai M ag an}{v1 v0}(b9:v1=fun a=>LB a ai M ag an)(bX:v0=oZ ⟨(nth M (Int.toNat F) (z.H z.message)).kind,(nth M (Int.toNat F) (z.H z.message)).unit,(nth M (Int.toNat F) (z.H z.message)).n,(nth M (Int.toNat F) (z.H z.message)).at_,(nth M (Int.toNat F) (z.H z.message)).image,(nth M (Int.toNat F) (z.H z.message)).words,(nth M (Int.toNat F) (z.H z.message)).yes⟩ ⟨(nth an (Int.toNat F) (z.H z.message)).kind,(nth an (Int.toNat F) (z.H z.message)).unit,(nth an (Int.toNat F) (z.H z.message)).n,(nth an (Int.toNat F) (z.H z.message)).at_,(nth an (Int.toNat F) (z.H z.message)).image,(nth an (Int.toNat F) (z.H z.message)).words,(nth an (Int.toNat F) (z.H z.message)).yes⟩):b5 s6 tab nK 0 K rec (cU yb) (v1 F)=(
 J (aL F ai)
 (((0:Int)<=F/\F<(len M:Int)) /\
 ((0:Int)<=F/\F<(len an:Int)) /\
 List.length (nth M (Int.toNat F) (z.H z.message)).words<=140737488355328 /\
 J (!v0)
 (K dt [])
 (rec yb (v1 (U (F+1)))))
 (K mY [])):=by subst_vars;kernel_rfl

def yc:List cu:=[.inLoop [17,16,15,6,1,2] (cy nK [1,1,0,1,0,0]),.inBlock 0,.code (cy nK [1,1,1])]
def LC(F ai:Int)(M:cF)(ag:Bool)(an:cF):bO:=⟨[(17,.one (A F)),(16,.one (A ai)),(15,.one (bs M)),(6,.one (ax ag)),(1,.one (bs an)),(2,.one (.fn 65 []))],[],0⟩
theorem ahe(a b:cF)(rec:bV)(K:aU):b5 s6 tab nK 0 K rec [.code (bR nK)] (df [.one (bs a),.one (bs b),.one (.fn 65 [])] [])=(
 J (!(ar (len a:Int) (len b:Int)))
 (K dt [])
 (rec yc (LC 0 (len a:Int) a false b))):=by kernel_rfl
theorem VD{F:Int}{rec:bV}{K:aU}{ai M ag an}{v1 v0}(b9:v1=fun a=>LC a ai M ag an)(bX:v0=oZ ⟨(nth M (Int.toNat F) (z.H z.message)).kind,(nth M (Int.toNat F) (z.H z.message)).unit,(nth M (Int.toNat F) (z.H z.message)).n,(nth M (Int.toNat F) (z.H z.message)).at_,(nth M (Int.toNat F) (z.H z.message)).image,(nth M (Int.toNat F) (z.H z.message)).words,(nth M (Int.toNat F) (z.H z.message)).yes⟩ ⟨(nth an (Int.toNat F) (z.H z.message)).kind,(nth an (Int.toNat F) (z.H z.message)).unit,(nth an (Int.toNat F) (z.H z.message)).n,(nth an (Int.toNat F) (z.H z.message)).at_,(nth an (Int.toNat F) (z.H z.message)).image,(nth an (Int.toNat F) (z.H z.message)).words,(nth an (Int.toNat F) (z.H z.message)).yes⟩):b5 s6 tab nK 0 K rec (cU yc) (v1 F)=(
 J (aL F ai)
 (((0:Int)<=F/\F<(len M:Int)) /\
 ((0:Int)<=F/\F<(len an:Int)) /\
 List.length (nth M (Int.toNat F) (z.H z.message)).words<=140737488355328 /\
 J (!v0)
 (K dt [])
 (rec yc (v1 (U (F+1)))))
 (K mY [])):=by subst_vars;kernel_rfl

theorem TU(a b:cF)(az:a.length=b.length)(av:a.length<=140737488355328)(aw:kT a=true)(K:aU):∀(d k:Nat),k+d=a.length->K (.one (ax (kS (a.drop k) (b.drop k)))) [] ->
  co s6 tab nK 0 K (d+1) yb (LB (k:Int) (((len a):Nat):Int) a false b)
 |0,k,ae,D=>by
  rw[bW (L:=yb),VC rfl rfl];refine ci (by simp only[len];omega) ?_;rw[List.drop_of_length_le (by omega),List.drop_of_length_le (by omega)]at D;exact D
 |d+1,k,ae,D=>by
  rw[bW (L:=yb),VC rfl rfl,cM];have aB:nth a k (z.H .message)∈a:=by
   have:k<a.length:=by omega
   simp[nth,List.getD_eq_getElem?_getD,this]
  rw[ee (l:=a) (by omega) (z.H .message),ee (l:=b) (by omega) (z.H .message)]at D;simp only[kS]at D;refine cV (by simp only[len];omega) ⟨⟨by omega,by simp only[len];omega⟩,⟨by omega,by simp only[len];omega⟩,by simpa using List.all_eq_true.1 aw _ aB,ew (fun dj=>?_) (fun heq=>?_)⟩
  ·rw[show oZ (nth a k (z.H .message)) (nth b k (z.H .message))=false from dj]at D;exact D
  ·rw[di (by omega)];rw[show oZ (nth a k (z.H .message)) (nth b k (z.H .message))=true from heq,Bool.true_and]at D;exact TU a b az av aw K d (k+1) (by omega) D
theorem aiy(a b:cF)(ad:a.length<=140737488355328/\kT a=true)(K:aU)(D:K (.one (ax (kS a b))) []):ku s6 nK 0 K [.one (bs a),.one (bs b),.one (.fn 117 [])] []:=by
 refine⟨a.length+2,?_⟩;rw[eB,ahd _ _ _ _];refine bG (fun h=>?_) (fun h=>?_)
 ·rw[MV a b (by simp only[len]at h;omega)]at D;exact D
 ·exact TU a b (by simp only[len]at h;omega) ad.1 ad.2 K a.length 0 (by omega) D
theorem TV(a b:cF)(az:a.length=b.length)(av:a.length<=140737488355328)(aw:kT a=true)(K:aU):∀(d k:Nat),k+d=a.length->K (.one (ax (kS (a.drop k) (b.drop k)))) [] ->
  co s6 tab nK 0 K (d+1) yc (LC (k:Int) (((len a):Nat):Int) a false b)
 |0,k,ae,D=>by
  rw[bW (L:=yc),VD rfl rfl];refine ci (by simp only[len];omega) ?_;rw[List.drop_of_length_le (by omega),List.drop_of_length_le (by omega)]at D;exact D
 |d+1,k,ae,D=>by
  rw[bW (L:=yc),VD rfl rfl,cM];have aB:nth a k (z.H .message)∈a:=by
   have:k<a.length:=by omega
   simp[nth,List.getD_eq_getElem?_getD,this]
  rw[ee (l:=a) (by omega) (z.H .message),ee (l:=b) (by omega) (z.H .message)]at D;simp only[kS]at D;refine cV (by simp only[len];omega) ⟨⟨by omega,by simp only[len];omega⟩,⟨by omega,by simp only[len];omega⟩,by simpa using List.all_eq_true.1 aw _ aB,ew (fun dj=>?_) (fun heq=>?_)⟩
  ·rw[show oZ (nth a k (z.H .message)) (nth b k (z.H .message))=false from dj]at D;exact D
  ·rw[di (by omega)];rw[show oZ (nth a k (z.H .message)) (nth b k (z.H .message))=true from heq,Bool.true_and]at D;exact TV a b az av aw K d (k+1) (by omega) D
theorem aiz(a b:cF)(ad:a.length<=140737488355328/\kT a=true)(K:aU)(D:K (.one (ax (kS a b))) []):ku s6 nK 0 K [.one (bs a),.one (bs b),.one (.fn 65 [])] []:=by
 refine⟨a.length+2,?_⟩;rw[eB,ahe _ _ _ _];refine bG (fun h=>?_) (fun h=>?_)
 ·rw[MV a b (by simp only[len]at h;omega)]at D;exact D
 ·exact TV a b (by simp only[len]at h;omega) ad.1 ad.2 K a.length 0 (by omega) D
theorem XP:bo 64 PJ:=hj afG Tryz.func64 (by kernel_rfl) (by
 intro vs au p v du h ad;unfold PJ at h;split at h
 ·split at h
  ·rename_i dW;have dW:=Nat.eq_of_beq_eq_true dW;subst dW;cases h;exact⟨by kernel_rfl,rfl,.inl (aiy _ _ ad.1 _ ⟨rfl,rfl⟩)⟩
  ·split at h
   ·rename_i dW;have dW:=Nat.eq_of_beq_eq_true dW;subst dW;cases h;exact⟨by kernel_rfl,rfl,.inl (aiz _ _ ad.1 _ ⟨rfl,rfl⟩)⟩
   ·cases h
 ·cases h)

def PK:a7
 |[.one (.E (.list .message) a),.one (.E (.list .message) b)],[]=>some (some (a.length<=140737488355328/\kT a=true),.one (ax (kS a b)),[])
 |_,_=>none

theorem ajV:bo 54 PK:=b2 0 ((bn.f XO).f XP) Tryz.func54 (by kernel_rfl) fun vs au=>by
 unfold PK;split;rotate_left;trivial;rename_i a b;refine⟨by kernel_rfl,fun ad K D=>?_⟩;refine⟨1,?_⟩;refine cf (fun rec=>(by kernel_rfl:_=(
  (List.length a<=140737488355328/\kT a=true) /\
  K (.one (ax (kS a b))) []))) ?_
 exact⟨ad,D⟩

def Qc:a7
 |[.one (.E (.list .target) a),.one (.E (.list .target) b)],[]=>some (some (a.length<=140737488355328),.one (ax (eF my a b)),[])
 |_,_=>none
def Oy:Ctx:=[]
def yz:List cu:=[.inLoop [13,12,4,0,1] (Code.sub (bR Tryz.f118) [1,1,0,1,0,0]),.inBlock 0,.code (Code.sub (bR Tryz.f118) [1,1,1])]
def L5(F ai:Int)(M:Bool)(ag an:LT):bO:=⟨[(13,.one (A F)),(12,.one (A ai)),(4,.one (ax M)),(0,.one (.E (z.list z.target) ag)),(1,.one (.E (z.list z.target) an))],[],0⟩
theorem V7{F:Int}{rec:bV}{K:aU}{ai M ag an}{v0}(bX:v0=fun a=>L5 a ai M ag an):b5 Oy tab Tryz.f118 0 K rec (cU yz) (v0 F)=(
 J (aL F ai)
 (((0:Int)<=F/\F<(len ag:Int)) /\
 ((0:Int)<=F/\F<(len an:Int)) /\
 J (!((ar (nth ag (Int.toNat F) (z.H z.target)).unit (nth an (Int.toNat F) (z.H z.target)).unit)&&((ar (nth ag (Int.toNat F) (z.H z.target)).image (nth an (Int.toNat F) (z.H z.target)).image)&&((ar (nth ag (Int.toNat F) (z.H z.target)).dr (nth an (Int.toNat F) (z.H z.target)).dr)&&true))))
 (K dt [])
 (rec yz (v0 (U (F+1)))))
 (K mY [])):=by subst_vars;kernel_rfl

theorem Ua(a b:LT)(az:a.length=b.length)(av:a.length<=140737488355328)(K:aU):∀(d k:Nat),k+d=a.length->K (.one (ax (eF my (a.drop k) (b.drop k)))) [] ->
  co Oy tab Tryz.f118 0 K (d+1) yz (L5 (k:Int) (((len a):Nat):Int) false a b)
 |0,k,ae,D=>by
  rw[bW (L:=yz),V7 rfl];refine ci (by simp only[len];omega) ?_;rw[List.drop_of_length_le (by omega),List.drop_of_length_le (by omega)]at D;exact D
 |d+1,k,ae,D=>by
  rw[bW (L:=yz),V7 rfl,cM];rw[ee (l:=a) (by omega) (z.H .target),ee (l:=b) (by omega) (z.H .target)]at D;simp only[eF]at D;refine cV (by simp only[len];omega) ⟨⟨by omega,by simp only[len];omega⟩,⟨by omega,by simp only[len];omega⟩,ew (fun dj=>?_) (fun heq=>?_)⟩
  ·rw[show my (nth a k (z.H .target)) (nth b k (z.H .target))=false from by simpa[my]using dj]at D;exact D
  ·rw[di (by omega)];rw[show my (nth a k (z.H .target)) (nth b k (z.H .target))=true from by simpa[my]using heq,Bool.true_and]at D;exact Ua a b az av K d (k+1) (by omega) D
theorem Yc:bo 118 Qc:=b2 (Γ:=Oy) 0 bn Tryz.func118 (by kernel_rfl) fun vs au=>by
 unfold Qc;split;rotate_left;trivial;rename_i a b;refine⟨by kernel_rfl,fun ad K D=>?_⟩;refine⟨a.length+2,?_⟩;refine cf (fun rec=>(by kernel_rfl:_=(
  J (!(ar (len a:Int) (len b:Int)))
  (K dt [])
  (rec yz (L5 0 (len a:Int) false a b))))) ?_
 refine bG (fun h=>?_) (fun h=>?_)
 ·rw[tr my a b (by simp only[len]at h;omega)]at D;exact D
 ·exact Ua a b (by simp only[len]at h;omega) ad K a.length 0 (by omega) D

def HI:a7
 |[.one (.E (.list .int) a),.one (.E (.list .int) b)],[]=>some (some (eW a),.one (ax (gx a b)),[])
 |_,_=>none

theorem Yi:bo 120 HI:=b2 0 (bn.f qT) Tryz.func120 (by kernel_rfl) fun vs au=>by
 unfold HI;split;rotate_left;trivial;rename_i a b;refine⟨by kernel_rfl,fun ad K D=>?_⟩;refine⟨1,?_⟩;refine cf (fun rec=>(by kernel_rfl:_=(
  List.length a<=140737488355328 /\
  K (.one (ax (gx a b))) []))) ?_
 exact⟨ad,D⟩

def HS:a7
 |[.one (.E (.list .int) a),.one (.E (.list .int) b)],[]=>some (some (eW a),.one (ax (gx a b)),[])
 |_,_=>none

theorem Yo:bo 59 HS:=b2 0 (bn.f qT) Tryz.func59 (by kernel_rfl) fun vs au=>by
 unfold HS;split;rotate_left;trivial;rename_i a b;refine⟨by kernel_rfl,fun ad K D=>?_⟩;refine⟨1,?_⟩;refine cf (fun rec=>(by kernel_rfl:_=(
  List.length a<=140737488355328 /\
  K (.one (ax (gx a b))) []))) ?_
 exact⟨ad,D⟩

def Qg:a7
 |[.one (.E (.list (.list .int)) a),.one (.E (.list (.list .int)) b),.one (.fn f [])],[]=>(match Nat.beq f 120 with|true=>some (some (a.length<=140737488355328/\hB a=true),.one (ax (jH a b)),[])|false=>(match Nat.beq f 59 with|true=>some (some (a.length<=140737488355328/\hB a=true),.one (ax (jH a b)),[])|false=>none))
 |_,_=>none
def s8:Ctx:=[(120,HI),(59,HS)]
theorem afT:fr Tryz.prog tab s8:=((bn.f Yo).f Yi)
def yE:List cu:=[.inLoop [17,16,15,6,1,2] (cy nM [1,1,0,1,0,0]),.inBlock 0,.code (cy nM [1,1,1])]
def Ma(F ai:Int)(M:cj)(ag:Bool)(an:cj):bO:=⟨[(17,.one (A F)),(16,.one (A ai)),(15,.one (ct M)),(6,.one (ax ag)),(1,.one (ct an)),(2,.one (.fn 120 []))],[],0⟩
theorem ahE(a b:cj)(rec:bV)(K:aU):b5 s8 tab nM 0 K rec [.code (bR nM)] (df [.one (ct a),.one (ct b),.one (.fn 120 [])] [])=(
 J (!(ar (len a:Int) (len b:Int)))
 (K dt [])
 (rec yE (Ma 0 (len a:Int) a false b))):=by kernel_rfl
theorem Wc{F:Int}{rec:bV}{K:aU}{ai M ag an}{v1 v0}(b9:v1=fun a=>Ma a ai M ag an)(bX:v0=gx (nth M (Int.toNat F) (z.H (z.list z.int))) (nth an (Int.toNat F) (z.H (z.list z.int)))):b5 s8 tab nM 0 K rec (cU yE) (v1 F)=(
 J (aL F ai)
 (((0:Int)<=F/\F<(len M:Int)) /\
 ((0:Int)<=F/\F<(len an:Int)) /\
 List.length (nth M (Int.toNat F) (z.H (z.list z.int)))<=140737488355328 /\
 J (!v0)
 (K dt [])
 (rec yE (v1 (U (F+1)))))
 (K mY [])):=by subst_vars;kernel_rfl

def yF:List cu:=[.inLoop [17,16,15,6,1,2] (cy nM [1,1,0,1,0,0]),.inBlock 0,.code (cy nM [1,1,1])]
def Mb(F ai:Int)(M:cj)(ag:Bool)(an:cj):bO:=⟨[(17,.one (A F)),(16,.one (A ai)),(15,.one (ct M)),(6,.one (ax ag)),(1,.one (ct an)),(2,.one (.fn 59 []))],[],0⟩
theorem ahF(a b:cj)(rec:bV)(K:aU):b5 s8 tab nM 0 K rec [.code (bR nM)] (df [.one (ct a),.one (ct b),.one (.fn 59 [])] [])=(
 J (!(ar (len a:Int) (len b:Int)))
 (K dt [])
 (rec yF (Mb 0 (len a:Int) a false b))):=by kernel_rfl
theorem Wd{F:Int}{rec:bV}{K:aU}{ai M ag an}{v1 v0}(b9:v1=fun a=>Mb a ai M ag an)(bX:v0=gx (nth M (Int.toNat F) (z.H (z.list z.int))) (nth an (Int.toNat F) (z.H (z.list z.int)))):b5 s8 tab nM 0 K rec (cU yF) (v1 F)=(
 J (aL F ai)
 (((0:Int)<=F/\F<(len M:Int)) /\
 ((0:Int)<=F/\F<(len an:Int)) /\
 List.length (nth M (Int.toNat F) (z.H (z.list z.int)))<=140737488355328 /\
 J (!v0)
 (K dt [])
 (rec yF (v1 (U (F+1)))))
 (K mY [])):=by subst_vars;kernel_rfl

theorem Uf(a b:cj)(az:a.length=b.length)(av:a.length<=140737488355328)(aw:hB a=true)(K:aU)(D:K (.one (ax (jH a b))) []):∀(d k:Nat),k+d=a.length->a.take k=b.take k ->
  co s8 tab nM 0 K (d+1) yE (Ma (k:Int) (((len a):Nat):Int) a false b)
 |0,k,ae,bv=>by
  rw[bW (L:=yE),Wc rfl rfl];refine ci (by simp only[len];omega) ?_;rw[List.take_of_length_le (by omega),List.take_of_length_le (by omega)]at bv;rw[show jH a b=true from by simp[jH,bv]]at D;exact D
 |d+1,k,ae,bv=>by
  rw[bW (L:=yE),Wc rfl rfl,cM];have aB:nth a k (z.H (.list .int))∈a:=by
   have:k<a.length:=by omega
   simp[nth,List.getD_eq_getElem?_getD,this]
  refine cV (by simp only[len];omega) ⟨⟨by omega,by simp only[len];omega⟩,⟨by omega,by simp only[len];omega⟩,by simpa using List.all_eq_true.1 aw _ aB,ew (fun dj=>?_) (fun heq=>?_)⟩
  ·rw[show jH a b=false from by
    simp only[gx,decide_eq_false_iff_not]at dj;simp only[jH,decide_eq_false_iff_not];rintro rfl;exact dj rfl]at D
   exact D
  ·rw[di (by omega)];simp only[gx,decide_eq_true_eq]at heq;refine Uf a b az av aw K D d (k+1) (by omega) ?_;rw[iz (by omega) (z.H (.list .int)),iz (by omega) (z.H (.list .int)),bv,heq]
theorem aiS(a b:cj)(ad:a.length<=140737488355328/\hB a=true)(K:aU)(D:K (.one (ax (jH a b))) []):ku s8 nM 0 K [.one (ct a),.one (ct b),.one (.fn 120 [])] []:=by
 refine⟨a.length+2,?_⟩;rw[eB,ahE _ _ _ _];refine bG (fun h=>?_) (fun h=>?_)
 ·rw[show jH a b=false from by simp only[jH,decide_eq_false_iff_not];rintro rfl;exact h rfl]at D;exact D
 ·exact Uf a b (by simp only[len]at h;omega) ad.1 ad.2 K D a.length 0 (by omega) rfl
theorem Ug(a b:cj)(az:a.length=b.length)(av:a.length<=140737488355328)(aw:hB a=true)(K:aU)(D:K (.one (ax (jH a b))) []):∀(d k:Nat),k+d=a.length->a.take k=b.take k ->
  co s8 tab nM 0 K (d+1) yF (Mb (k:Int) (((len a):Nat):Int) a false b)
 |0,k,ae,bv=>by
  rw[bW (L:=yF),Wd rfl rfl];refine ci (by simp only[len];omega) ?_;rw[List.take_of_length_le (by omega),List.take_of_length_le (by omega)]at bv;rw[show jH a b=true from by simp[jH,bv]]at D;exact D
 |d+1,k,ae,bv=>by
  rw[bW (L:=yF),Wd rfl rfl,cM];have aB:nth a k (z.H (.list .int))∈a:=by
   have:k<a.length:=by omega
   simp[nth,List.getD_eq_getElem?_getD,this]
  refine cV (by simp only[len];omega) ⟨⟨by omega,by simp only[len];omega⟩,⟨by omega,by simp only[len];omega⟩,by simpa using List.all_eq_true.1 aw _ aB,ew (fun dj=>?_) (fun heq=>?_)⟩
  ·rw[show jH a b=false from by
    simp only[gx,decide_eq_false_iff_not]at dj;simp only[jH,decide_eq_false_iff_not];rintro rfl;exact dj rfl]at D
   exact D
  ·rw[di (by omega)];simp only[gx,decide_eq_true_eq]at heq;refine Ug a b az av aw K D d (k+1) (by omega) ?_;rw[iz (by omega) (z.H (.list .int)),iz (by omega) (z.H (.list .int)),bv,heq]
theorem aiT(a b:cj)(ad:a.length<=140737488355328/\hB a=true)(K:aU)(D:K (.one (ax (jH a b))) []):ku s8 nM 0 K [.one (ct a),.one (ct b),.one (.fn 59 [])] []:=by
 refine⟨a.length+2,?_⟩;rw[eB,ahF _ _ _ _];refine bG (fun h=>?_) (fun h=>?_)
 ·rw[show jH a b=false from by simp only[jH,decide_eq_false_iff_not];rintro rfl;exact h rfl]at D;exact D
 ·exact Ug a b (by simp only[len]at h;omega) ad.1 ad.2 K D a.length 0 (by omega) rfl
theorem Yj:bo 58 Qg:=hj afT Tryz.func58 (by kernel_rfl) (by
 intro vs au p v du h ad;unfold Qg at h;split at h
 ·split at h
  ·rename_i dW;have dW:=Nat.eq_of_beq_eq_true dW;subst dW;cases h;exact⟨by kernel_rfl,rfl,.inl (aiS _ _ ad.1 _ ⟨rfl,rfl⟩)⟩
  ·split at h
   ·rename_i dW;have dW:=Nat.eq_of_beq_eq_true dW;subst dW;cases h;exact⟨by kernel_rfl,rfl,.inl (aiT _ _ ad.1 _ ⟨rfl,rfl⟩)⟩
   ·cases h
 ·cases h)

def HJ:a7
 |[.agg [.E .int eA,.E .int eY,.E .int ei,.E (.list .target) dH,.E (.list (.list .int)) cP],.agg [.E .int ve,.E .int se,.E .int sd,.E (.list .target) sc,.E (.list (.list .int)) tj]],[]=>some (some (dH.length<=140737488355328/\cP.length<=140737488355328/\hB cP=true),.one (ax (ix ⟨eA,⟨eY,ei,dH⟩,cP⟩ ⟨ve,⟨se,sd,sc⟩,tj⟩)),[])
 |_,_=>none

theorem Yk:bo 119 HJ:=b2 0 (((bn.f Yi).f Yj).f Yc) Tryz.func119 (by kernel_rfl) fun vs au=>by
 unfold HJ;split;rotate_left;trivial;rename_i eA eY ei dH cP ve se sd sc tj;refine⟨by kernel_rfl,fun ad K D=>?_⟩;obtain⟨e0,fj,g2⟩:=ad;refine⟨1,?_⟩;refine cf (fun rec=>(by kernel_rfl:_=(
  J (ar eA ve)
  (J (ar eY se)
  (J (ar ei sd)
  (List.length dH<=140737488355328 /\
  J (eF my dH sc)
  ((List.length cP<=140737488355328/\hB cP=true) /\
  K (.one (ax (jH cP tj))) [])
  (K dt []))
  (K dt []))
  (K dt []))
  (K dt [])))) ?_
 unfold ix at D;simp only at D;refine b3 (fun I=>b3 (fun G=>b3 (fun Y=>⟨e0,b3 (fun aS=>⟨⟨fj,g2⟩,?_⟩) (fun aS=>?_)⟩) (fun Y=>?_)) (fun G=>?_)) (fun I=>?_)
 ·rw[I,G,Y,aS]at D;exact D
 ·rw[I,G,Y,aS]at D;exact D
 ·rw[I,G,Y]at D;exact D
 ·rw[I,G]at D;exact D
 ·rw[I]at D;exact D

def Ql:a7
 |[.agg [.E .int Gt,.E .int Gs,.E (.list .target) at_],.agg [.E .int u9,.E .int GD,.E (.list .target) w6]],[]=>some (some (at_.length<=140737488355328),.one (ax (ar Gt u9&&ar Gs GD&&eF my at_ w6)),[])
 |_,_=>none

theorem akM:bo 57 Ql:=b2 0 (bn.f Yc) Tryz.func57 (by kernel_rfl) fun vs au=>by
 unfold Ql;split;rotate_left;trivial;rename_i Gt Gs at_ u9 GD w6;refine⟨by kernel_rfl,fun ad K D=>?_⟩;refine⟨1,?_⟩;refine cf (fun rec=>(by kernel_rfl:_=(
  J (ar Gt u9)
  (J (ar Gs GD)
  (List.length at_<=140737488355328 /\
  K (.one (ax (eF my at_ w6))) [])
  (K dt []))
  (K dt [])))) ?_
 refine b3 (fun h=>b3 (fun k=>⟨ad,?_⟩) (fun k=>?_)) (fun h=>?_)
 ·rw[h,k]at D;exact D
 ·rw[h,k]at D;exact D
 ·rw[h]at D;exact D

def HT:a7
 |[.agg [.E .int eA,.E .int eY,.E .int ei,.E (.list .target) dH,.E (.list (.list .int)) cP],.agg [.E .int ve,.E .int se,.E .int sd,.E (.list .target) sc,.E (.list (.list .int)) tj]],[]=>some (some (dH.length<=140737488355328/\cP.length<=140737488355328/\hB cP=true),.one (ax (ix ⟨eA,⟨eY,ei,dH⟩,cP⟩ ⟨ve,⟨se,sd,sc⟩,tj⟩)),[])
 |_,_=>none

theorem Yp:bo 56 HT:=b2 0 (((bn.f Yo).f Yj).f akM) Tryz.func56 (by kernel_rfl) fun vs au=>by
 unfold HT;split;rotate_left;trivial;rename_i eA eY ei dH cP ve se sd sc tj;refine⟨by kernel_rfl,fun ad K D=>?_⟩;obtain⟨e0,fj,g2⟩:=ad;refine⟨1,?_⟩;refine cf (fun rec=>(by kernel_rfl:_=(
  J (ar eA ve)
  (List.length dH<=140737488355328 /\
  J (((ar eY se)&&(ar ei sd))&&(eF my dH sc))
  ((List.length cP<=140737488355328/\hB cP=true) /\
  K (.one (ax (jH cP tj))) [])
  (K dt []))
  (K dt [])))) ?_
 unfold ix at D;simp only at D;refine b3 (fun I=>⟨e0,b3 (fun G=>⟨⟨fj,g2⟩,?_⟩) (fun G=>?_)⟩) (fun I=>?_)
 ·simp only[Bool.and_eq_true]at G;rw[I,G.1.1,G.1.2,G.2]at D;exact D
 ·have e:(ar eY se&&(ar ei sd&&(eF my dH sc&&jH cP tj)))=false:=by
   cases a:ar eY se<;>cases b:ar ei sd<;>cases c:eF my dH sc<;>simp_all
  rw[I,e]at D;exact D
 ·rw[I]at D;exact D

def Qh:a7
 |[.one (.E (.list .aP) a),.one (.E (.list .aP) b),.one (.fn f [])],[]=>(match Nat.beq f 119 with|true=>some (some (a.length<=140737488355328/\o2 a=true),.one (ax (eF ix a b)),[])|false=>(match Nat.beq f 56 with|true=>some (some (a.length<=140737488355328/\o2 a=true),.one (ax (eF ix a b)),[])|false=>none))
 |_,_=>none
def s9:Ctx:=[(119,HJ),(56,HT)]
theorem afV:fr Tryz.prog tab s9:=((bn.f Yp).f Yk)
def yG:List cu:=[.inLoop [17,16,15,6,1,2] (cy nO [1,1,0,1,0,0]),.inBlock 0,.code (cy nO [1,1,1])]
def Mc(F ai:Int)(M:c3)(ag:Bool)(an:c3):bO:=⟨[(17,.one (A F)),(16,.one (A ai)),(15,.one (.E (z.list z.aP) M)),(6,.one (ax ag)),(1,.one (.E (z.list z.aP) an)),(2,.one (.fn 119 []))],[],0⟩
theorem ahG(a b:c3)(rec:bV)(K:aU):b5 s9 tab nO 0 K rec [.code (bR nO)] (df [.one (.E (z.list z.aP) a),.one (.E (z.list z.aP) b),.one (.fn 119 [])] [])=(
 J (!(ar (len a:Int) (len b:Int)))
 (K dt [])
 (rec yG (Mc 0 (len a:Int) a false b))):=by kernel_rfl
theorem We{F:Int}{rec:bV}{K:aU}{ai M ag an}{aC v0 v1}(cT:aC=fun a=>Mc a ai M ag an)(bX:v0=hB (nth M (Int.toNat F) (z.H z.aP)).cQ)(b9:v1=ix ⟨(nth M (Int.toNat F) (z.H z.aP)).n,⟨((nth M (Int.toNat F) (z.H z.aP)).r).version,((nth M (Int.toNat F) (z.H z.aP)).r).cg,((nth M (Int.toNat F) (z.H z.aP)).r).targets⟩,(nth M (Int.toNat F) (z.H z.aP)).cQ⟩ ⟨(nth an (Int.toNat F) (z.H z.aP)).n,⟨((nth an (Int.toNat F) (z.H z.aP)).r).version,((nth an (Int.toNat F) (z.H z.aP)).r).cg,((nth an (Int.toNat F) (z.H z.aP)).r).targets⟩,(nth an (Int.toNat F) (z.H z.aP)).cQ⟩):b5 s9 tab nO 0 K rec (cU yG) (aC F)=(
 J (aL F ai)
 (((0:Int)<=F/\F<(len M:Int)) /\
 ((0:Int)<=F/\F<(len an:Int)) /\
 (List.length ((nth M (Int.toNat F) (z.H z.aP)).r).targets<=140737488355328/\List.length (nth M (Int.toNat F) (z.H z.aP)).cQ<=140737488355328/\v0=true) /\
 J (!v1)
 (K dt [])
 (rec yG (aC (U (F+1)))))
 (K mY [])):=by subst_vars;kernel_rfl

def yH:List cu:=[.inLoop [17,16,15,6,1,2] (cy nO [1,1,0,1,0,0]),.inBlock 0,.code (cy nO [1,1,1])]
def Md(F ai:Int)(M:c3)(ag:Bool)(an:c3):bO:=⟨[(17,.one (A F)),(16,.one (A ai)),(15,.one (.E (z.list z.aP) M)),(6,.one (ax ag)),(1,.one (.E (z.list z.aP) an)),(2,.one (.fn 56 []))],[],0⟩
theorem ahH(a b:c3)(rec:bV)(K:aU):b5 s9 tab nO 0 K rec [.code (bR nO)] (df [.one (.E (z.list z.aP) a),.one (.E (z.list z.aP) b),.one (.fn 56 [])] [])=(
 J (!(ar (len a:Int) (len b:Int)))
 (K dt [])
 (rec yH (Md 0 (len a:Int) a false b))):=by kernel_rfl
theorem Wf{F:Int}{rec:bV}{K:aU}{ai M ag an}{aC v0 v1}(cT:aC=fun a=>Md a ai M ag an)(bX:v0=hB (nth M (Int.toNat F) (z.H z.aP)).cQ)(b9:v1=ix ⟨(nth M (Int.toNat F) (z.H z.aP)).n,⟨((nth M (Int.toNat F) (z.H z.aP)).r).version,((nth M (Int.toNat F) (z.H z.aP)).r).cg,((nth M (Int.toNat F) (z.H z.aP)).r).targets⟩,(nth M (Int.toNat F) (z.H z.aP)).cQ⟩ ⟨(nth an (Int.toNat F) (z.H z.aP)).n,⟨((nth an (Int.toNat F) (z.H z.aP)).r).version,((nth an (Int.toNat F) (z.H z.aP)).r).cg,((nth an (Int.toNat F) (z.H z.aP)).r).targets⟩,(nth an (Int.toNat F) (z.H z.aP)).cQ⟩):b5 s9 tab nO 0 K rec (cU yH) (aC F)=(
 J (aL F ai)
 (((0:Int)<=F/\F<(len M:Int)) /\
 ((0:Int)<=F/\F<(len an:Int)) /\
 (List.length ((nth M (Int.toNat F) (z.H z.aP)).r).targets<=140737488355328/\List.length (nth M (Int.toNat F) (z.H z.aP)).cQ<=140737488355328/\v0=true) /\
 J (!v1)
 (K dt [])
 (rec yH (aC (U (F+1)))))
 (K mY [])):=by subst_vars;kernel_rfl

theorem Ui(a b:c3)(az:a.length=b.length)(av:a.length<=140737488355328)(aw:o2 a=true)(K:aU):∀(d k:Nat),k+d=a.length->K (.one (ax (eF ix (a.drop k) (b.drop k)))) [] ->
  co s9 tab nO 0 K (d+1) yG (Mc (k:Int) (((len a):Nat):Int) a false b)
 |0,k,ae,D=>by
  rw[bW (L:=yG),We rfl rfl rfl];refine ci (by simp only[len];omega) ?_;rw[List.drop_of_length_le (by omega),List.drop_of_length_le (by omega)]at D;exact D
 |d+1,k,ae,D=>by
  rw[bW (L:=yG),We rfl rfl rfl,cM];have aB:nth a k (z.H .aP)∈a:=by
   have:k<a.length:=by omega
   simp[nth,List.getD_eq_getElem?_getD,this]
  rw[ee (l:=a) (by omega) (z.H .aP),ee (l:=b) (by omega) (z.H .aP)]at D;simp only[eF]at D;refine cV (by simp only[len];omega) ⟨⟨by omega,by simp only[len];omega⟩,⟨by omega,by simp only[len];omega⟩,YP aw aB,ew (fun dj=>?_) (fun heq=>?_)⟩
  ·rw[show ix (nth a k (z.H .aP)) (nth b k (z.H .aP))=false from dj]at D;exact D
  ·rw[di (by omega)];rw[show ix (nth a k (z.H .aP)) (nth b k (z.H .aP))=true from heq,Bool.true_and]at D;exact Ui a b az av aw K d (k+1) (by omega) D
theorem aiV(a b:c3)(ad:a.length<=140737488355328/\o2 a=true)(K:aU)(D:K (.one (ax (eF ix a b))) []):ku s9 nO 0 K [.one (.E (z.list z.aP) a),.one (.E (z.list z.aP) b),.one (.fn 119 [])] []:=by
 refine⟨a.length+2,?_⟩;rw[eB,ahG _ _ _ _];refine bG (fun h=>?_) (fun h=>?_)
 ·rw[tr ix a b (by simp only[len]at h;omega)]at D;exact D
 ·exact Ui a b (by simp only[len]at h;omega) ad.1 ad.2 K a.length 0 (by omega) D
theorem Uj(a b:c3)(az:a.length=b.length)(av:a.length<=140737488355328)(aw:o2 a=true)(K:aU):∀(d k:Nat),k+d=a.length->K (.one (ax (eF ix (a.drop k) (b.drop k)))) [] ->
  co s9 tab nO 0 K (d+1) yH (Md (k:Int) (((len a):Nat):Int) a false b)
 |0,k,ae,D=>by
  rw[bW (L:=yH),Wf rfl rfl rfl];refine ci (by simp only[len];omega) ?_;rw[List.drop_of_length_le (by omega),List.drop_of_length_le (by omega)]at D;exact D
 |d+1,k,ae,D=>by
  rw[bW (L:=yH),Wf rfl rfl rfl,cM];have aB:nth a k (z.H .aP)∈a:=by
   have:k<a.length:=by omega
   simp[nth,List.getD_eq_getElem?_getD,this]
  rw[ee (l:=a) (by omega) (z.H .aP),ee (l:=b) (by omega) (z.H .aP)]at D;simp only[eF]at D;refine cV (by simp only[len];omega) ⟨⟨by omega,by simp only[len];omega⟩,⟨by omega,by simp only[len];omega⟩,YP aw aB,ew (fun dj=>?_) (fun heq=>?_)⟩
  ·rw[show ix (nth a k (z.H .aP)) (nth b k (z.H .aP))=false from dj]at D;exact D
  ·rw[di (by omega)];rw[show ix (nth a k (z.H .aP)) (nth b k (z.H .aP))=true from heq,Bool.true_and]at D;exact Uj a b az av aw K d (k+1) (by omega) D
theorem aiW(a b:c3)(ad:a.length<=140737488355328/\o2 a=true)(K:aU)(D:K (.one (ax (eF ix a b))) []):ku s9 nO 0 K [.one (.E (z.list z.aP) a),.one (.E (z.list z.aP) b),.one (.fn 56 [])] []:=by
 refine⟨a.length+2,?_⟩;rw[eB,ahH _ _ _ _];refine bG (fun h=>?_) (fun h=>?_)
 ·rw[tr ix a b (by simp only[len]at h;omega)]at D;exact D
 ·exact Uj a b (by simp only[len]at h;omega) ad.1 ad.2 K a.length 0 (by omega) D
theorem Yl:bo 55 Qh:=hj afV Tryz.func55 (by kernel_rfl) (by
 intro vs au p v du h ad;unfold Qh at h;split at h
 ·split at h
  ·rename_i dW;have dW:=Nat.eq_of_beq_eq_true dW;subst dW;cases h;exact⟨by kernel_rfl,rfl,.inl (aiV _ _ ad.1 _ ⟨rfl,rfl⟩)⟩
  ·split at h
   ·rename_i dW;have dW:=Nat.eq_of_beq_eq_true dW;subst dW;cases h;exact⟨by kernel_rfl,rfl,.inl (aiW _ _ ad.1 _ ⟨rfl,rfl⟩)⟩
   ·cases h
 ·cases h)
end
end Go.Proofs.YtlbppjmekiemiabGreatDoor
