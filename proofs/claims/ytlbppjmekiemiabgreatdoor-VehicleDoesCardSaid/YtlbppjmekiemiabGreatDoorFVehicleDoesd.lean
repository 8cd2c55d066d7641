/- What the functions of VehicleDoes compute (part 4 of 5). No condition. -/
import Derived.Test.YtlbppjmekiemiabGreatDoorFVehicleDoesc
import Derived.KernelRfl
namespace Go.Proofs.YtlbppjmekiemiabGreatDoor
noncomputable section
open bF
set_option maxHeartbeats 4000000
variable (cz up:Bool) (fu bB ch mk bb ba aj ak al:Int) (ab aa:da) (cs:List Change) (bQ ah ws:aK)
def HU:a7
 |[.agg [.E (.list .str) aJ,.E (.list .signed) vs,.E (.list .int) ws,.E .int fu,.E .bool up,.E .int al,.E (.list .int) ah,.E .int ak,.E .int aj,.E (.list .bool) aa,.E (.list .bool) ab,.E (.list .aO) us,.E (.list .aP) cs,.E (.list .message) W,.E .int now],.agg [.E (.list .str) nx,.E (.list .signed) ny,.E (.list .int) iB,.E .int il,.E .bool iA,.E .int ll,.E (.list .int) lh,.E .int lk,.E .int lj,.E (.list .bool) lp,.E (.list .bool) kY,.E (.list .aO) mX,.E (.list .aP) mu,.E (.list .message) nk,.E .int nl]],[]=>some (some (o3 ⟨aJ,vs,⟨⟨ws,fu⟩,up,⟨⟨al,ah,ak⟩,aj⟩,aa,ab⟩,us,cs,W,now⟩=true),.one (ax (o0 ⟨aJ,vs,⟨⟨ws,fu⟩,up,⟨⟨al,ah,ak⟩,aj⟩,aa,ab⟩,us,cs,W,now⟩ ⟨nx,ny,⟨⟨iB,il⟩,iA,⟨⟨ll,lh,lk⟩,lj⟩,lp,kY⟩,mX,mu,nk,nl⟩)),[])
 |_,_=>none

theorem akN:bo 11 HU:=b2 0 ((((((((bn.f Yp).f Yl).f ajV).f XQ).f Yh).f aj6).f Yd).f Ye) Tryz.func11 (by kernel_rfl) fun vs au=>by
 unfold HU;split;rotate_left;trivial;rename_i aJ vs ws fu up al ah ak aj aa ab us cs W now nx ny iB il iA ll lh lk lj lp kY mX mu nk nl;refine⟨by kernel_rfl,fun ad K D=>?_⟩;have S:=B5.1 ad;refine⟨1,?_⟩;refine cf (fun rec=>(by kernel_rfl:_=(
  List.length aJ<=140737488355328 /\
  J (eF eqs aJ nx)
  (List.length vs<=140737488355328 /\
  J (eF nG vs ny)
  ((List.length ws<=140737488355328/\List.length ah<=140737488355328/\len aa<=140737488355328/\len ab<=140737488355328) /\
  J (BP ⟨⟨ws,fu⟩,up,⟨⟨al,ah,ak⟩,aj⟩,aa,ab⟩ ⟨⟨iB,il⟩,iA,⟨⟨ll,lh,lk⟩,lj⟩,lp,kY⟩)
  ((List.length us<=140737488355328/\pW us=true) /\
  J (eF iZ us mX)
  (J (ar now nl)
  ((List.length W<=140737488355328/\kT W=true) /\
  J (kS W nk)
  ((List.length cs<=140737488355328/\o2 cs=true) /\
  K (.one (ax (eF ix cs mu))) [])
  (K dt []))
  (K dt []))
  (K dt []))
  (K dt []))
  (K dt []))
  (K dt [])))) ?_
 rw[ajb]at D;simp only at D;refine⟨S.b,b3 (fun a2=>⟨S.s,b3 (fun I=>⟨⟨S.ws,S.aF,S.aa,S.ab⟩,b3 (fun G=>⟨⟨S.us,S.u⟩,b3 (fun Y=>b3 (fun aS=>⟨⟨S.ns,S.m⟩,b3 (fun bj=>⟨⟨S.cs,S.c⟩,?_⟩) (fun bj=>?_)⟩) (fun aS=>?_)) (fun Y=>?_)⟩) (fun G=>?_)⟩) (fun I=>?_)⟩) (fun a2=>?_)⟩
 ·rw[a2,I,G,Y,aS,bj]at D;exact D
 ·rw[a2,I,G,Y,aS,bj]at D;exact D
 ·rw[a2,I,G,Y,aS]at D;exact D
 ·rw[a2,I,G,Y]at D;exact D
 ·rw[a2,I,G]at D;exact D
 ·rw[a2,I]at D;exact D
 ·rw[a2]at D;exact D

def Qi:a7
 |[.one (.E (.list .aP) a),.one (.E (.list .aP) b)],[]=>some (some (a.length<=140737488355328/\o2 a=true),.one (ax (eF ix a b)),[])
 |_,_=>none

theorem akC:bo 63 Qi:=b2 0 ((bn.f Yk).f Yl) Tryz.func63 (by kernel_rfl) fun vs au=>by
 unfold Qi;split;rotate_left;trivial;rename_i a b;refine⟨by kernel_rfl,fun ad K D=>?_⟩;refine⟨1,?_⟩;refine cf (fun rec=>(by kernel_rfl:_=(
  (List.length a<=140737488355328/\o2 a=true) /\
  K (.one (ax (eF ix a b))) []))) ?_
 exact⟨ad,D⟩

def HK:a7
 |[.agg [.E (.list .str) aJ,.E (.list .signed) vs,.E (.list .int) ws,.E .int fu,.E .bool up,.E .int al,.E (.list .int) ah,.E .int ak,.E .int aj,.E (.list .bool) aa,.E (.list .bool) ab,.E (.list .aO) us,.E (.list .aP) cs,.E (.list .message) W,.E .int now],.agg [.E (.list .str) nx,.E (.list .signed) ny,.E (.list .int) iB,.E .int il,.E .bool iA,.E .int ll,.E (.list .int) lh,.E .int lk,.E .int lj,.E (.list .bool) lp,.E (.list .bool) kY,.E (.list .aO) mX,.E (.list .aP) mu,.E (.list .message) nk,.E .int nl]],[]=>some (some (o3 ⟨aJ,vs,⟨⟨ws,fu⟩,up,⟨⟨al,ah,ak⟩,aj⟩,aa,ab⟩,us,cs,W,now⟩=true),.one (ax (o0 ⟨aJ,vs,⟨⟨ws,fu⟩,up,⟨⟨al,ah,ak⟩,aj⟩,aa,ab⟩,us,cs,W,now⟩ ⟨nx,ny,⟨⟨iB,il⟩,iA,⟨⟨ll,lh,lk⟩,lj⟩,lp,kY⟩,mX,mu,nk,nl⟩)),[])
 |_,_=>none

theorem akD:bo 12 HK:=b2 0 ((((((((((bn.f Yg).f XP).f akC).f Yf).f Yh).f Yd).f Ye).f XU).f qT).f X3) Tryz.func12 (by kernel_rfl) fun vs au=>by
 unfold HK;split;rotate_left;trivial;rename_i aJ vs ws fu up al ah ak aj aa ab us cs W now nx ny iB il iA ll lh lk lj lp kY mX mu nk nl;refine⟨by kernel_rfl,fun ad K D=>?_⟩;have S:=B5.1 ad;refine⟨1,?_⟩;refine cf (fun rec=>(by kernel_rfl:_=(
  List.length ws<=140737488355328 /\
  J (kR ⟨ws,fu⟩ ⟨iB,il⟩)
  (J (h3 up iA)
  (J (ar aj lj)
  (J (ar al ll)
  (J (ar ak lk)
  (List.length ah<=140737488355328 /\
  J (gx ah lh)
  (len aa<=140737488355328 /\
  J (mx aa lp)
  (len ab<=140737488355328 /\
  J (mx ab kY)
  (List.length aJ<=140737488355328 /\
  J (eF eqs aJ nx)
  (List.length vs<=140737488355328 /\
  J (eF nG vs ny)
  ((List.length us<=140737488355328/\pW us=true) /\
  J (eF iZ us mX)
  (J (ar now nl)
  ((List.length cs<=140737488355328/\o2 cs=true) /\
  J (eF ix cs mu)
  ((List.length W<=140737488355328/\kT W=true) /\
  K (.one (ax (kS W nk))) [])
  (K dt []))
  (K dt []))
  (K dt []))
  (K dt []))
  (K dt []))
  (K dt []))
  (K dt []))
  (K dt []))
  (K dt []))
  (K dt []))
  (K dt []))
  (K dt []))
  (K dt [])))) ?_
 unfold o0 BO at D;simp only at D;refine⟨S.ws,b3 (fun a2=>b3 (fun I=>b3 (fun G=>b3 (fun Y=>b3 (fun aS=>⟨S.aF,b3 (fun bj=>⟨S.aa,b3 (fun bK=>⟨S.ab,b3 (fun c4=>⟨S.b,b3 (fun dJ=>⟨S.s,b3 (fun hd=>⟨⟨S.us,S.u⟩,b3 (fun lS=>b3 (fun k5=>⟨⟨S.cs,S.c⟩,b3 (fun mC=>⟨⟨S.ns,S.m⟩,?_⟩) (fun mC=>?_)⟩) (fun k5=>?_)) (fun lS=>?_)⟩) (fun hd=>?_)⟩) (fun dJ=>?_)⟩) (fun c4=>?_)⟩) (fun bK=>?_)⟩) (fun bj=>?_)⟩) (fun aS=>?_)) (fun Y=>?_)) (fun G=>?_)) (fun I=>?_)) (fun a2=>?_)⟩
 ·rw[a2,I,G,Y,aS,bj,bK,c4,dJ,hd,lS,k5,mC]at D;simpa using D
 ·rw[a2,I,G,Y,aS,bj,bK,c4,dJ,hd,lS,k5,mC]at D;simpa using D
 ·rw[a2,I,G,Y,aS,bj,bK,c4,dJ,hd,lS,k5]at D;simpa using D
 ·rw[a2,I,G,Y,aS,bj,bK,c4,dJ,hd,lS]at D;simpa using D
 ·rw[a2,I,G,Y,aS,bj,bK,c4,dJ,hd]at D;simpa using D
 ·rw[a2,I,G,Y,aS,bj,bK,c4,dJ]at D;simpa using D
 ·rw[a2,I,G,Y,aS,bj,bK,c4]at D;simpa using D
 ·rw[a2,I,G,Y,aS,bj,bK]at D;simpa using D
 ·rw[a2,I,G,Y,aS,bj]at D;simpa using D
 ·rw[a2,I,G,Y,aS]at D;simpa using D
 ·rw[a2,I,G,Y]at D;simpa using D
 ·rw[a2,I,G]at D;simpa using D
 ·rw[a2,I]at D;simpa using D
 ·rw[a2]at D;simpa using D

def HZ:a7
 |[.one (.E .int e)],[]=>some (none,.ao [.agg (kA iY),.one (A e)],[])
 |_,_=>none

theorem akS:bo 66 HZ:=b2 0 bn Tryz.func66 (by kernel_rfl) fun vs au=>by
 unfold HZ;split;rotate_left;trivial;rename_i e;refine⟨by kernel_rfl,fun K D=>?_⟩;refine⟨1,?_⟩;refine cf (fun rec=>(by kernel_rfl:_=(
  K (.ao [.agg fk,.one (A e)]) []))) ?_
 exact D

def H0:a7
 |[.one (.E (.list .message) l),.one (.ptr 0 0)],[.box [.E (.list .str) aJ,.E (.list .signed) vs,.E (.list .int) ws,.E .int fu,.E .bool up,.E .int al,.E (.list .int) ah,.E .int ak,.E .int aj,.E (.list .bool) aa,.E (.list .bool) ab,.own 1,.own 2,.own 3,.E .int now],.arr .aO us,.arr .aP cs,.arr .message W]=>some (some (W.length<=1000/\l.length<=1000),.ao [],[.box (lv (ld ⟨aJ,vs,⟨⟨ws,fu⟩,up,⟨⟨al,ah,ak⟩,aj⟩,aa,ab⟩,us,cs,W,now⟩ l) (.own 4) (.own 5) (.own 6)),.dead,.dead,.dead,.arr .aO (ld ⟨aJ,vs,⟨⟨ws,fu⟩,up,⟨⟨al,ah,ak⟩,aj⟩,aa,ab⟩,us,cs,W,now⟩ l).units,.arr .aP (ld ⟨aJ,vs,⟨⟨ws,fu⟩,up,⟨⟨al,ah,ak⟩,aj⟩,aa,ab⟩,us,cs,W,now⟩ l).cr,.arr .message (ld ⟨aJ,vs,⟨⟨ws,fu⟩,up,⟨⟨al,ah,ak⟩,aj⟩,aa,ab⟩,us,cs,W,now⟩ l).W])
 |_,_=>none
def F1:Ctx:=[]
def we:List cu:=[.inLoop [7,6,5,1] (Code.sub (bR Tryz.f67) [1,0,0]),.inBlock 0]
def Mr(F ai:Int)(M:cF)(ag:cD)(an:cG)(aE:aK)(aI:Int)(aV:Bool)(aZ:Int)(bd:aK)(bu bx:Int)(br bD:da)(bM:Int)(bJ:cZ)(bP:c3)(bC:cF):bO:=⟨[(7,.one (A F)),(6,.one (A ai)),(5,.one (bs M)),(1,.one (.ptr 0 0))],[(0,.box [.E (z.list z.str) ag,.E (z.list z.signed) an,af aE,A aI,ax aV,A aZ,af bd,A bu,A bx,bh br,bh bD,.own 4,.own 5,.own 6,A bM]),(1,.dead),(2,.dead),(3,.dead),(4,.arr z.aO bJ),(5,.arr z.aP bP),(6,.arr z.message bC)],7⟩
theorem ahM(aJ:cD)(vs:cG)(ws:aK)(fu:Int)(up:Bool)(al:Int)(ah:aK)(ak aj:Int)(aa ab:da)(us:cZ)(cs:c3)(W:cF)(now:Int)(l:cF)(rec:bV)(K:aU):js F1 tab Tryz.f67 4 K rec [.code (bR Tryz.f67)] (rG [.one (bs l),.one (.ptr 0 0)] [.box (et aJ vs ws fu up al ah ak aj aa ab (.own 1) (.own 2) (.own 3) now),.arr z.aO us,.arr z.aP cs,.arr z.message W])=(
 rec we (Mr 0 (len l:Int) l aJ vs ws fu up al ah ak aj aa ab now us cs W)):=by kernel_rfl
theorem Wv{F:Int}{bC:cF}{rec:bV}{K:aU}{ai M ag an aE aI aV aZ bd bu bx br bD bM bJ bP}{v0}(bX:v0=fun a b=>Mr a ai M ag an aE aI aV aZ bd bu bx br bD bM bJ bP b):js F1 tab Tryz.f67 4 K rec (cU we) (v0 F bC)=(
 J (aL F ai)
 (((0:Int)<=F/\F<(len M:Int)) /\
 J (aL (len bC:Int) 24)
 ((len bC+len (((nth M (Int.toNat F) (z.H z.message)):fD)::[]))*72<=140737488355328 /\
 rec we (v0 (U (F+1)) (cat bC (((nth M (Int.toNat F) (z.H z.message)):fD)::[]))))
 (rec we (v0 (U (F+1)) bC)))
 (K (.ao []) [.box [.E (z.list z.str) ag,.E (z.list z.signed) an,af aE,A aI,ax aV,A aZ,af bd,A bu,A bx,bh br,bh bD,.own 4,.own 5,.own 6,A bM],.dead,.dead,.dead,.arr z.aO bJ,.arr z.aP bP,.arr z.message bC])):=by subst_vars;kernel_rfl

theorem KN(l:cF)(az:l.length<=1000)(aJ:cD)(vs:cG)(ws:aK)(fu:Int)(up:Bool)(al:Int)(ah:aK)(ak aj:Int)(aa ab:da)(now:Int)(us:cZ)(cs:c3)(K:aU):∀(d k:Nat) (W:cF),k+d=l.length->W.length<=1000 ->
  K (.ao []) [.box (et aJ vs ws fu up al ah ak aj aa ab (.own 4) (.own 5) (.own 6) now),.dead,.dead,.dead,.arr z.aO us,.arr z.aP cs,.arr z.message (hI W (l.drop k))] ->
  h4 F1 tab Tryz.f67 4 K (d+1) we (Mr (k:Int) (((len l):Nat):Int) l aJ vs ws fu up al ah ak aj aa ab now us cs W)
 |0,k,W,ae,aq,D=>by
  rw[jS (L:=we),Wv rfl];rw[List.drop_of_length_le (by omega),Xx]at D;exact ci (by simp only[len];omega) D
 |d+1,k,W,ae,aq,D=>by
  rw[jS (L:=we),Wv rfl,cM,di (by omega)];rw[ee (by omega) (z.H z.message),Xw]at D;obtain⟨m,fh⟩:∃m,nth l k (z.H z.message)=m:=⟨_,rfl⟩
  rw[fh]at D |-;refine cV (by simp only[len];omega) ⟨⟨by omega,by simp only[len];omega⟩,bq (fun h=>⟨by simp only[len,List.length_cons,List.length_nil];omega,?_⟩) (fun h=>?_)⟩
  ·rw[if_pos (by simp only[len]at h;omega)]at D;exact KN l az aJ vs ws fu up al ah ak aj aa ab now us cs K d (k+1) _ (by omega) (by simp only[cat,List.length_append,List.length_cons,List.length_nil];simp only[len]at h;omega) D
  ·rw[if_neg (by simp only[len]at h;omega)]at D;exact KN l az aJ vs ws fu up al ah ak aj aa ab now us cs K d (k+1) _ (by omega) aq D
theorem akT:bo 67 H0:=sY (Γ:=F1) 4 bn Tryz.func67 (by kernel_rfl) fun vs au=>by
 unfold H0;split;rotate_left;trivial;rename_i l aJ vs ws fu up al ah ak aj aa ab now us cs W;refine⟨by kernel_rfl,fun ad K D=>?_⟩;obtain⟨e0,fj⟩:=ad;refine⟨l.length+2,?_⟩;rw[qn,ahM _ _ _ _ _ _ _ _ _ _ _ _ _ _ _ _ _ _];exact KN l fj aJ vs ws fu up al ah ak aj aa ab now us cs K l.length 0 W (by omega) e0 D

def Ab:a7
 |[.agg [.E (.list .int) ws,.E .int _]],[]=>some (some (64<=len ws/\len ws<=192/\cC ws=true),.ao [.one (ct (fA ws)),.one (A (oV (eg ws) (ib ws (eg ws)).2))],[])
 |_,_=>none
def wU:Ctx:=[(162,C9)]
def y2:List cu:=[.inLoop [8,7,6,3,2,1] (cy rp [1,1,1,1,0,0,0]),.inBlock 0,.code (cy rp [1,1,1,1,1])]
def MB(F ai M:Int)(ag an:cj)(aE:aK)(aI:Int):bO:=⟨[(8,.one (A F)),(7,.one (A ai)),(6,.one (.own 0)),(3,.one (A M)),(2,.one (.own 1)),(1,.one (.ptr 2 0))],[(0,.arr (z.list z.int) ag),(1,.arr (z.list z.int) an),(2,.box [af aE,A aI])],3⟩
def qR:List cu:=[.inLoop [84,83,82,7,6,3,2] (cy rp [1,1,1,1,1,0,1,0,0]),.inBlock 2,.code (cy rp [1,1,1,1,1,1])]
def BF(F ai:Int)(M:aK)(ag an:Int)(aE aI:cj):bO:=⟨[(84,.one (A F)),(83,.one (A ai)),(82,.one (af M)),(7,.one (A ag)),(6,.one (.own 0)),(3,.one (A an)),(2,.one (.own 1))],[(0,.arr (z.list z.int) aE),(1,.arr (z.list z.int) aI)],2⟩
theorem WI{ai:Int}{ag:cj}{rec:bV}{K:aU}{F M an aE aI}{v0 v1}(bX:v0=fun a b=>MB F a M b an aE aI)(b9:v1=BF 0 (len (aW aE (Int.toNat ai) (Int.toNat F)):Int) (aW aE (Int.toNat ai) (Int.toNat F)) ai M ag an):b5 wU tab rp 0 K rec (cU y2) (v0 ai ag)=(
 J (aL ai F)
 (((0:Int)<=ai/\ai<(len aE:Int)) /\
 J (dh 42241 (nth aE (Int.toNat ai) (z.H z.int)))
 (((0:Int)<=ai/\ai<(len aE:Int)) /\
 J (dh (nth aE (Int.toNat ai) (z.H z.int)) 42244)
 (((0:Int)<=ai/\ai<(len aE:Int)) /\
 J (aL (U (U (ai+nth aE (Int.toNat ai) (z.H z.int))-42240)) F)
 (((0:Int)<=ai/\ai<(len aE:Int)) /\
 ((0:Int)<=U (ai+1)/\U (ai+1)<=U (U (ai+1)+U (nth aE (Int.toNat ai) (z.H z.int)-42240))/\U (U (ai+1)+U (nth aE (Int.toNat ai) (z.H z.int)-42240))<=(len aE:Int)) /\
 (0+len (aW aE (Int.toNat (U (ai+1))) (Int.toNat (U (U (ai+1)+U (nth aE (Int.toNat ai) (z.H z.int)-42240))))))*8<=140737488355328 /\
 (len ag+len (cat [] (aW aE (Int.toNat (U (ai+1))) (Int.toNat (U (U (ai+1)+U (nth aE (Int.toNat ai) (z.H z.int)-42240)))))::[]))*24<=140737488355328 /\
 rec y2 (v0 (U (ai+U ((1:Int)+U (nth aE (Int.toNat ai) (z.H z.int)-42240)))) (cat ag (cat [] (aW aE (Int.toNat (U (ai+1))) (Int.toNat (U (U (ai+1)+U (nth aE (Int.toNat ai) (z.H z.int)-42240)))))::[]))))
 (((0:Int)<=ai/\ai<=F/\F<=(len aE:Int)) /\
 rec qR v1))
 (((0:Int)<=ai/\ai<=F/\F<=(len aE:Int)) /\
 rec qR v1))
 (((0:Int)<=ai/\ai<=F/\F<=(len aE:Int)) /\
 rec qR v1))
 (((0:Int)<=ai/\ai<=F/\F<=(len aE:Int)) /\
 rec qR v1)):=by subst_vars;kernel_rfl
theorem WJ{F:Int}{rec:bV}{K:aU}{ai M ag an aE aI}{v0}(bX:v0=fun a=>BF a ai M ag an aE aI):b5 wU tab rp 0 K rec (cU qR) (v0 F)=(
 J (aL F ai)
 (((0:Int)<=F/\F<(len M:Int)) /\
 J (!(ar (nth M (Int.toNat F) (z.H z.int)) 65535))
 (K (.ao [.one (ct aE),.one (A (-1))]) [])
 (rec qR (v0 (U (F+1)))))
 (K (.ao [.one (ct aE),.one (A ag)]) [])):=by subst_vars;kernel_rfl

theorem QQ(ag an:Int)(aE aI:cj)(K:aU)(t:aK)(bm:t.length<=32)
  (D:K (.ao [.one (ct aE),.one (A (if ht t then ag else -1))]) []):∀(d k:Nat),t.length<=k+d->k<=t.length->ht (t.take k)=true ->
  co wU tab rp 0 K (d+1) qR (BF (k:Int) (((len t):Nat):Int) t ag an aE aI)
 |0,k,ae,jW,bv=>by
  rw[bW (L:=qR),WJ rfl];rw[List.take_of_length_le (by omega)]at bv;rw[if_pos bv]at D;exact ci (by simp only[len];omega) D
 |d+1,k,ae,jW,bv=>by
  rw[bW (L:=qR),WJ rfl,cM]
  by_cases c:k=t.length
  ·rw[List.take_of_length_le (by omega)]at bv;rw[if_pos bv]at D;exact ci (by simp only[len];omega) D
  refine cV (by simp only[len];omega) ⟨⟨by omega,by simp only[len];omega⟩,bG (fun dj=>?_) (fun heq=>?_)⟩
  ·rw[if_neg (by rw[show ht t=false from all_false (k:=k) (by omega) (z.H z.int) (by simpa using dj)];simp)]at D;exact D
  ·rw[di (by omega)];exact QQ ag an aE aI K t bm D d (k+1) (by omega) (by omega) (Cz (by omega) (z.H z.int) bv (by simpa using heq))
theorem Ja(ws:aK)(sec:Nat)(qD:sec<=1)(az:32*sec+32<=ws.length)(K:aU)(k:Nat)(ae:k<=31)(acc:cj)(M:Int)(an:cj)(gz:Nat)
  (D:K (.ao [.one (ct acc),.one (A (if ht ((fU ws sec).drop k)then 32*(sec:Int)+1+k else -1))]) []) :
  co wU tab rp 0 K (gz+33) qR (BF (0:Int) (((len (aW ws (32*sec+1+k) (32*sec+32))):Nat):Int) (aW ws (32*sec+1+k) (32*sec+32)) (((32*sec+1+k:Nat):Int)) M acc an):=by
 have e:aW ws (32*sec+1+k) (32*sec+32)=(fU ws sec).drop k:=by
  unfold fU nu aW;rw[List.drop_drop,List.drop_drop];congr 1;omega
 rw[e];have iM:((fU ws sec).drop k).length<=32:=by rw[List.length_drop,uD az];omega
 refine QQ _ _ _ _ K _ iM ?_ (gz+32) 0 (by omega) (by omega) rfl;rw[show((32*sec+1+k:Nat):Int)=32*(sec:Int)+1+k by omega];exact D
theorem Uu(ws:aK)(fu:Int)(sec:Nat)(qD:sec<=1)(az:32*sec+32<=ws.length)(fW:cC ws=true)(M:Int)(an:cj)(K:aU):∀(m k:Nat) (acc:cj),k<=31->31<=m+k->acc.length<=k ->
  K (.ao [.one (ct (acc++(e6 m ((fU ws sec).drop k)).1)),.one (A (match (e6 m ((fU ws sec).drop k)).2 with|some n=>32*(sec:Int)+1+k+n|none=>-1))]) [] ->
  co wU tab rp 0 K (m+34) y2 (MB (((32*sec+32:Nat):Int)) (((32*sec+1+k:Nat):Int)) M acc an ws fu)
 |0,k,acc,ae,aB,bl,D=>by
  have:k=31:=by omega
  subst this;rw[show 0+34=33+1 by omega,bW (L:=y2),WI rfl rfl,cM];try rw[cM]
  simp only[e6,List.append_nil]at D;refine ci (by omega) ⟨⟨by omega,by omega,by simp only[len];omega⟩,Ja ws sec qD az K 31 (by omega) acc M an 0 ?_⟩;rw[List.drop_of_length_le (by rw[uD az];omega)];simpa[ht]using D
 |m+1,k,acc,ae,aB,bl,D=>by
  rw[show m+1+34=(m+34)+1 by omega,bW (L:=y2),WI rfl rfl,cM];try rw[cM]
  by_cases c:k=31
  ·subst c;rw[List.drop_of_length_le (by rw[uD az];omega)]at D;simp only[e6,List.append_nil]at D;refine ci (by omega) ⟨⟨by omega,by omega,by simp only[len];omega⟩,Ja ws sec qD az K 31 (by omega) acc M an (m+1) ?_⟩;rw[List.drop_of_length_le (by rw[uD az];omega)];simpa[ht]using D
  have YW:=uD az;have DU:=ee (l:=fU ws sec) (k:=k) (by omega) (z.H z.int);have acY:nth (fU ws sec) k (z.H z.int)=nth ws (32*sec+1+k) (z.H z.int):=zp ws sec k (by omega);rw[acY]at DU;rw[DU]at D;obtain⟨x,aG⟩:∃x,nth ws (32*sec+1+k) (z.H z.int)=x:=⟨_,rfl⟩
  have Kn:=AA fW (32*sec+1+k);have sI:ws.getD (32*sec+1+k) 0=x:=aG;rw[sI]at Kn;rw[aG]at D DU |-;simp only[e6]at D;have out:gZ x=0\/¬gZ x<=((fU ws sec).drop (k+1)).length->(((0:Int)<=((32*sec+1+k:Nat):Int))/\((((32*sec+1+k:Nat):Int)<=((32*sec+32:Nat):Int))/\(((32*sec+32:Nat):Int)<=(((len ws):Nat):Int)))) /\
    co wU tab rp 0 K (m+34) qR (BF (0:Int) (((len (aW ws (32*sec+1+k) (32*sec+32))):Nat):Int) (aW ws (32*sec+1+k) (32*sec+32)) (((32*sec+1+k:Nat):Int)) M acc an):=fun dd=>by
   refine⟨⟨by omega,by omega,by simp only[len];omega⟩,Ja ws sec qD az K k ae acc M an (m+1) ?_⟩;rw[DU]
   by_cases bc:x=65535
   ·rw[if_pos bc]at D;have e:ht (x::(fU ws sec).drop (k+1))=ht ((fU ws sec).drop (k+1)):=by simp[ht,bc]
    rw[e];cases aA:ht ((fU ws sec).drop (k+1))
    ·simpa[aA]using D
    ·simpa[aA]using D
   ·rw[if_neg bc]at D;have e:ht (x::(fU ws sec).drop (k+1))=false:=by simp[ht,bc]
    rw[e]
    by_cases cq:gZ x=0
    ·rw[if_pos cq]at D;simpa using D
    ·rw[if_neg cq,if_neg (dd.resolve_left cq)]at D;simpa using D
  have E8:((0:Int)<=((32*sec+1+k:Nat):Int))/\(((32*sec+1+k:Nat):Int)<(((len ws):Nat):Int)):=⟨by omega,by simp only[len];omega⟩
  refine cV (by omega) ⟨E8,b3 (fun a1=>⟨E8,b3 (fun bf=>⟨E8,?_⟩) (fun bf=>?_)⟩) (fun a1=>?_)⟩
  case refine_2=>exact out (.inl (by rw[eL]at bf;unfold gZ;rw[if_neg (by omega)]))
  case refine_3=>exact out (.inl (by rw[eL]at a1;unfold gZ;rw[if_neg (by omega)]))
  rw[fY]at a1 bf;obtain⟨n,aq⟩:∃n,gZ x=n:=⟨_,rfl⟩
  have SN:x=42240+(n:Int)/\1<=n/\n<=4:=by unfold gZ at aq;rw[if_pos ⟨a1,bf⟩]at aq;omega
  obtain⟨SN,gD,n4⟩:=SN;have oP:((fU ws sec).drop (k+1)).length=30-k:=by rw[List.length_drop,YW];omega
  rw[cb (n:=((32*sec+1+k:Nat):Int)+x) (by omega) (by omega),cb (n:=((32*sec+1+k:Nat):Int)+x-42240) (by omega) (by omega)];refine bq (fun ck=>?_) (fun ck=>out (.inr (by rw[oP,aq];omega)));rw[aq]at D;rw[if_neg (by omega),if_neg (by omega),if_pos (by rw[oP];omega)]at D;rw[cb (n:=x-42240) (by omega) (by omega),show x-42240=(n:Int)by omega,cb (n:=((32*sec+1+k:Nat):Int)+1) (by omega) (by omega),cb (n:=((32*sec+1+k:Nat):Int)+1+(n:Int)) (by omega) (by omega),cb (n:=(1:Int)+(n:Int)) (by omega) (by omega),cb (n:=((32*sec+1+k:Nat):Int)+(1+(n:Int))) (by omega) (by omega)];rw[show Int.toNat (((32*sec+1+k:Nat):Int)+1)=32*sec+1+(k+1)by omega,show Int.toNat (((32*sec+1+k:Nat):Int)+1+(n:Int))=32*sec+1+(k+1)+n by omega,show((32*sec+1+k:Nat):Int)+(1+(n:Int))=((32*sec+1+(k+1+n):Nat):Int)by omega];have es:aW ws (32*sec+1+(k+1)) (32*sec+1+(k+1)+n)=((fU ws sec).drop (k+1)).take n:=by
   refine tu (by rw[ob _ _ _ (by omega),List.length_take,oP];omega) fun i hi=>?_
   rw[ob _ _ _ (by omega)]at hi;rw[oa _ _ _ _ (by omega)];have aX:∀l:List Int,(l.take n).getD i 0=l.getD i 0:=fun l=>by simp only[List.getD_eq_getElem?_getD];rw[List.getElem?_take_of_lt hi]
   rw[aX,rh,zp _ _ _ (by omega),show 32*sec+1+(k+1+i)=32*sec+1+(k+1)+i by omega]
  rw[es];have m9:cat ([]:List Int) (((fU ws sec).drop (k+1)).take n)=((fU ws sec).drop (k+1)).take n:=rfl;rw[m9];refine⟨E8,⟨by omega,by omega,by simp only[len];omega⟩,by simp only[len,List.length_take];omega,by simp only[len,List.length_cons,List.length_nil];omega,?_⟩;refine Uu ws fu sec qD az fW M an K m (k+1+n) _ (by omega) (by omega) (by simp only[cat,List.length_append,List.length_cons,List.length_nil];omega) ?_;rw[List.drop_drop]at D;have gQ:=D;simp only[cat,List.append_assoc,List.cons_append,List.nil_append]at gQ |-;cases iq:(e6 m ((fU ws sec).drop (k+1+n))).2 with
  |none=>simpa[iq]using gQ
  |some p =>
   simp only[iq,Option.map]at gQ;rw[show 32*(sec:Int)+1+(k:Int)+((p+n+1:Nat):Int)=32*(sec:Int)+1+((k+1+n:Nat):Int)+(p:Int)by omega]at gQ;exact gQ
theorem NA:bo 123 Ab:=b2 (Γ:=wU) 0 (bn.f Ny) Tryz.func123 (by kernel_rfl) fun vs au=>by
 unfold Ab;split;rotate_left;trivial;rename_i ws fu;refine⟨by kernel_rfl,fun ad K D=>?_⟩;obtain⟨I,G,fW⟩:=ad;have av:=ub ws;refine⟨32+34+1,?_⟩;refine cf (fun rec=>(by kernel_rfl:_=(
  64<=len ws /\
  rec y2 (MB (U (U ((32:Int)*(((eg ws):Nat):Int))+32)) (U (U ((32:Int)*(((eg ws):Nat):Int))+1)) 0 [] [] ws fu)))) ?_
 unfold fA at D;obtain⟨s,oL⟩:∃s,eg ws=s:=⟨_,rfl⟩
 rw[oL]at D av |-;simp only[len]at I G;rw[cb (n:=32*(s:Int)) (by omega) (by omega),cb (n:=32*(s:Int)+32) (by omega) (by omega),cb (n:=32*(s:Int)+1) (by omega) (by omega)];refine⟨I,?_⟩;rw[show 32*(s:Int)+32=((32*s+32:Nat):Int)by omega,show 32*(s:Int)+1=((32*s+1+0:Nat):Int)by omega];refine Uu ws fu s av (by omega) fW 0 [] K 32 0 [] (by omega) (by omega) (by simp) ?_;rw[List.nil_append,List.drop_zero];rw[alz (by omega)]at D;cases iq:(e6 32 (fU ws s)).2 with
 |none =>
  simp only[iq,oV]at D;exact D
 |some p =>
  simp only[iq,oV]at D;simpa using D

def w9:a7
 |[.agg [.E (.list .int) ws,.E .int fu,.E .bool _,.E .int _,.E (.list .int) _,.E .int _,.E .int _,.E (.list .bool) _,.E (.list .bool) _]],[]=>some (some (dC ⟨ws,fu⟩=0),.agg [A (bN ⟨ws,fu⟩).n,A (bN ⟨ws,fu⟩).version,ax (bN ⟨ws,fu⟩).dv,ax (bN ⟨ws,fu⟩).abort,ax (bN ⟨ws,fu⟩).ended],[])
 |_,_=>none
def wQ:Ctx:=[(123,Ab)]
def qP:List cu:=[.inLoop [19,18,17,5,3,2] (cy rl [1,1,1,0,1,0,0]),.inBlock 0,.code (cy rl [1,1,1,1])]
def EO(F ai:Int)(M:cj)(ag:Int)(an:cj)(aE aI:Int)(aV aZ bd:Bool):bO:=⟨[(19,.one (A F)),(18,.one (A ai)),(17,.one (ct M)),(5,.one (A ag)),(3,.one (ct an)),(2,.one (.ptr 0 0))],[(0,.box [A aE,A aI,ax aV,ax aZ,ax bd])],1⟩
def iw:List cu:=[.inLoop [73,72,71,8,2] (cy rl [1,1,1,1,1,1,1,1,0,1,0,0]),.inBlock 2,.code (cy rl [1,1,1,1,1,1,1,1,1])]
def EP(F ai:Int)(M:cj)(ag an:Int)(aE aI aV:Bool)(aZ bd:Int)(bu bx br:Bool):bO:=⟨[(73,.one (A F)),(72,.one (A ai)),(71,.one (ct M)),(8,.one (.ptr 0 0)),(2,.one (.ptr 1 0))],[(0,.box [A ag,A an,ax aE,ax aI,ax aV]),(1,.box [A aZ,A bd,ax bu,ax bx,ax br])],2⟩
theorem VU{F ag:Int}{rec:bV}{K:aU}{ai M an aE aI aV aZ bd}{v0}(bX:v0=fun a b=>EO a ai M b an aE aI aV aZ bd):b5 wQ tab rl 0 K rec (cU qP) (v0 F ag)=(
 J (aL F ai)
 (((0:Int)<=F/\F<(len M:Int)) /\
 J (ar (((len (nth M (Int.toNat F) (z.H (z.list z.int)))):Nat):Int) 3)
 (((0:Int)<=(0:Int)/\(0:Int)<(((len (nth M (Int.toNat F) (z.H (z.list z.int)))):Nat):Int)) /\
 J (ar (nth (nth M (Int.toNat F) (z.H (z.list z.int))) (Int.toNat 0) (z.H z.int)) 1)
 (((0:Int)<=(1:Int)/\(1:Int)<(((len (nth M (Int.toNat F) (z.H (z.list z.int)))):Nat):Int)) /\
 J (dh 1 (nth (nth M (Int.toNat F) (z.H (z.list z.int))) (Int.toNat 1) (z.H z.int)))
 (((0:Int)<=(1:Int)/\(1:Int)<(((len (nth M (Int.toNat F) (z.H (z.list z.int)))):Nat):Int)) /\
 J (dh (nth (nth M (Int.toNat F) (z.H (z.list z.int))) (Int.toNat 1) (z.H z.int)) 8)
 (rec qP (v0 (U (F+1)) F))
 (rec qP (v0 (U (F+1)) ag)))
 (rec qP (v0 (U (F+1)) ag)))
 (rec qP (v0 (U (F+1)) ag)))
 (rec qP (v0 (U (F+1)) ag)))
 (J (aL ag 0)
 (K (.agg [A (0:Int),A (0:Int),ax false,ax false,ax false]) [])
 (((0:Int)<=ag/\ag<(len an:Int)) /\
 ((0:Int)<=(1:Int)/\(1:Int)<(((len (nth an (Int.toNat ag) (z.H (z.list z.int)))):Nat):Int)) /\
 ((0:Int)<=ag/\ag<(len an:Int)) /\
 ((0:Int)<=(2:Int)/\(2:Int)<(((len (nth an (Int.toNat ag) (z.H (z.list z.int)))):Nat):Int)) /\
 J (ar (nth (nth an (Int.toNat ag) (z.H (z.list z.int))) (Int.toNat 1) (z.H z.int)) 0)
 (K (.agg [A (nth (nth an (Int.toNat ag) (z.H (z.list z.int))) (Int.toNat 1) (z.H z.int)),A (nth (nth an (Int.toNat ag) (z.H (z.list z.int))) (Int.toNat 2) (z.H z.int)),ax false,ax false,ax false]) [])
 (((0:Int)<=U (ag+1)/\U (ag+1)<=(len an:Int)/\(len an:Int)<=(len an:Int)) /\
 rec iw (EP 0 (((len (aW an (Int.toNat (U (ag+1))) (Int.toNat (len an:Int)))):Nat):Int) (aW an (Int.toNat (U (ag+1))) (Int.toNat (len an:Int))) (nth (nth an (Int.toNat ag) (z.H (z.list z.int))) (Int.toNat 1) (z.H z.int)) (nth (nth an (Int.toNat ag) (z.H (z.list z.int))) (Int.toNat 2) (z.H z.int)) false false false aE aI aV aZ bd))))):=by subst_vars;kernel_rfl
theorem VV{F:Int}{aE aI aV:Bool}{rec:bV}{K:aU}{ai M ag an aZ bd bu bx br}{v0 v1 aC v3 v4 cn dR dy cR v9 v10}(bX:v0=fun a b c d=>EP a ai M ag an b c d aZ bd bu bx br)(b9:v1=rec iw (v0 (U (F+1)) (!aI) (!(!aI)) true))(cT:aC=rec iw (v0 (U (F+1)) true (!true) true))(ed:v3=rec iw (v0 (U (F+1)) false false false))(e5:v4=rec iw (v0 (U (F+1)) (!aI) false false))(hx:cn=rec iw (v0 (U (F+1)) (!aI) false true))(kG:dR=rec iw (v0 (U (F+1)) true false true))(iL:dy=rec iw (v0 (U (F+1)) false true true))(kH:cR=rec iw (v0 (U (F+1)) (!aI) true true))(jY:v9=rec iw (v0 (U (F+1)) true true true))(nf:v10=rec iw (v0 (U (F+1)) aE aI aV)):b5 wQ tab rl 0 K rec (cU iw) (v0 F aE aI aV)=(
 J (aL F ai)
 (((0:Int)<=F/\F<(len M:Int)) /\
 J (ar (((len (nth M (Int.toNat F) (z.H (z.list z.int)))):Nat):Int) 2)
 (((0:Int)<=(1:Int)/\(1:Int)<(((len (nth M (Int.toNat F) (z.H (z.list z.int)))):Nat):Int)) /\
 J (ar (nth (nth M (Int.toNat F) (z.H (z.list z.int))) (Int.toNat 1) (z.H z.int)) ag)
 (J aE
 (J aI
 (J aV
 v9
 (((0:Int)<=(0:Int)/\(0:Int)<(((len (nth M (Int.toNat F) (z.H (z.list z.int)))):Nat):Int)) /\
 J (ar (nth (nth M (Int.toNat F) (z.H (z.list z.int))) (Int.toNat 0) (z.H z.int)) 4)
 v9
 (rec iw (v0 (U (F+1)) true true false))))
 (((0:Int)<=(0:Int)/\(0:Int)<(((len (nth M (Int.toNat F) (z.H (z.list z.int)))):Nat):Int)) /\
 J (ar (nth (nth M (Int.toNat F) (z.H (z.list z.int))) (Int.toNat 0) (z.H z.int)) 3)
 (J aV
 aC
 (((0:Int)<=(0:Int)/\(0:Int)<(((len (nth M (Int.toNat F) (z.H (z.list z.int)))):Nat):Int)) /\
 J (ar (nth (nth M (Int.toNat F) (z.H (z.list z.int))) (Int.toNat 0) (z.H z.int)) 4)
 aC
 (rec iw (v0 (U (F+1)) true (!true) false))))
 (J aV
 dR
 (((0:Int)<=(0:Int)/\(0:Int)<(((len (nth M (Int.toNat F) (z.H (z.list z.int)))):Nat):Int)) /\
 J (ar (nth (nth M (Int.toNat F) (z.H (z.list z.int))) (Int.toNat 0) (z.H z.int)) 4)
 dR
 (rec iw (v0 (U (F+1)) true false false))))))
 (((0:Int)<=(0:Int)/\(0:Int)<(((len (nth M (Int.toNat F) (z.H (z.list z.int)))):Nat):Int)) /\
 J (ar (nth (nth M (Int.toNat F) (z.H (z.list z.int))) (Int.toNat 0) (z.H z.int)) 2)
 (J aI
 (J aV
 cR
 (((0:Int)<=(0:Int)/\(0:Int)<(((len (nth M (Int.toNat F) (z.H (z.list z.int)))):Nat):Int)) /\
 J (ar (nth (nth M (Int.toNat F) (z.H (z.list z.int))) (Int.toNat 0) (z.H z.int)) 4)
 (J (!aI)
 cR
 cR)
 (rec iw (v0 (U (F+1)) (!aI) true false))))
 (((0:Int)<=(0:Int)/\(0:Int)<(((len (nth M (Int.toNat F) (z.H (z.list z.int)))):Nat):Int)) /\
 J (ar (nth (nth M (Int.toNat F) (z.H (z.list z.int))) (Int.toNat 0) (z.H z.int)) 3)
 (J aV
 v1
 (((0:Int)<=(0:Int)/\(0:Int)<(((len (nth M (Int.toNat F) (z.H (z.list z.int)))):Nat):Int)) /\
 J (ar (nth (nth M (Int.toNat F) (z.H (z.list z.int))) (Int.toNat 0) (z.H z.int)) 4)
 (J (!aI)
 v1
 (rec iw (v0 (U (F+1)) (!aI) (!(!aI)) (!(!aI)))))
 (rec iw (v0 (U (F+1)) (!aI) (!(!aI)) false))))
 (J aV
 cn
 (((0:Int)<=(0:Int)/\(0:Int)<(((len (nth M (Int.toNat F) (z.H (z.list z.int)))):Nat):Int)) /\
 J (ar (nth (nth M (Int.toNat F) (z.H (z.list z.int))) (Int.toNat 0) (z.H z.int)) 4)
 (J (!aI)
 cn
 v4)
 v4))))
 (J aI
 (J aV
 dy
 (((0:Int)<=(0:Int)/\(0:Int)<(((len (nth M (Int.toNat F) (z.H (z.list z.int)))):Nat):Int)) /\
 J (ar (nth (nth M (Int.toNat F) (z.H (z.list z.int))) (Int.toNat 0) (z.H z.int)) 4)
 dy
 (rec iw (v0 (U (F+1)) false true false))))
 (((0:Int)<=(0:Int)/\(0:Int)<(((len (nth M (Int.toNat F) (z.H (z.list z.int)))):Nat):Int)) /\
 J (ar (nth (nth M (Int.toNat F) (z.H (z.list z.int))) (Int.toNat 0) (z.H z.int)) 3)
 (J aV
 (rec iw (v0 (U (F+1)) false (!false) true))
 (((0:Int)<=(0:Int)/\(0:Int)<(((len (nth M (Int.toNat F) (z.H (z.list z.int)))):Nat):Int)) /\
 J (ar (nth (nth M (Int.toNat F) (z.H (z.list z.int))) (Int.toNat 0) (z.H z.int)) 4)
 (rec iw (v0 (U (F+1)) false (!false) (!false)))
 (rec iw (v0 (U (F+1)) false (!false) false))))
 (J aV
 (rec iw (v0 (U (F+1)) false false true))
 (((0:Int)<=(0:Int)/\(0:Int)<(((len (nth M (Int.toNat F) (z.H (z.list z.int)))):Nat):Int)) /\
 J (ar (nth (nth M (Int.toNat F) (z.H (z.list z.int))) (Int.toNat 0) (z.H z.int)) 4)
 v3
 v3))))))
 v10)
 v10)
 (K (.agg [A ag,A an,ax aE,ax aI,ax aV]) [])):=by subst_vars;kernel_rfl

theorem Tx(p:cj)(ad:p.length<=1000)(ay:∀r∈p,¬qE r)(N qa:Int)(jU:N≠0)(K:aU)(aZ bd:Int)(bu bx br:Bool)(q:Nat):∀(d k:Nat) (c a e:Bool),k+d=p.length ->
  K (.agg [A ((p.drop k).foldl gp ⟨N,qa,c,a,e⟩).n,A ((p.drop k).foldl gp ⟨N,qa,c,a,e⟩).version,ax ((p.drop k).foldl gp ⟨N,qa,c,a,e⟩).dv,ax ((p.drop k).foldl gp ⟨N,qa,c,a,e⟩).abort,ax ((p.drop k).foldl gp ⟨N,qa,c,a,e⟩).ended]) [] ->
  co wQ tab rl 0 K (q+d+1) iw (EP (k:Int) (((len p):Nat):Int) p N qa c a e aZ bd bu bx br)
 |0,k,c,a,e,ae,D=>by
  rw[bW (L:=iw),VV rfl rfl rfl rfl rfl rfl rfl rfl rfl rfl rfl];rw[List.drop_of_length_le (by omega)]at D;exact ci (by simp only[len];omega) D
 |d+1,k,c,a,e,ae,D=>by
  rw[show q+(d+1)+1=(q+d+1)+1 by omega,bW (L:=iw),VV rfl rfl rfl rfl rfl rfl rfl rfl rfl rfl rfl,cM];have hbk:¬qE (nth p k (z.H (z.list z.int))):=ay _ (by
   have:nth p k (z.H (z.list z.int))=p[k]'(by omega):=by simp[nth,List.getD_eq_getElem?_getD,show k<p.length by omega]
   rw[this];exact List.getElem_mem _)
  rw[ee (by omega) (z.H (z.list z.int)),List.foldl_cons]at D;obtain⟨r,aw⟩:∃r,nth p k (z.H (z.list z.int))=r:=⟨_,rfl⟩
  rw[aw]at D hbk |-;rw[di (by omega),show Int.toNat (0:Int)=0 from rfl,show Int.toNat (1:Int)=1 from rfl,show nth r 0 (z.H z.int)=r.getD 0 0 from rfl,show nth r 1 (z.H z.int)=r.getD 1 0 from rfl];have go:∀fN ey cd,gp ⟨N,qa,c,a,e⟩ r=⟨N,qa,fN,ey,cd⟩->co wQ tab rl 0 K (q+d+1) iw (EP ((k+1:Nat):Int) (((len p):Nat):Int) p N qa fN ey cd aZ bd bu bx br):=fun fN ey cd h=>by
   rw[h]at D;exact Tx p ad ay N qa jU K aZ bd bu bx br q d (k+1) fN ey cd (by omega) D
  refine cV (by simp only[len];omega) ⟨⟨by omega,by simp only[len];omega⟩,cI (fun I=>⟨⟨by omega,by omega⟩,cI (fun G=>?_) (fun G=>go _ _ _ (YM hbk (.inr G)))⟩) (fun I=>go _ _ _ (YM hbk (.inl (by simp only[len]at I;omega))))⟩;have Zy:r.length=2:=by simp only[len]at I;omega
  have gX:((0:Int)<=0)/\((0:Int)<(((len r):Nat):Int)):=⟨by omega,by omega⟩
  have st:=fun c a e=>alp (N:=N) (V:=qa) (c:=c) (a:=a) (e:=e) Zy G jU
  clear D;obtain⟨hp,k6⟩:∃hp,r.getD 0 0=hp:=⟨_,rfl⟩
  simp only[k6]at st |-;cases c<;>cases a<;>cases e<;>simp only[J,Bool.not_true,Bool.not_false]
  all_goals
   repeat' first
    |(exfalso;omega)
    |exact go _ _ _ (by rw[st];simp[*])
    |(refine And.intro gX ?_)
    |(refine cI (fun _=>?_) (fun _=>?_))
theorem KG(l:cj)(az:l.length<=1000)(K:aU)(D:K (.agg [A (ja l).n,A (ja l).version,ax (ja l).dv,ax (ja l).abort,ax (ja l).ended]) []):∀(d k:Nat) (ag:Int),k+d=l.length ->
  ((ag=-1/\∀j,j<k->¬qE (l.getD j []))\/∃f:Nat,ag=f/\f<k/\qE (l.getD f [])/\∀j,f<j->j<k->¬qE (l.getD j [])) ->
  co wQ tab rl 0 K (l.length+1+d+1) qP (EO (k:Int) (((len l):Nat):Int) l ag l 0 0 false false false)
 |0,k,ag,ae,hi=>by
  rw[bW (L:=qP),VU rfl];have AW:k=l.length:=by omega
  subst AW;refine ci (by simp only[len];omega) ?_;rcases hi with⟨I,G⟩|⟨f,I,G,Y,aS⟩
  ·subst I;refine cV (by omega) ?_;have:ja l=mQ:=Rz l fun r aw=>by
    obtain⟨j,aT,rfl⟩:=List.getElem_of_mem aw;have:=G j aT;simpa[List.getD_eq_getElem?_getD,aT]using this
   rw[this]at D;exact D
  ·subst I;have e:nth l (Int.toNat (f:Int)) (z.H (z.list z.int))=l.getD f []:=rfl;rw[e];have ab9:l=l.take f++l.getD f []::l.drop (f+1):=by
    conv=>lhs;rw[<- List.take_append_drop f l,ee G []]
    rfl
   have fL:=alf (l.take f) (l.drop (f+1)) Y;rw[<- ab9]at fL;rw[fL]at D;obtain⟨b,ay⟩:∃b,l.getD f []=b:=⟨_,rfl⟩
   rw[ay]at Y D |-;obtain⟨jf,kf,ot,kx⟩:=Y;have acN:((len b:Nat):Int)=3:=by simp only[len];omega
   rw[acN,show Int.toNat (1:Int)=1 from rfl,show Int.toNat (2:Int)=2 from rfl,show nth b 1 (z.H z.int)=b.getD 1 0 from rfl,show nth b 2 (z.H z.int)=b.getD 2 0 from rfl,di (by omega),cM,show Int.toNat ((len l:Nat):Int)=l.length from rfl,XA];refine ci (by omega) ⟨⟨by omega,by simp only[len];omega⟩,⟨by omega,by omega⟩,⟨by omega,by simp only[len];omega⟩,⟨by omega,by omega⟩,iV (by omega) ⟨⟨by omega,by simp only[len];omega,by omega⟩,?_⟩⟩;have lV:(l.drop (f+1)).length<=l.length:=by simp
   have:=Tx (l.drop (f+1)) (by omega) (fun r aw=>by
    obtain⟨j,aT,rfl⟩:=List.getElem_of_mem aw;have:=aS (f+1+j) (by omega) (by simp at aT;omega);have AU:f+1+j<l.length:=by simp at aT;omega
    simpa[List.getD_eq_getElem?_getD,AU]using this) (b.getD 1 0) (b.getD 2 0) (by omega) K 0 0 false false false (l.length-(l.drop (f+1)).length) (l.drop (f+1)).length 0 false false false (by omega) D
   rw[show l.length-(l.drop (f+1)).length+(l.drop (f+1)).length+1=l.length+1 by omega]at this;exact this
 |d+1,k,ag,ae,hi=>by
  rw[show l.length+1+(d+1)+1=(l.length+1+d+1)+1 by omega,bW (L:=qP),VU rfl,cM];rw[di (by omega)];have e:nth l k (z.H (z.list z.int))=l.getD k []:=rfl;rw[e];obtain⟨r,aw⟩:∃r,l.getD k []=r:=⟨_,rfl⟩
  rw[aw,show Int.toNat (0:Int)=0 from rfl,show Int.toNat (1:Int)=1 from rfl,show nth r 0 (z.H z.int)=r.getD 0 0 from rfl,show nth r 1 (z.H z.int)=r.getD 1 0 from rfl];have no:¬qE r->co wQ tab rl 0 K (l.length+1+d+1) qP (EO ((k+1:Nat):Int) (((len l):Nat):Int) l ag l 0 0 false false false):=fun h=>by
   refine KG l az K D d (k+1) ag (by omega) ?_;have oE:∀j,j<k+1->(j<k->¬qE (l.getD j []))->¬qE (l.getD j []):=fun j aT g=>by
    by_cases c:j<k
    ·exact g c
    ·rw[show j=k by omega,aw];exact h
   rcases hi with⟨I,G⟩|⟨f,I,G,Y,aS⟩
   ·exact .inl ⟨I,fun j aT=>oE j aT (G j)⟩
   ·exact .inr ⟨f,I,by omega,Y,fun j a1 bf=>oE j bf (aS j a1)⟩
  refine cV (by simp only[len];omega) ⟨⟨by omega,by simp only[len];omega⟩,cI (fun I=>⟨⟨by omega,by omega⟩,cI (fun G=>⟨⟨by omega,by omega⟩,b3 (fun Y=>⟨⟨by omega,by omega⟩,b3 (fun aS=>?_) (fun aS=>no (fun g=>?_))⟩) (fun Y=>no (fun g=>?_))⟩) (fun G=>no (fun g=>G g.1))⟩) (fun I=>no (fun g=>I (by simp only[len];have:=g.2.1;omega)))⟩
  ·rw[fY]at Y aS;exact KG l az K D d (k+1) k (by omega) (.inr ⟨k,rfl,by omega,by rw[aw];exact⟨G,by simp only[len]at I;omega,Y,aS⟩,fun j a1 bf=>by omega⟩)
  ·rw[eL]at aS;have:=g.2.2.2;omega
  ·rw[eL]at Y;have:=g.2.2.1;omega
theorem zm:bo 69 w9:=b2 (Γ:=wQ) 0 (bn.f NA) Tryz.func69 (by kernel_rfl) fun vs au=>by
 unfold w9;split;rotate_left;trivial;rename_i ws fu up al ah ak aj aa ab;refine⟨by kernel_rfl,fun ad K D=>?_⟩;obtain⟨bL,b0,_⟩:=ow ad;obtain⟨bp,_,_,dq⟩:=jx bL;simp only at b0 bp dq;have aB:=(MM ws).2;refine⟨(fA ws).length+1+(fA ws).length+2,?_⟩;refine cf (fun rec=>(by kernel_rfl:_=(
  (64<=len ws/\len ws<=192/\cC ws=true) /\
  rec qP (EO 0 (len (fA ws):Int) (fA ws) (-1) (fA ws) 0 0 false false false)))) ?_
 refine⟨⟨by simp only[len];omega,by have:=rQ bp;simp only[len];omega,dq⟩,?_⟩;rw[Ey ad]at D;exact KG (fA ws) (by omega) K D (fA ws).length 0 (-1) (by omega) (.inl ⟨rfl,fun j aT=>by omega⟩)

def Hk:a7
 |[.one (.E .int e)],[]=>some (none,.ao [.agg [A 0,af [],A 0,A 0],.one (A e)],[])
 |_,_=>none

theorem ake:bo 168 Hk:=b2 0 bn Tryz.func168 (by kernel_rfl) fun vs au=>by
 unfold Hk;split;rotate_left;trivial;rename_i e;refine⟨by kernel_rfl,fun K D=>?_⟩;refine⟨1,?_⟩;refine cf (fun rec=>(by kernel_rfl:_=(
  K (.ao [.agg [A (0:Int),af [],A (0:Int),A (0:Int)],.one (A e)]) []))) ?_
 exact D

def Hj:a7
 |[.one (.E .int e)],[]=>some (none,.ao [.agg [A 0,af [],A 0,A 0],.one (A e)],[])
 |_,_=>none

theorem akd:bo 195 Hj:=b2 0 bn Tryz.func195 (by kernel_rfl) fun vs au=>by
 unfold Hj;split;rotate_left;trivial;rename_i e;refine⟨by kernel_rfl,fun K D=>?_⟩;refine⟨1,?_⟩;refine cf (fun rec=>(by kernel_rfl:_=(
  K (.ao [.agg [A (0:Int),af [],A (0:Int),A (0:Int)],.one (A e)]) []))) ?_
 exact D

def GI:a7
 |[.agg [.E .int v,.E (.list .int) aF,.E .int t]],[]=>some (some (gf v aF t=0),.one (.E .str (j4 v aF t)),[])
 |_,_=>none

theorem ajy:bo 196 GI:=b2 0 (bn.f M7) Tryz.func196 (by kernel_rfl) fun vs au=>by
 unfold GI;split;rotate_left;trivial;rename_i v aF t;refine⟨by kernel_rfl,fun ad K D=>?_⟩;refine⟨1,?_⟩;obtain⟨v1,b9⟩:∃v1,v1=fO (v::t::[]):=⟨_,rfl⟩
 refine cf (fun rec=>(by subst b9;kernel_rfl:_=(
  (len (v::t::[])<=1000/\j1 (v::t::[])=true) /\
  len ((114:UInt8)::(111:UInt8)::(111:UInt8)::(116:UInt8)::(32:UInt8)::[])+len v1<=140737488355328 /\
  len (cat ((114:UInt8)::(111:UInt8)::(111:UInt8)::(116:UInt8)::(32:UInt8)::[]) v1)+len ((32:UInt8)::(111:UInt8)::(102:UInt8)::(32:UInt8)::[])<=140737488355328 /\
  (len aF<=1000/\j1 aF=true) /\
  len (cat (cat ((114:UInt8)::(111:UInt8)::(111:UInt8)::(116:UInt8)::(32:UInt8)::[]) v1) ((32:UInt8)::(111:UInt8)::(102:UInt8)::(32:UInt8)::[]))+len (fO aF)<=140737488355328 /\
  K (.one (.E z.str (cat (cat (cat ((114:UInt8)::(111:UInt8)::(111:UInt8)::(116:UInt8)::(32:UInt8)::[]) v1) ((32:UInt8)::(111:UInt8)::(102:UInt8)::(32:UInt8)::[])) (fO aF)))) []))) ?_
 subst b9;obtain⟨I,G,Y,aS,bj,bK⟩:=q8 ad;have gD:=sL [v,t];have jn:=sL aF;simp only[List.length_cons,List.length_nil]at gD;refine⟨⟨by simp only[len,List.length_cons,List.length_nil];omega,by simp only[j1,List.all_cons,List.all_nil,Bool.and_true,Bool.and_eq_true,decide_eq_true_eq];omega⟩,by simp only[len,List.length_cons,List.length_nil];omega,by simp only[len,cat,List.length_append,List.length_cons,List.length_nil];omega,⟨by simp only[len];omega,bK⟩,by simp only[len,cat,List.length_append,List.length_cons,List.length_nil];omega,?_⟩;rw[aeW];simpa[cat,j4]using D

def CV:a7
 |[.one (.E (.list .signed) l),.agg [.E .int v,.E (.list .int) aF,.E .int t],.one (.E (.list .int) a5),.one (.E .int n)],[]=>some (none,.ao [.one (A (iI l ⟨v,aF,t⟩ a5 n).1),.one (A (iI l ⟨v,aF,t⟩ a5 n).2)],[])
 |_,_=>none
def wP:Ctx:=[(29,z7),(30,zZ)]
def v5:List cu:=[.inLoop [37,36,35,12,9,8,5,2,3] (cy pr [1,1,1,1,1,0,1,0,0]),.inBlock 0,.code (cy pr [1,1,1,1,1,1])]
def LM(F ai:Int)(M:cG)(ag an:Int)(aE:aK)(aI:Int)(aV:aK)(aZ:Int)(bd:aK)(bu:Int):bO:=⟨[(37,.one (A F)),(36,.one (A ai)),(35,.one (.E (z.list z.signed) M)),(12,.one (.mp 0)),(9,.one (A ag)),(8,.one (A an)),(5,.one (.ptr 1 0)),(2,.one (af aE)),(3,.one (A aI))],[(0,.set aV),(1,.box [A aZ,af bd,A bu])],2⟩
def yn:List cu:=[.inLoop [52,51,50,15,12,9,8,5] (cy pr [1,1,1,1,1,1,1,0,1,0,0]),.inBlock 2,.code (cy pr [1,1,1,1,1,1,1,1])]
def LN(F ai:Int)(M:aK)(ag an:Int)(aE aI:aK)(aV:Int)(aZ:aK)(bd:Int):bO:=⟨[(52,.one (A F)),(51,.one (A ai)),(50,.one (af M)),(15,.one (.mp 0)),(12,.one (.mp 1)),(9,.one (A ag)),(8,.one (A an)),(5,.one (.ptr 2 0))],[(0,.set aE),(1,.set aI),(2,.box [A aV,af aZ,A bd])],3⟩
def uv:List cu:=[.inLoop [62,61,60,18,15,12,9,8] (cy pr [1,1,1,1,1,1,1,1,1,0,1,0,0]),.inBlock 4,.code (cy pr [1,1,1,1,1,1,1,1,1,1])]
def LO(F ai:Int)(M:aK)(ag an aE:Int)(aI aV:aK):bO:=⟨[(62,.one (A F)),(61,.one (A ai)),(60,.one (af M)),(18,.one (A ag)),(15,.one (.mp 0)),(12,.one (.mp 1)),(9,.one (A an)),(8,.one (A aE))],[(0,.set aI),(1,.set aV)],2⟩
theorem VP{F:Int}{aV:aK}{rec:bV}{K:aU}{ai M ag an aE aI aZ bd bu}{v1 v0}(b9:v1=fun a b=>LM a ai M ag an aE aI b aZ bd bu)(bX:v0=nX (nth M (Int.toNat F) (z.H z.signed)).key aV):b5 wP tab pr 0 K rec (cU v5) (v1 F aV)=(
 J (aL F ai)
 (((0:Int)<=F/\F<(len M:Int)) /\
 J (ar (nth M (Int.toNat F) (z.H z.signed)).name aI)
 (rec v5 (v1 (U (F+1)) v0))
 (rec v5 (v1 (U (F+1)) aV)))
 (rec yn (LN 0 (len aE:Int) aE ag an [] aV aZ bd bu))):=by subst_vars;kernel_rfl
theorem VQ{F:Int}{aE:aK}{rec:bV}{K:aU}{ai M ag an aI aV aZ bd}{v1 v0}(b9:v1=fun a b=>LN a ai M ag an b aI aV aZ bd)(bX:v0=nX (nth M (Int.toNat F) (z.H z.int)) aE):b5 wP tab pr 0 K rec (cU yn) (v1 F aE)=(
 J (aL F ai)
 (((0:Int)<=F/\F<(len M:Int)) /\
 rec yn (v1 (U (F+1)) v0))
 (rec uv (LO 0 (len aZ:Int) aZ 0 ag an aE aI))):=by subst_vars;kernel_rfl
theorem VR{F ag:Int}{rec:bV}{K:aU}{ai M an aE aI aV}{aC v0 v1}(cT:aC=fun a b=>LO a ai M b an aE aI aV)(bX:v0=lU (nth M (Int.toNat F) (z.H z.int)) aV)(b9:v1=lU (nth M (Int.toNat F) (z.H z.int)) aI):b5 wP tab pr 0 K rec (cU uv) (aC F ag)=(
 J (aL F ai)
 (((0:Int)<=F/\F<(len M:Int)) /\
 J v0
 (J v1
 (rec uv (aC (U (F+1)) (U (ag+1))))
 (rec uv (aC (U (F+1)) ag)))
 (rec uv (aC (U (F+1)) ag)))
 (K (.ao [.one (A ag),.one (A 0)]) [])):=by subst_vars;kernel_rfl

theorem RT(x k:Int)(aF:aK):lU x (nX k aF)=(decide (k=x)||lU x aF):=by
 unfold nX
 by_cases h:lU k aF=true
 ·rw[h];simp only
  by_cases c:k=x
  ·subst c;rw[h];simp
  ·simp[c]
 ·rw[(Bool.not_eq_true _).mp h];simp only[lU]
  by_cases c:k=x
  ·subst c;simp
  ·simp[c];exact fun e=>absurd e.symm c
theorem abV(x y:Int)(l:aK):rz x (l++[y])=(decide (y=x)||rz x l):=by
 simp only[rz,List.any_append,List.any_cons,List.any_nil,Bool.or_false];exact Bool.or_comm _ _
theorem Eo(l:cG)(aF a5:aK)(n:Int)(nS:aF.length<=6)(S aQ:aK)(dw:∀x,lU x S=rz x a5)(oC:∀x,lU x aQ=nc x n l)(K:aU)(an aE:Int):∀(d k c:Nat),k+d=aF.length->c<=k->K (.ao [.one (A ((c+nE l a5 n (aF.drop k):Nat):Int)),.one (A 0)]) [] ->
  co wP tab pr 0 K (d+1) uv (LO (k:Int) (((len aF):Nat):Int) aF (c:Int) an aE S aQ)
 |0,k,c,ae,aA,D=>by
  rw[bW (L:=uv),VR rfl rfl rfl];rw[List.drop_of_length_le (by omega)]at D;exact ci (by simp only[len];omega) D
 |d+1,k,c,ae,aA,D=>by
  rw[bW (L:=uv),VR rfl rfl rfl,cM];rw[ee (by omega) (z.H z.int),QS]at D;obtain⟨x,aG⟩:∃x,nth aF k (z.H z.int)=x:=⟨_,rfl⟩
  rw[aG]at D |-;rw[di (k:=k) (by omega),di (k:=c) (by omega)];have no:o1 l a5 n x=false->K (.ao [.one (A ((c+nE l a5 n (aF.drop (k+1)):Nat):Int)),.one (A 0)]) []:=fun h=>by
   rw[if_neg (by rw[h];simp),Nat.zero_add]at D;exact D
  rw[oC x,dw x];refine cV (by simp only[len];omega) ⟨⟨by omega,by simp only[len];omega⟩,b3 (fun h=>b3 (fun G=>?_) (fun G=>?_)) (fun h=>?_)⟩
  ·rw[if_pos (show o1 l a5 n x=true from by simp[o1,h,G])]at D;exact Eo l aF a5 n nS S aQ dw oC K an aE d (k+1) (c+1) (by omega) (by omega) (by rw[show c+1+nE l a5 n (aF.drop (k+1))=c+(1+nE l a5 n (aF.drop (k+1)))by omega];exact D)
  ·exact Eo l aF a5 n nS S aQ dw oC K an aE d (k+1) c (by omega) (by omega) (no (by simp[o1,G]))
  ·exact Eo l aF a5 n nS S aQ dw oC K an aE d (k+1) c (by omega) (by omega) (no (by simp[o1,h]))
theorem Tw(l:cG)(v:Int)(aF:aK)(t:Int)(a5:aK)(n:Int)(nS:aF.length<=6)(av:a5.length<=50)(aQ:aK)(oC:∀x,lU x aQ=nc x n l)(K:aU)(an aE:Int)(D:K (.ao [.one (A ((nE l a5 n aF:Nat):Int)),.one (A 0)]) []):∀(d k:Nat) (S:aK),k+d=a5.length->(∀x,lU x S=rz x (a5.take k)) ->
  co wP tab pr 0 K (aF.length+1+d+1) yn (LN (k:Int) (((len a5):Nat):Int) a5 an aE S aQ v aF t)
 |0,k,S,ae,dw=>by
  rw[bW (L:=yn),VQ rfl rfl];rw[List.take_of_length_le (by omega)]at dw;exact ci (by simp only[len];omega) (Eo l aF a5 n nS S aQ dw oC K an aE aF.length 0 0 (by omega) (by omega) (by rw[Nat.zero_add];exact D))
 |d+1,k,S,ae,dw=>by
  rw[show aF.length+1+(d+1)+1=(aF.length+1+d+1)+1 by omega,bW (L:=yn),VQ rfl rfl,cM];rw[di (k:=k) (by omega)];refine cV (by simp only[len];omega) ⟨⟨by omega,by simp only[len];omega⟩,?_⟩;exact Tw l v aF t a5 n nS av aQ oC K an aE D d (k+1) _ (by omega) (fun x=>by rw[RT,iz (by omega) (z.H z.int),abV,dw x])
theorem KK(l:cG)(v:Int)(aF:aK)(t:Int)(a5:aK)(n:Int)(nS:aF.length<=6)(az:l.length<=360)(av:a5.length<=50)(K:aU)(an aE:Int)(D:K (.ao [.one (A ((nE l a5 n aF:Nat):Int)),.one (A 0)]) []):∀(d k:Nat) (aQ:aK),k+d=l.length->(∀x,lU x aQ=nc x n (l.take k)) ->
  co wP tab pr 0 K (aF.length+1+a5.length+1+d+1) v5 (LM (k:Int) (((len l):Nat):Int) l an aE a5 n aQ v aF t)
 |0,k,aQ,ae,oC=>by
  rw[bW (L:=v5),VP rfl rfl];rw[List.take_of_length_le (by omega)]at oC;exact ci (by simp only[len];omega) (Tw l v aF t a5 n nS av aQ oC K an aE D a5.length 0 [] (by omega) (fun x=>rfl))
 |d+1,k,aQ,ae,oC=>by
  rw[show aF.length+1+a5.length+1+(d+1)+1=(aF.length+1+a5.length+1+d+1)+1 by omega,bW (L:=v5),VP rfl rfl,cM];rw[di (k:=k) (by omega)];have bm:∀x,nc x n (l.take (k+1))=(nc x n (l.take k)||rH x n (nth l k (z.H z.signed))):=fun x=>by
   rw[iz (by omega) (z.H z.signed),abW];simp[nc]
  obtain⟨y,cv⟩:∃y,nth l k (z.H z.signed)=y:=⟨_,rfl⟩
  rw[cv]at bm |-;refine cV (by simp only[len];omega) ⟨⟨by omega,by simp only[len];omega⟩,cI (fun h=>?_) (fun h=>?_)⟩
  ·refine KK l v aF t a5 n nS az av K an aE D d (k+1) _ (by omega) (fun x=>?_);rw[RT,bm x,oC x,Bool.or_comm];congr 1;simp only[rH,ar,h,Bool.and_true,decide_true]
   by_cases c:y.key=x
   ·simp[c]
   ·simp[c,Ne.symm c]
  ·refine KK l v aF t a5 n nS az av K an aE D d (k+1) _ (by omega) (fun x=>?_);rw[bm x,oC x];have:rH x n y=false:=by
    simp only[rH,ar,Bool.and_true,Bool.and_eq_false_iff,decide_eq_false_iff_not];exact .inr (fun e=>h e.symm)
   rw[this,Bool.or_false]
theorem X1:bo 170 CV:=b2 (Γ:=wP) 0 ((bn.f Fo).f Nm) Tryz.func170 (by kernel_rfl) fun vs au=>by
 unfold CV;split;rotate_left;trivial;rename_i l v aF t a5 n;refine⟨by kernel_rfl,fun K D=>?_⟩;refine⟨aF.length+1+a5.length+1+l.length+2,?_⟩;refine cf (fun rec=>(by kernel_rfl:_=(
  J (!(ar (hO l) 0))
  (K (.ao [.one (A 0),.one (A (hO l))]) [])
  (J (!(ar (gf v aF t) 0))
  (K (.ao [.one (A 0),.one (A (gf v aF t))]) [])
  (J (aL 50 (len a5:Int))
  (K (.ao [.one (A 0),.one (A 2)]) [])
  (rec v5 (LM 0 (len l:Int) l 0 0 a5 n [] v aF t))))))) ?_
 unfold iI at D;simp only at D;refine bG (fun h=>?_) (fun h=>bG (fun G=>?_) (fun G=>bq (fun Y=>?_) (fun Y=>?_)))
 ·rw[if_neg h]at D;exact D
 ·rw[if_pos h,if_neg G]at D;exact D
 ·rw[if_pos h,if_pos G,if_pos (by simp only[len]at Y;omega)]at D;exact D
 ·rw[if_pos h,if_pos G,if_neg (by simp only[len]at Y;omega)]at D;exact KK l v aF t a5 n (q8 G).2.2.2.2.1 (Ag h).1 (by simp only[len]at Y;omega) K 0 0 D l.length 0 [] (by omega) (fun x=>rfl)

def Hl:a7
 |[.agg [.E (.list .str) b],.one (.E (.list .signed) l),.agg [.E .int v,.E (.list .int) aF,.E .int t,.E .int n],.agg [.E .int eM,.E (.list .int) el,.E .int eQ],.one (.E (.list .int) a5)],[]=>some (none,.ao [.agg [A (gK b l ⟨⟨v,aF,t⟩,n⟩ ⟨eM,el,eQ⟩ a5).1.r.version,af (gK b l ⟨⟨v,aF,t⟩,n⟩ ⟨eM,el,eQ⟩ a5).1.r.keys,A (gK b l ⟨⟨v,aF,t⟩,n⟩ ⟨eM,el,eQ⟩ a5).1.r.dV,A (gK b l ⟨⟨v,aF,t⟩,n⟩ ⟨eM,el,eQ⟩ a5).1.version],.one (A (gK b l ⟨⟨v,aF,t⟩,n⟩ ⟨eM,el,eQ⟩ a5).2)],[])
 |_,_=>none
def Oo:Ctx:=[(195,Hj),(103,CU),(30,zZ),(28,w8),(196,GI),(33,zY),(170,CV)]
def v6:List cu:=[.inLoop [68,67,66,16,12,11,10,8,7,1,4] (Code.sub (bR Tryz.f169) [1,1,1,1,1,1,1,0,1,0,0]),.inBlock 0,.code (Code.sub (bR Tryz.f169) [1,1,1,1,1,1,1,1])]
def LP(F ai M ag:Int)(an:cG)(aE:aK)(aI:hs)(aV aZ bd bu:Int)(bx:aK)(br bD:Int)(bM:aK)(bJ bP:Int)(bC:aK):bO:=⟨[(68,.one (A F)),(67,.one (A ai)),(66,.one (.own 0)),(16,.one (A M)),(12,.one (.fn 195 [])),(11,.one (A ag)),(10,.one (.ptr 1 0)),(8,.one (.ptr 2 0)),(7,.one (.ptr 3 0)),(1,.one (.E (z.list z.signed) an)),(4,.one (af aE))],[(0,.arr z.root aI),(1,.box [A aV,.own 4,A aZ,A bd]),(2,.box [A bu,af bx,A br]),(3,.box [A bD,af bM,A bJ,A bP]),(4,.arr z.int bC)],5⟩
theorem LQ{F:Int}{rec:bV}{K:aU}{ai M ag an aE aI aV aZ bd bu bx br bD bM bJ bP bC}{v1 v0}(b9:v1=fun a=>LP a ai M ag an aE aI aV aZ bd bu bx br bD bM bJ bP bC)(bX:v0=iI an (nth aI (Int.toNat F) (z.H z.root)) aE M):b5 Oo tab Tryz.f169 0 K rec (cU v6) (v1 F)=(
 J (aL F ai)
 (((0:Int)<=F/\F<(len aI:Int)) /\
 Int.toNat F<len aI /\
 J (!(ar v0.snd 0))
 (K (.ao [.agg [A (0:Int),af [],A (0:Int),A (0:Int)],.one (A v0.snd)]) [])
 (J (aL v0.fst (nth aI (Int.toNat F) (z.H z.root)).dV)
 (K (.ao [.agg [A (0:Int),af [],A (0:Int),A (0:Int)],.one (A 9)]) [])
 (rec v6 (v1 (U (F+1))))))
 (K (.ao [.agg [A bu,af bx,A br,A bP],.one (A 0)]) [])):=by subst_vars;kernel_rfl

theorem ae2(l:cG)(a5:aK)(name ag aV aZ bd eM:Int)(el:aK)(eQ v:Int)(aF:aK)(t n:Int)(bC:aK)(K:aU)
  (D:∀e,(if gP l ⟨v,aF,t⟩ a5 name=0 then gP l ⟨eM,el,eQ⟩ a5 name else gP l ⟨v,aF,t⟩ a5 name)=e->K (.ao [.agg [A (if e=0 then eM else 0),af (if e=0 then el else []),A (if e=0 then eQ else 0),A (if e=0 then n else 0)],.one (A e)]) []) :
  co Oo tab Tryz.f169 0 K 3 v6 (LP 0 (((len ((⟨v,aF,t⟩:q0)::((⟨eM,el,eQ⟩:q0)::[]))):Nat):Int) name ag l a5 [⟨v,aF,t⟩,⟨eM,el,eQ⟩] aV aZ bd eM el eQ v aF t n bC):=by
 have one:∀(r:q0) (p q s:Prop),(gP l r a5 name≠0->(iI l r a5 name).2≠0->gP l r a5 name=(iI l r a5 name).2->p)->(gP l r a5 name=9->q)->(gP l r a5 name=0->s)->J (!(ar (iI l r a5 name).2 0)) p (J (aL (iI l r a5 name).1 r.dV) q s):=fun r p q s I G Y=>by
  refine bG (fun h=>?_) (fun h=>bq (fun g=>?_) (fun g=>?_))
  ·have e:gP l r a5 name=(iI l r a5 name).2:=if_neg h;exact I (by rw[e];exact h) h e
  ·exact G (by unfold gP;rw[if_pos h,if_pos g])
  ·exact Y (by unfold gP;rw[if_pos h,if_neg (by omega)])
 rw[bW (L:=v6),LQ rfl rfl];refine cV (by simp[len]) ⟨⟨by simp,by simp[len]⟩,by simp[len],?_⟩;refine one ⟨v,aF,t⟩ _ _ _ (fun h I G=>?_) (fun h=>?_) (fun h=>?_)
 ·have:=D _ (if_neg h);rw[if_neg h,if_neg h,if_neg h,if_neg h,G]at this;exact this
 ·have:=D 9 (by rw[h];rfl);exact this
 have aN:U ((0:Int)+1)=1:=by decide
 rw[aN];rw[bW (L:=v6),LQ rfl rfl];refine cV (by simp[len]) ⟨⟨by simp,by simp[len]⟩,by simp[len],?_⟩;refine one ⟨eM,el,eQ⟩ _ _ _ (fun g I G=>?_) (fun g=>?_) (fun g=>?_)
 ·have:=D _ (if_pos h);rw[if_neg g,if_neg g,if_neg g,if_neg g,G]at this;exact this
 ·have:=D 9 (by rw[if_pos h,g]);exact this
 have aX:U ((1:Int)+1)=2:=by decide
 rw[aX];rw[bW (L:=v6),LQ rfl rfl];refine ci (by simp[len]) ?_;have:=D 0 (by rw[if_pos h,g]);exact this
theorem akf:bo 169 Hl:=b2 (Γ:=Oo) 0 (((((((bn.f X1).f Fm).f ajy).f Fl).f Fo).f Nn).f akd) Tryz.func169 (by kernel_rfl) fun vs au=>by
 unfold Hl;split;rotate_left;trivial;rename_i b l v aF t n eM el eQ a5;refine⟨by kernel_rfl,fun K D=>?_⟩;refine⟨4,?_⟩;refine cf (fun rec=>(by kernel_rfl:_=(
  J (!(ar (g5 ⟨⟨v,aF,t⟩,n⟩) 0))
  (K (.ao [.agg [A (0:Int),af [],A (0:Int),A (0:Int)],.one (A (g5 ⟨⟨v,aF,t⟩,n⟩))]) [])
  (J (!(ar (gf eM el eQ) 0))
  (K (.ao [.agg [A (0:Int),af [],A (0:Int),A (0:Int)],.one (A (gf eM el eQ))]) [])
  (J (!(ar (fq b) 0))
  (K (.ao [.agg [A (0:Int),af [],A (0:Int),A (0:Int)],.one (A (fq b))]) [])
  (J (!(ar (U (eM-1)) v))
  (K (.ao [.agg [A (0:Int),af [],A (0:Int),A (0:Int)],.one (A 10)]) [])
  (gf eM el eQ=(0:Int) /\
  List.length b<=60 /\
  rec v6 (LP 0 (((len ((⟨v,aF,t⟩:q0)::(⟨eM,el,eQ⟩:q0)::[])):Nat):Int) (ev (j4 eM el eQ) b+1) 0 l a5 ((⟨v,aF,t⟩:q0)::(⟨eM,el,eQ⟩:q0)::[]) 0 0 0 eM el eQ v aF t n [])))))))) ?_
 have bad:∀e:Int,e≠0->rV b l ⟨⟨v,aF,t⟩,n⟩ ⟨eM,el,eQ⟩ a5=e->K (.ao [.agg [A 0,af [],A 0,A 0],.one (A e)]) []:=fun e bv h=>by
  rw[show gK b l ⟨⟨v,aF,t⟩,n⟩ ⟨eM,el,eQ⟩ a5=(l5,e)from by unfold gK;rw[if_neg (by rw[h];exact bv),h]]at D;exact D
 refine bG (fun h=>bad _ h (if_neg h)) (fun h=>?_);have er:rV b l ⟨⟨v,aF,t⟩,n⟩ ⟨eM,el,eQ⟩ a5=_:=if_pos h;refine bG (fun G=>bad _ G (er.trans (if_neg G))) (fun G=>?_);have dO:=er.trans (if_pos G);refine bG (fun Y=>bad _ Y (dO.trans (if_neg Y))) (fun Y=>?_);have gu:=dO.trans (if_pos Y);obtain⟨gm,hH,_⟩:=q8 G;rw[cb (by omega) (by omega)];refine bG (fun aS=>bad _ (by decide) (gu.trans (if_neg (by simp only;omega)))) (fun aS=>?_);have ic:=gu.trans (if_pos (by simp only;omega));refine⟨G,pg Y,?_⟩;refine ae2 l a5 _ 0 0 0 0 eM el eQ v aF t n [] K (fun e bv=>?_);have m3:=ic.trans bv
 by_cases c:e=0
 ·subst c;rw[show gK b l ⟨⟨v,aF,t⟩,n⟩ ⟨eM,el,eQ⟩ a5=(⟨⟨eM,el,eQ⟩,n⟩,0)from by unfold gK;rw[if_pos m3]]at D;exact D
 ·rw[if_neg c,if_neg c,if_neg c,if_neg c];exact bad e c m3

def GJ:a7
 |[.agg [.E .int v,.E .int u,.E (.list .target) ts]],[]=>some (some (gG v u ts=0),.one (.E .str (l8 v u ts)),[])
 |_,_=>none
def Oc:Ctx:=[(101,GH),(185,Da)]
def x4:List cu:=[.inLoop [21,20,19,3,2] (Code.sub (bR Tryz.f171) [1,1,0,1,0,0]),.inBlock 0,.code (Code.sub (bR Tryz.f171) [1,1,1])]
def Ls(F ai:Int)(M:LT)(ag:jM)(an:cD):bO:=⟨[(21,.one (A F)),(20,.one (A ai)),(19,.one (.E (z.list z.target) M)),(3,.one (.own 0)),(2,.one (.E z.str ag))],[(0,.arr z.str an)],1⟩
theorem Vt{F:Int}{an:cD}{rec:bV}{K:aU}{ai M ag}{v3 v0 v1 aC}(ed:v3=fun a b=>Ls a ai M ag b)(bX:v0=j1 ((nth M (Int.toNat F) (z.H z.target)).unit::(nth M (Int.toNat F) (z.H z.target)).image::(nth M (Int.toNat F) (z.H z.target)).dr::[]))(b9:v1=fO ((nth M (Int.toNat F) (z.H z.target)).unit::(nth M (Int.toNat F) (z.H z.target)).image::(nth M (Int.toNat F) (z.H z.target)).dr::[]))(cT:aC=jE ((59:UInt8)::(32:UInt8)::[]) an):b5 Oc tab Tryz.f171 0 K rec (cU x4) (v3 F an)=(
 J (aL F ai)
 (((0:Int)<=F/\F<(len M:Int)) /\
 (len ((nth M (Int.toNat F) (z.H z.target)).unit::(nth M (Int.toNat F) (z.H z.target)).image::(nth M (Int.toNat F) (z.H z.target)).dr::[])<=1000/\v0=true) /\
 (len an+len (v1::[]))*16<=140737488355328 /\
 rec x4 (v3 (U (F+1)) (cat an (v1::[]))))
 ((List.length an<=140737488355328/\List.length aC<=140737488355328) /\
 K (.one (.E z.str aC)) [])):=by subst_vars;kernel_rfl

theorem TO(ts:LT)(az:ts.length<=4)(aq:∀t∈ts,0<=t.unit/\t.unit<=1000/\0<=t.image/\t.image<=1000/\0<=t.dr/\t.dr<=1000)(K:aU)(pre:jM)(ad:pre.length<=1000)(ag:jM)(D:K (.one (.E .str (pre++od ts))) []):∀(d k:Nat),k+d=ts.length ->
  co Oc tab Tryz.f171 0 K (d+1) x4 (Ls (k:Int) (((len ts):Nat):Int) ts ag (pre::(ts.take k).map fun t=>fO [t.unit,t.image,t.dr]))
 |0,k,ae=>by
  rw[bW (L:=x4),Vt rfl rfl rfl rfl,List.take_of_length_le (by omega),W8];have aH:=Ku [59,32] 1000 (pre::ts.map fun t=>fO [t.unit,t.image,t.dr]) (fun x aG=>by
   rcases List.mem_cons.1 aG with rfl|aG
   ·exact ad
   ·obtain⟨t,_,rfl⟩:=List.mem_map.1 aG;have:=sL [t.unit,t.image,t.dr];simp only[List.length_cons,List.length_nil]at this;omega)
  rw[W8]at aH;simp only[List.length_cons,List.length_map,List.length_nil]at aH;exact ci (by simp only[len];omega) ⟨⟨by simp only[List.length_cons,List.length_map];omega,by omega⟩,D⟩
 |d+1,k,ae=>by
  rw[bW (L:=x4),Vt rfl rfl rfl rfl,cM];have bm:=iz (l:=ts) (k:=k) (by omega) (z.H z.target);have aB:nth ts k (z.H z.target)∈ts:=by
   have:k<ts.length:=by omega
   simp[nth,List.getD_eq_getElem?_getD,this]
  have aG:=aq _ aB;obtain⟨x,sI⟩:∃x,nth ts k (z.H z.target)=x:=⟨_,rfl⟩
  rw[sI]at aG bm |-;have hF:U ((k:Int)+1)=((k+1:Nat):Int):=di (by omega);rw[hF];refine cV (by simp only[len];omega) ⟨⟨by omega,by simp only[len];omega⟩,⟨by simp[len],?_⟩,by simp only[len,List.length_cons,List.length_map,List.length_take,List.length_nil];omega,?_⟩
  ·simp only[j1,List.all_cons,List.all_nil,Bool.and_true,Bool.and_eq_true,decide_eq_true_eq];omega
  ·rw[show cat (pre::(ts.take k).map fun t=>fO [t.unit,t.image,t.dr]) [fO [x.unit,x.image,x.dr]]=pre::(ts.take (k+1)).map fun t=>fO [t.unit,t.image,t.dr]from by rw[bm];simp[cat]];exact TO ts az aq K pre ad ag D d (k+1) (by omega)
theorem ajz:bo 171 GJ:=b2 (Γ:=Oc) 0 ((bn.f ⟨⟨_,Tryz.func185,(by kernel_rfl)⟩,YC⟩).f M7) Tryz.func171 (by kernel_rfl) fun vs au=>by
 unfold GJ;split;rotate_left;trivial;rename_i v u ts;refine⟨by kernel_rfl,fun ad K D=>?_⟩;refine⟨ts.length+2,?_⟩;refine cf (fun rec=>(by kernel_rfl:_=(
  (len (v::[])<=1000/\j1 (v::[])=true) /\
  len ((114:UInt8)::(101:UInt8)::(108:UInt8)::(101:UInt8)::(97:UInt8)::(115:UInt8)::(101:UInt8)::(32:UInt8)::[])+len (fO (v::[]))<=140737488355328 /\
  len (cat ((114:UInt8)::(101:UInt8)::(108:UInt8)::(101:UInt8)::(97:UInt8)::(115:UInt8)::(101:UInt8)::(32:UInt8)::[]) (fO (v::[])))+len ((32:UInt8)::(117:UInt8)::(110:UInt8)::(116:UInt8)::(105:UInt8)::(108:UInt8)::(32:UInt8)::[])<=140737488355328 /\
  (len (u::[])<=1000/\j1 (u::[])=true) /\
  len (cat (cat ((114:UInt8)::(101:UInt8)::(108:UInt8)::(101:UInt8)::(97:UInt8)::(115:UInt8)::(101:UInt8)::(32:UInt8)::[]) (fO (v::[]))) ((32:UInt8)::(117:UInt8)::(110:UInt8)::(116:UInt8)::(105:UInt8)::(108:UInt8)::(32:UInt8)::[]))+len (fO (u::[]))<=140737488355328 /\
  rec x4 (Ls 0 (len ts:Int) ts [] (cat (cat (cat ((114:UInt8)::(101:UInt8)::(108:UInt8)::(101:UInt8)::(97:UInt8)::(115:UInt8)::(101:UInt8)::(32:UInt8)::[]) (fO (v::[]))) ((32:UInt8)::(117:UInt8)::(110:UInt8)::(116:UInt8)::(105:UInt8)::(108:UInt8)::(32:UInt8)::[])) (fO (u::[]))::[]))))) ?_
 obtain⟨I,G,Y,aS,bj,bK,c4⟩:=Af ad;have gD:=um v;have iN:=um u;rw[Tf,Tf];refine⟨⟨by simp[len],by simp only[j1,List.all_cons,List.all_nil,Bool.and_true,Bool.and_eq_true,decide_eq_true_eq];omega⟩,by simp only[len,List.length_cons,List.length_nil];omega,by simp only[len,cat,List.length_append,List.length_cons,List.length_nil];omega,⟨by simp[len],by simp only[j1,List.all_cons,List.all_nil,Bool.and_true,Bool.and_eq_true,decide_eq_true_eq];omega⟩,by simp only[len,cat,List.length_append,List.length_cons,List.length_nil];omega,?_⟩;exact TO ts bK c4 K ([114,101,108,101,97,115,101,32]++fZ v++[32,117,110,116,105,108,32]++fZ u) (by simp only[List.length_append,List.length_cons,List.length_nil];omega) [] D ts.length 0 (by omega)

def P3:a7
 |[.agg [.E (.list .str) b],.one (.E (.list .signed) l),.agg [.E .int v,.E (.list .int) aF,.E .int t,.E .int n],.agg [.E (.list .root) rs,.E (.list (.list .int)) rg,.E .int bE,.E .int bY,.E (.list .target) ts,.E (.list .int) a5,.E (.list (.list .int)) a8],.one (.E .int now),.one (.E .int units)],[]=>some (none,.ao [.agg [A (ha b l ⟨⟨v,aF,t⟩,n⟩ ⟨rs,rg,⟨bE,bY,ts⟩,a5,a8⟩ now units).1.r.version,af (ha b l ⟨⟨v,aF,t⟩,n⟩ ⟨rs,rg,⟨bE,bY,ts⟩,a5,a8⟩ now units).1.r.keys,A (ha b l ⟨⟨v,aF,t⟩,n⟩ ⟨rs,rg,⟨bE,bY,ts⟩,a5,a8⟩ now units).1.r.dV,A (ha b l ⟨⟨v,aF,t⟩,n⟩ ⟨rs,rg,⟨bE,bY,ts⟩,a5,a8⟩ now units).1.version],.one (A (ha b l ⟨⟨v,aF,t⟩,n⟩ ⟨rs,rg,⟨bE,bY,ts⟩,a5,a8⟩ now units).2)],[])
 |_,_=>none
def Cn:Ctx:=[(168,Hk),(103,CU),(169,Hl),(38,CJ),(28,w8),(171,GJ),(33,zY),(170,CV),(32,z1),(34,CK)]
def yo:List cu:=[.inLoop [55,54,14,13,12,9,8,6,1,4,5] (cy tz [1,1,1,1,0,1,0,0]),.inBlock 0,.code (cy tz [1,1,1,1,1])]
def LR(F ai M:Int)(ag:cG)(an aE aI aV aZ:Int)(bd:hs)(bu:cj)(bx br:Int)(bD:LT)(bM:aK)(bJ:cj)(bP:Int)(bC:aK)(bT b1:Int)(cw:cD)(cB:aK):bO:=⟨[(55,.one (A F)),(54,.one (A ai)),(14,.one (.fn 168 [])),(13,.one (A M)),(12,.one (.ptr 0 0)),(9,.one (.ptr 1 0)),(8,.one (.ptr 2 0)),(6,.one (.ptr 3 0)),(1,.one (.E (z.list z.signed) ag)),(4,.one (A an)),(5,.one (A aE))],[(0,.box [A aI,.own 4,A aV,A aZ]),(1,.box [.E (z.list z.root) bd,ct bu,A bx,A br,.E (z.list z.target) bD,af bM,ct bJ]),(2,.box [A bP,af bC,A bT,A b1]),(3,.box [.E (z.list z.str) cw]),(4,.arr z.int cB)],5⟩
def yp:List cu:=[.inLoop [173,172,171,14,13,12,9,8,6] (cy tz [1,1,1,1,1,1,1,1,1,1,1,1,1,0,1,0,0]),.inBlock 2,.code (cy tz [1,1,1,1,1,1,1,1,1,1,1,1,1,1])]
def LS(F ai:Int)(M:LT)(ag an aE aI:Int)(aV:hs)(aZ:cj)(bd bu:Int)(bx:LT)(br:aK)(bD:cj)(bM:Int)(bJ:aK)(bP bC:Int)(bT:cD)(b1:aK):bO:=⟨[(173,.one (A F)),(172,.one (A ai)),(171,.one (.E (z.list z.target) M)),(14,.one (.fn 168 [])),(13,.one (A ag)),(12,.one (.ptr 0 0)),(9,.one (.ptr 1 0)),(8,.one (.ptr 2 0)),(6,.one (.ptr 3 0))],[(0,.box [A an,.own 4,A aE,A aI]),(1,.box [.E (z.list z.root) aV,ct aZ,A bd,A bu,.E (z.list z.target) bx,af br,ct bD]),(2,.box [A bM,af bJ,A bP,A bC]),(3,.box [.E (z.list z.str) bT]),(4,.arr z.int b1)],5⟩
theorem VS{F bP bT b1:Int}{bC:aK}{rec:bV}{K:aU}{ai M ag an aE aI aV aZ bd bu bx br bD bM bJ cw cB}{dR v0 v1 aC v3 v4 cn dy}(kG:dR=fun a b c d e=>LR a ai M ag an aE aI aV aZ bd bu bx br bD bM bJ b c d e cw cB)(bX:v0=gK cw ag ⟨⟨bP,bC,bT⟩,b1⟩ ⟨(nth bd (Int.toNat F) (z.H z.root)).version,(nth bd (Int.toNat F) (z.H z.root)).keys,(nth bd (Int.toNat F) (z.H z.root)).dV⟩ (nth bu (Int.toNat F) (z.H (z.list z.int))))(b9:v1=gG bx br bD)(cT:aC=fq cw)(ed:v3=l8 bx br bD)(e5:v4=ev v3 cw)(hx:cn=iI ag ⟨bP,bC,bT⟩ bM (v4+1))(iL:dy=K (.ao [.agg [A (0:Int),af [],A (0:Int),A (0:Int)],.one (A 4)]) []):b5 Cn tab tz 0 K rec (cU yo) (dR F bP bC bT b1)=(
 J (aL F ai)
 (((0:Int)<=F/\F<(len bd:Int)) /\
 ((0:Int)<=F/\F<(len bu:Int)) /\
 J (!(ar v0.snd 0))
 (K (.ao [.agg [A (0:Int),af [],A (0:Int),A (0:Int)],.one (A v0.snd)]) [])
 (rec yo (dR (U (F+1)) v0.fst.r.version v0.fst.r.keys v0.fst.r.dV v0.fst.version)))
 (J (!(ar v1 0))
 (K (.ao [.agg [A (0:Int),af [],A (0:Int),A (0:Int)],.one (A v1)]) [])
 (J (!(ar aC 0))
 (K (.ao [.agg [A (0:Int),af [],A (0:Int),A (0:Int)],.one (A aC)]) [])
 (v1=(0:Int) /\
 List.length cw<=60 /\
 J (!(ar cn.snd 0))
 (K (.ao [.agg [A (0:Int),af [],A (0:Int),A (0:Int)],.one (A cn.snd)]) [])
 (J (aL cn.fst bT)
 (K (.ao [.agg [A (0:Int),af [],A (0:Int),A (0:Int)],.one (A 9)]) [])
 (J (dh bx b1)
 (K (.ao [.agg [A (0:Int),af [],A (0:Int),A (0:Int)],.one (A 10)]) [])
 (J (aL br an)
 (K (.ao [.agg [A (0:Int),af [],A (0:Int),A (0:Int)],.one (A 11)]) [])
 (J (!(ar (len bD:Int) aE))
 dy
 (J (!(ar (len bJ:Int) aE))
 dy
 (rec yp (LS 0 (len bD:Int) bD M aI aV aZ bd bu bx br bD bM bJ bP bC bT b1 cw cB))))))))))):=by subst_vars;kernel_rfl
theorem VT{F:Int}{rec:bV}{K:aU}{ai M ag an aE aI aV aZ bd bu bx br bD bM bJ bP bC bT b1}{v3 v0 v1 aC v4}(ed:v3=fun a=>LS a ai M ag an aE aI aV aZ bd bu bx br bD bM bJ bP bC bT b1)(bX:v0=fv (nth bD (Int.toNat F) (z.H (z.list z.int))))(b9:v1=kk (nth bD (Int.toNat F) (z.H (z.list z.int))))(cT:aC=ev v1 bT)(e5:v4=K (.ao [.agg [A (0:Int),af [],A (0:Int),A (0:Int)],.one (A 5)]) []):b5 Cn tab tz 0 K rec (cU yp) (v3 F)=(
 J (aL F ai)
 (((0:Int)<=F/\F<(len M:Int)) /\
 ((0:Int)<=F/\F<(len bD:Int)) /\
 J (!(ar v0 0))
 v4
 (J (!(ar (((len (nth bD (Int.toNat F) (z.H (z.list z.int)))):Nat):Int) (nth M (Int.toNat F) (z.H z.target)).dr))
 v4
 (v0=(0:Int) /\
 List.length bT<=60 /\
 J (!(ar (aC+1) (nth M (Int.toNat F) (z.H z.target)).image))
 v4
 (rec yp (v3 (U (F+1)))))))
 (K (.ao [.agg [A bM,af bJ,A bP,A bd],.one (A 0)]) [])):=by subst_vars;kernel_rfl

theorem TA(b:cD)(ay:b.length<=60)(qt:fq b=0)(ts:LT)(a8:cj)(az:ts.length<=4)(hi:a8.length=ts.length)(K:aU)(ag an aE aI:Int)(rs:hs)(rg:cj)(bE bY:Int)(a5:aK)(v:Int)(aF:aK)(t n:Int)(b1:aK):∀(d k:Nat),k+d=ts.length ->
  (n6 b (ts.drop k) (a8.drop k)=true->K (.ao [.agg [A v,af aF,A t,A bE],.one (A 0)]) []) ->
  (n6 b (ts.drop k) (a8.drop k)=false->K (.ao [.agg [A 0,af [],A 0,A 0],.one (A 5)]) []) ->
  co Cn tab tz 0 K (d+1) yp (LS (k:Int) (((len ts):Nat):Int) ts ag an aE aI rs rg bE bY ts a5 a8 v aF t n b b1)
 |0,k,jC,bI,c8=>by
  rw[bW (L:=yp),VT rfl rfl rfl rfl rfl];rw[List.drop_of_length_le (by omega)]at bI;exact ci (by simp only[len];omega) (bI rfl)
 |d+1,k,jC,bI,c8=>by
  rw[bW (L:=yp),VT rfl rfl rfl rfl rfl,cM];rw[ee (l:=ts) (by omega) (z.H z.target),ee (l:=a8) (by omega) (z.H (z.list z.int))]at bI c8;obtain⟨x,aG⟩:∃x,nth ts k (z.H z.target)=x:=⟨_,rfl⟩
  obtain⟨w,b8⟩:∃w,nth a8 k (z.H (z.list z.int))=w:=⟨_,rfl⟩
  rw[aG,b8]at bI c8 |-;simp only[n6,List.headD_cons,List.tail_cons]at bI c8;have kB:n5 b x w=false->K (.ao [.agg [A 0,af [],A 0,A 0],.one (A 5)]) []:=fun h=>c8 (by rw[h];rfl)
  have hF:U ((k:Int)+1)=((k+1:Nat):Int):=di (by omega);rw[hF];refine cV (by simp only[len];omega) ⟨⟨by omega,by simp only[len];omega⟩,⟨by omega,by simp only[len];omega⟩,bG (fun h=>kB ?_) (fun h=>?_)⟩
  ·have:(gH b w).2=fv w:=by unfold gH;rw[if_neg h]
   simp[n5,this,h]
  have aN:gH b w=(ev (kk w) b+1,0):=by unfold gH;rw[if_pos h];exact if_pos qt
  refine bG (fun G=>kB ?_) (fun G=>⟨h,ay,bG (fun Y=>kB ?_) (fun Y=>?_)⟩)
  ·simp only[n5,Bool.and_eq_false_iff,decide_eq_false_iff_not];exact .inr G
  ·simp[n5,aN,Y]
  ·have ok:n5 b x w=true:=by
    simp only[n5,aN,Bool.and_eq_true,decide_eq_true_eq];exact⟨⟨trivial,Y⟩,G⟩
   rw[ok]at bI c8;exact TA b ay qt ts a8 az hi K ag an aE aI rs rg bE bY a5 v aF t n b1 d (k+1) (by omega) (fun g=>bI (by rw[g];rfl)) (fun g=>c8 (by rw[g];rfl))
theorem T7(b:cD)(l:cG)(rs:hs)(rg:cj)(bE bY:Int)(ts:LT)(a5:aK)(a8:cj)(now units:Int)(aw:rs.length<=6)(bt:rg.length=rs.length)(K:aU)(M aI aV aZ:Int)(cB:aK):∀(d k:Nat) (v:Int) (aF:aK) (t n:Int),k+d=rs.length ->
  K (.ao [.agg [A (takeEnd b l ⟨rs,rg,⟨bE,bY,ts⟩,a5,a8⟩ now units (gU b l ⟨⟨v,aF,t⟩,n⟩ (rs.drop k) (rg.drop k))).1.r.version,af (takeEnd b l ⟨rs,rg,⟨bE,bY,ts⟩,a5,a8⟩ now units (gU b l ⟨⟨v,aF,t⟩,n⟩ (rs.drop k) (rg.drop k))).1.r.keys,A (takeEnd b l ⟨rs,rg,⟨bE,bY,ts⟩,a5,a8⟩ now units (gU b l ⟨⟨v,aF,t⟩,n⟩ (rs.drop k) (rg.drop k))).1.r.dV,A (takeEnd b l ⟨rs,rg,⟨bE,bY,ts⟩,a5,a8⟩ now units (gU b l ⟨⟨v,aF,t⟩,n⟩ (rs.drop k) (rg.drop k))).1.version],.one (A (takeEnd b l ⟨rs,rg,⟨bE,bY,ts⟩,a5,a8⟩ now units (gU b l ⟨⟨v,aF,t⟩,n⟩ (rs.drop k) (rg.drop k))).2)]) [] ->
  co Cn tab tz 0 K ((ts.length+1)+d+1) yo (LR (k:Int) (((len rs):Nat):Int) M l now units aI aV aZ rs rg bE bY ts a5 a8 v aF t n b cB)
 |0,k,v,aF,t,n,ae,D=>by
  rw[bW (L:=yo),VS rfl rfl rfl rfl rfl rfl rfl rfl];rw[List.drop_of_length_le (by omega)]at D;refine ci (by simp only[len];omega) ?_;have dU:takeEnd b l ⟨rs,rg,⟨bE,bY,ts⟩,a5,a8⟩ now units (gU b l ⟨⟨v,aF,t⟩,n⟩ [] (rg.drop k))=if mV b l ⟨⟨v,aF,t⟩,n⟩ ⟨rs,rg,⟨bE,bY,ts⟩,a5,a8⟩ now units=0 then(⟨⟨v,aF,t⟩,bE⟩,0)else(l5,mV b l ⟨⟨v,aF,t⟩,n⟩ ⟨rs,rg,⟨bE,bY,ts⟩,a5,a8⟩ now units):=rfl
  rw[dU]at D;have bad:∀e:Int,e≠0->mV b l ⟨⟨v,aF,t⟩,n⟩ ⟨rs,rg,⟨bE,bY,ts⟩,a5,a8⟩ now units=e->K (.ao [.agg [A 0,af [],A 0,A 0],.one (A e)]) []:=fun e bv h=>by
   rw[if_neg (by rw[h];exact bv),h]at D;exact D
  have ru:mV b l ⟨⟨v,aF,t⟩,n⟩ ⟨rs,rg,⟨bE,bY,ts⟩,a5,a8⟩ now units=0->K (.ao [.agg [A v,af aF,A t,A bE],.one (A 0)]) []:=fun h=>by
   rw[if_pos h]at D;exact D
  clear D dU;refine bG (fun G=>bad _ G (if_neg G)) (fun bc=>?_);have dO:mV b l ⟨⟨v,aF,t⟩,n⟩ ⟨rs,rg,⟨bE,bY,ts⟩,a5,a8⟩ now units=_:=if_pos bc;refine bG (fun Y=>bad _ Y (dO.trans (if_neg Y))) (fun cq=>⟨bc,pg cq,?_⟩);have gu:=dO.trans (if_pos cq);obtain⟨cO,cL,eH,gy,n8,sS,_⟩:=Af bc;refine bG (fun g=>?_) (fun g=>bq (fun bf=>?_) (fun bf=>?_))
  ·have e:gP l ⟨v,aF,t⟩ a5 (ev (l8 bE bY ts) b+1)=(iI l ⟨v,aF,t⟩ a5 (ev (l8 bE bY ts) b+1)).2:=if_neg g;exact bad _ g ((gu.trans (if_neg (by rw[e];exact g))).trans e)
  ·have e:gP l ⟨v,aF,t⟩ a5 (ev (l8 bE bY ts) b+1)=9:=by unfold gP;rw[if_pos g,if_pos bf]
   exact bad _ (by decide) ((gu.trans (if_neg (by rw[e];decide))).trans e)
  have e:gP l ⟨v,aF,t⟩ a5 (ev (l8 bE bY ts) b+1)=0:=by unfold gP;rw[if_pos g,if_neg (by simp only;omega)]
  have ic:=gu.trans (if_pos e);simp only at ic;refine b3 (fun bj=>?_) (fun bj=>?_)
  ·rw[fY]at bj;exact bad _ (by decide) (ic.trans (if_pos bj))
  rw[eL]at bj;have m3:=ic.trans (if_neg (by omega));refine bq (fun bK=>bad _ (by decide) (m3.trans (if_pos bK))) (fun bK=>?_);have p5:=m3.trans (if_neg (by omega));refine bG (fun c4=>bad _ (by decide) (p5.trans (if_pos (.inl c4)))) (fun c4=>bG (fun dJ=>bad _ (by decide) (p5.trans (if_pos (.inr dJ)))) (fun dJ=>?_));have rW:=p5.trans (if_neg (by simp only[len]at c4 dJ;omega));exact TA b (pg cq) cq ts a8 sS (by simp only[len]at c4 dJ;omega) K M aI aV aZ rs rg bE bY a5 v aF t n cB ts.length 0 (by omega) (fun g=>ru (rW.trans (if_pos g))) (fun g=>bad 5 (by decide) (rW.trans (if_neg (by rw[show n6 b ts a8=false from g];simp))))
 |d+1,k,v,aF,t,n,ae,D=>by
  rw[show ts.length+1+(d+1)+1=(ts.length+1+d+1)+1 by omega,bW (L:=yo),VS rfl rfl rfl rfl rfl rfl rfl rfl,cM];rw[ee (l:=rs) (by omega) (z.H z.root),ee (l:=rg) (by omega) (z.H (z.list z.int))]at D;obtain⟨x,aG⟩:∃x,nth rs k (z.H z.root)=x:=⟨_,rfl⟩
  obtain⟨w,b8⟩:∃w,nth rg k (z.H (z.list z.int))=w:=⟨_,rfl⟩
  rw[aG,b8]at D |-;have hF:U ((k:Int)+1)=((k+1:Nat):Int):=di (by omega);rw[hF];have ex:(⟨x.version,x.keys,x.dV⟩:q0)=x:=rfl;rw[ex];refine cV (by simp only[len];omega) ⟨⟨by omega,by simp only[len];omega⟩,⟨by omega,by simp only[len];omega⟩,bG (fun h=>?_) (fun h=>?_)⟩
  ·rw[show gU b l ⟨⟨v,aF,t⟩,n⟩ (x::rs.drop (k+1)) (w::rg.drop (k+1))=(l5,(gK b l ⟨⟨v,aF,t⟩,n⟩ x w).2)from if_neg h]at D;have e:takeEnd b l ⟨rs,rg,⟨bE,bY,ts⟩,a5,a8⟩ now units (l5,(gK b l ⟨⟨v,aF,t⟩,n⟩ x w).2)=(l5,(gK b l ⟨⟨v,aF,t⟩,n⟩ x w).2):=if_neg h;rw[e]at D;exact D
  ·rw[show gU b l ⟨⟨v,aF,t⟩,n⟩ (x::rs.drop (k+1)) (w::rg.drop (k+1))=gU b l (gK b l ⟨⟨v,aF,t⟩,n⟩ x w).1 (rs.drop (k+1)) (rg.drop (k+1))from if_pos h]at D;exact T7 b l rs rg bE bY ts a5 a8 now units aw bt K M aI aV aZ cB d (k+1) _ _ _ _ (by omega) D
theorem akg:bo 121 P3:=b2 (Γ:=Cn) 0 ((((((((((bn.f M8).f M6).f X1).f Fm).f ajz).f Fl).f XI).f akf).f Nn).f ake) Tryz.func121 (by kernel_rfl) fun vs au=>by
 unfold P3;split;rotate_left;trivial;rename_i b l v aF t n rs rg bE bY ts a5 a8 now units;refine⟨by kernel_rfl,fun K D=>?_⟩;refine⟨ts.length+1+rs.length+1+1,?_⟩;obtain⟨v1,b9⟩:∃v1,v1=K (.ao [.agg [A (0:Int),af [],A (0:Int),A (0:Int)],.one (A 2)]) []:=⟨_,rfl⟩
 refine cf (fun rec=>(by subst b9;kernel_rfl:_=(
  J (!(ar (g5 ⟨⟨v,aF,t⟩,n⟩) 0))
  (K (.ao [.agg [A (0:Int),af [],A (0:Int),A (0:Int)],.one (A (g5 ⟨⟨v,aF,t⟩,n⟩))]) [])
  (J (aL 6 (len rs:Int))
  v1
  (J (!(ar (len rg:Int) (len rs:Int)))
  v1
  (rec yo (LR 0 (len rs:Int) 0 l now units 0 0 0 rs rg bE bY ts a5 a8 v aF t n b []))))))) ?_
 subst b9;unfold ha at D;simp only at D;refine bG (fun h=>?_) (fun h=>bq (fun G=>?_) (fun G=>bG (fun Y=>?_) (fun Y=>?_)))
 ·rw[if_neg h]at D;exact D
 ·rw[if_pos h,if_pos (.inl (by simp only[len]at G;omega))]at D;exact D
 ·rw[if_pos h,if_pos (.inr (by simp only[len]at Y;omega))]at D;exact D
 ·rw[if_pos h,if_neg (by simp only[len]at G Y;omega)]at D;exact T7 b l rs rg bE bY ts a5 a8 now units (by simp only[len]at G;omega) (by simp only[len]at Y;omega) K 0 0 0 0 [] rs.length 0 v aF t n (by omega) D

def Hm:a7
 |[.agg [.E (.list .int) ws,.E .int fu,.E .bool up,.E .int al,.E (.list .int) ah,.E .int ak,.E .int aj,.E (.list .bool) aa,.E (.list .bool) ab]],[]=>some (some (len ws*8<=140737488355328/\len ah*8<=140737488355328/\len aa<=140737488355328/\len ab<=140737488355328),.agg [af ws,A fu,ax up,A al,.own 0,A ak,A aj,.own 1,.own 2],[.arr .int ah,.arr .bool aa,.arr .bool ab])
 |_,_=>none

theorem Np:bo 14 Hm:=mW 0 (bn.f Ft) Tryz.func14 (by kernel_rfl) fun vs au=>by
 unfold Hm;split;rotate_left;trivial;rename_i ws fu up al ah ak aj aa ab;refine⟨by kernel_rfl,fun ad K D=>?_⟩;refine⟨1,?_⟩;refine k4 (fun rec=>(by kernel_rfl:_=(
  len ws*8<=140737488355328 /\
  (0+len ah)*8<=140737488355328 /\
  (0+len aa)*1<=140737488355328 /\
  (0+len ab)*1<=140737488355328 /\
  K (.agg [af ws,A fu,ax up,A al,.own 0,A ak,A aj,.own 1,.own 2]) [.arr z.int (cat [] ah),.arr z.bool (cat [] aa),.arr z.bool (cat [] ab)]))) ?_
 exact⟨ad.1,by omega,by omega,by omega,D⟩

def Io:a7
 |[.one (.E (.list .int) l)],[]=>some (some (eW l),.one (A (gw l)),[])
 |_,_=>none

theorem alc:bo 197 Io:=b2 0 (bn.f BX) Tryz.func197 (by kernel_rfl) fun vs au=>by
 unfold Io;split;rotate_left;trivial;rename_i l;refine⟨by kernel_rfl,fun ad K D=>?_⟩;refine⟨1,?_⟩;refine cf (fun rec=>(by kernel_rfl:_=(
  J (aL (len l:Int) 1)
  (K (.one (A 2)) [])
  (J (aL 4 (len l:Int))
  (K (.one (A 2)) [])
  (List.length l<=140737488355328 /\
  J (!(cC l))
  (K (.one (A 3)) [])
  (K (.one (A 0)) [])))))) ?_
 unfold gw at D;refine bq (fun h=>?_) (fun h=>bq (fun G=>?_) (fun G=>⟨ad,ew (fun Y=>?_) (fun Y=>?_)⟩))
 ·rw[if_neg (by simp only[len]at h;omega)]at D;exact D
 ·rw[if_neg (by simp only[len]at G;omega)]at D;exact D
 ·rw[if_pos (by simp only[len]at h G;omega),if_neg (by rw[Y];simp)]at D;exact D
 ·rw[if_pos (by simp only[len]at h G;omega),if_pos Y]at D;exact D

def H5:a7
 |[.one (.E .int at_),.one (.E (.list .int) l)],[]=>some (some (0<=at_/\at_<=1000/\len l<=1000),.one (.own 0),[.arr .change (cE at_ l)])
 |_,_=>none
def F3:Ctx:=[]
def yW:List cu:=[.inLoop [10,9,8,5,4,0] (Code.sub (bR Tryz.f198) [1,1,0,1,0,0]),.inBlock 0,.code (Code.sub (bR Tryz.f198) [1,1,1])]
def Mv(F ai:Int)(M:aK)(ag:Int)(an aE:List Change):bO:=⟨[(10,.one (A F)),(9,.one (A ai)),(8,.one (af M)),(5,.one (.own 0)),(4,.one (.own 1)),(0,.one (A ag))],[(0,.arr z.change an),(1,.arr z.change aE)],2⟩
theorem ah1(at_:Int)(l:aK)(rec:bV)(K:aU):js F3 tab Tryz.f198 0 K rec [.code (bR Tryz.f198)] (df [.one (A at_),.one (af l)] [])=(
 rec yW (Mv 0 (len l:Int) l at_ [] [])):=by kernel_rfl
theorem WA{F:Int}{an:List Change}{rec:bV}{K:aU}{ai M ag aE}{v0}(bX:v0=fun a b=>Mv a ai M ag b aE):js F3 tab Tryz.f198 0 K rec (cU yW) (v0 F an)=(
 J (aL F ai)
 (((0:Int)<=F/\F<(len M:Int)) /\
 (len an+len ((⟨U (ag+F),some (nth M (Int.toNat F) (z.H z.int))⟩:Change)::[]))*16<=140737488355328 /\
 rec yW (v0 (U (F+1)) (cat an ((⟨U (ag+F),some (nth M (Int.toNat F) (z.H z.int))⟩:Change)::[]))))
 (K (.one (.own 0)) [.arr z.change an])):=by subst_vars;kernel_rfl

theorem Up(at_:Int)(l:aK)(a2:0<=at_)(I:at_<=1000)(G:l.length<=1000)(K:aU)(D:K (.one (.own 0)) [.arr .change (cE at_ l)]):∀(d k:Nat),k+d=l.length ->
  h4 F3 tab Tryz.f198 0 K (d+1) yW (Mv (k:Int) (((len l):Nat):Int) l at_ (cE at_ (l.take k)) [])
 |0,k,ae=>by
  rw[jS (L:=yW),WA rfl];rw[List.take_of_length_le (by omega)];exact ci (by simp only[len];omega) D
 |d+1,k,ae=>by
  rw[jS (L:=yW),WA rfl];refine cV (by simp only[len];omega) ⟨⟨by omega,by simp only[len];omega⟩,?_,?_⟩
  ·simp only[len,mq,List.length_cons,List.length_nil,List.length_take];omega
  ·rw[cb (n:=at_+(k:Int)) (by omega) (by omega),di (by omega),cM];have:=Up at_ l a2 I G K D d (k+1) (by omega);rw[iz (by omega) (z.H z.int),Ps]at this;rw[show((l.take k).length:Int)=(k:Int)by simp;omega]at this;exact this
theorem Yt:bo 198 H5:=mW (Γ:=F3) 0 bn Tryz.func198 (by kernel_rfl) fun vs au=>by
 unfold H5;split;rotate_left;trivial;rename_i at_ l;refine⟨by kernel_rfl,fun ad K D=>?_⟩;refine⟨l.length+2,?_⟩;rw[qn,ah1 _ _ _ _];exact Up at_ l ad.1 ad.2.1 ad.2.2 K D l.length 0 (by omega)

def H4:a7
 |[.one (.E .int dL)],[]=>some (some (0<=dL/\dL<=10),.one (.own 0),[.arr .change (eN dL)])
 |_,_=>none
def F2:Ctx:=[]
def yV:List cu:=[.inLoop [5,3,2,0] (Code.sub (bR Tryz.f175) [1,1,0,1,0,0]),.inBlock 0,.code (Code.sub (bR Tryz.f175) [1,1,1])]
def Mu(F ai:Int)(M ag:List Change):bO:=⟨[(5,.one (A F)),(3,.one (.own 0)),(2,.one (.own 1)),(0,.one (A ai))],[(0,.arr z.change M),(1,.arr z.change ag)],2⟩
theorem ah0(dL:Int)(rec:bV)(K:aU):js F2 tab Tryz.f175 0 K rec [.code (bR Tryz.f175)] (df [.one (A dL)] [])=(
 rec yV (Mu 0 dL [] [])):=by kernel_rfl
theorem Wz{F:Int}{M:List Change}{rec:bV}{K:aU}{ai ag}{v0}(bX:v0=fun a b=>Mu a ai b ag):js F2 tab Tryz.f175 0 K rec (cU yV) (v0 F M)=(
 J (aL F 32)
 ((len M+len ((⟨U (U ((32:Int)*ai)+F),none⟩:Change)::[]))*16<=140737488355328 /\
 rec yV (v0 (U (F+1)) (cat M ((⟨U (U ((32:Int)*ai)+F),none⟩:Change)::[]))))
 (K (.one (.own 0)) [.arr z.change M])):=by subst_vars;kernel_rfl

theorem alV(a:Int):∀n:Nat,hn a (n+1)=hn a n++[⟨a+n,none⟩]:=by
 intro n
 induction n generalizing a with
 |zero=>simp[hn]
 |succ n de =>
  rw[hn,de (a+1)];simp only[hn,List.cons_append];rw[show a+1+(n:Int)=a+((n+1:Nat):Int)by omega]
theorem Uo(dL:Int)(a2:0<=dL)(I:dL<=10)(K:aU)(D:K (.one (.own 0)) [.arr .change (eN dL)]):∀(d k:Nat),k+d=32 ->
  h4 F2 tab Tryz.f175 0 K (d+1) yV (Mu (k:Int) dL (hn (32*dL) k) [])
 |0,k,ae=>by
  rw[jS (L:=yV),Wz rfl];have:k=32:=by omega
  subst this;exact ci (by omega) D
 |d+1,k,ae=>by
  rw[jS (L:=yV),Wz rfl];refine cV (by omega) ⟨?_,?_⟩
  ·simp only[len,Cc,List.length_cons,List.length_nil];omega
  ·rw[cb (n:=32*dL) (by omega) (by omega),cb (n:=32*dL+(k:Int)) (by omega) (by omega),di (by omega)];have:=Uo dL a2 I K D d (k+1) (by omega);rw[alV]at this;exact this
theorem Ys:bo 175 H4:=mW (Γ:=F2) 0 bn Tryz.func175 (by kernel_rfl) fun vs au=>by
 unfold H4;split;rotate_left;trivial;rename_i dL;refine⟨by kernel_rfl,fun ad K D=>?_⟩;refine⟨34,?_⟩;rw[qn,ah0 _ _ _];exact Uo dL ad.1 ad.2 K D 32 0 rfl

def Il:a7
 |[.one (.E (.list (.list .change)) xs)],[]=>some (some (xs.length<=10/\(ir xs).length<=1000),.one (.own 0),[.arr .change (ir xs)])
 |_,_=>none
def zD:Ctx:=[(213,Ik)]
def y0:List cu:=[.inLoop [11,10,9,3,2,0] (cy rn [1,1,0,1,0,0]),.inBlock 0,.code (cy rn [1,1,1])]
def Mz(F ai:Int)(M:List (List Change))(ag:Int)(an:List (List Change))(aE:List Change):bO:=⟨[(11,.one (A F)),(10,.one (A ai)),(9,.one (.E (z.list (z.list z.change)) M)),(3,.one (A ag)),(2,.one (.own 0)),(0,.one (.E (z.list (z.list z.change)) an))],[(0,.arr z.change aE)],1⟩
def y1:List cu:=[.inLoop [27,26,25,6,2] (cy rn [1,1,1,1,0,1,0,0]),.inBlock 2,.code (cy rn [1,1,1,1,1])]
def MA(F ai:Int)(M:List (List Change))(ag an:List Change):bO:=⟨[(27,.one (A F)),(26,.one (A ai)),(25,.one (.E (z.list (z.list z.change)) M)),(6,.one (.own 0)),(2,.one (.own 1))],[(0,.arr z.change ag),(1,.arr z.change an)],2⟩
theorem ah6(xs:List (List Change))(rec:bV)(K:aU):js zD tab rn 0 K rec [.code (bR rn)] (df [.one (.E (z.list (z.list z.change)) xs)] [])=(
 rec y0 (Mz 0 (len xs:Int) xs 0 xs [])):=by kernel_rfl
theorem WG{F ag:Int}{rec:bV}{K:aU}{ai M an aE}{v0}(bX:v0=fun a b=>Mz a ai M b an aE):js zD tab rn 0 K rec (cU y0) (v0 F ag)=(
 J (aL F ai)
 (((0:Int)<=F/\F<(len M:Int)) /\
 J (aL (U (ag+(((len (nth M (Int.toNat F) (z.H (z.list z.change)))):Nat):Int))) 0)
 (False)
 (rec y0 (v0 (U (F+1)) (U (ag+(((len (nth M (Int.toNat F) (z.H (z.list z.change)))):Nat):Int))))))
 (((0:Int)<=ag/\ag<=100000) /\
 rec y1 (MA 0 (len an:Int) an [] aE))):=by subst_vars;kernel_rfl
theorem WH{F:Int}{ag:List Change}{rec:bV}{K:aU}{ai M an}{v0}(bX:v0=fun a b=>MA a ai M b an):js zD tab rn 0 K rec (cU y1) (v0 F ag)=(
 J (aL F ai)
 (((0:Int)<=F/\F<(len M:Int)) /\
 (len ag+len (nth M (Int.toNat F) (z.H (z.list z.change))))*16<=140737488355328 /\
 rec y1 (v0 (U (F+1)) (cat ag (nth M (Int.toNat F) (z.H (z.list z.change))))))
 (K (.one (.own 0)) [.arr z.change ag])):=by subst_vars;kernel_rfl

theorem S2{xs:List (List Change)}{k:Nat}(h:k<xs.length):ir (xs.take (k+1))=ir (xs.take k)++nth xs k []:=by
 rw[iz h []];have:∀(a:List (List Change)) (x:List Change),ir (a++[x])=ir a++x:=fun a x=>by
  induction a with
  |nil=>simp[ir]
  |cons y a de=>simp[ir,de]
 exact this _ _
theorem S1(xs:List (List Change))(k:Nat):(ir (xs.take k)).length<=(ir xs).length:=by
 induction xs generalizing k with
 |nil=>simp
 |cons x xs de =>
  cases k with
  |zero=>simp[ir]
  |succ k=>simp only[List.take_succ_cons,ir,List.length_append];have:=de k;omega
theorem Tu(xs:List (List Change))(I:xs.length<=10)(G:(ir xs).length<=1000)(K:aU)(D:K (.one (.own 0)) [.arr .change (ir xs)])(y:List Change):∀(d k:Nat),k+d=xs.length ->
  h4 zD tab rn 0 K (d+1) y1 (MA (k:Int) (((len xs):Nat):Int) xs (ir (xs.take k)) y)
 |0,k,ae=>by
  rw[jS (L:=y1),WH rfl,List.take_of_length_le (by omega)];exact ci (by simp only[len];omega) D
 |d+1,k,ae=>by
  rw[jS (L:=y1),WH rfl,cM];have aT:=S2 (xs:=xs) (k:=k) (by omega);have az:=S1 xs (k+1);have e:nth xs k (z.H (z.list z.change))=nth xs k []:=rfl;rw[e];rw[aT,List.length_append]at az;refine cV (by simp only[len];omega) ⟨⟨by omega,by simp only[len];omega⟩,by simp only[len];omega,?_⟩;rw[di (by omega),show cat (ir (xs.take k)) (nth xs k [])=ir (xs.take (k+1))from aT.symm];exact Tu xs I G K D y d (k+1) (by omega)
theorem Tp(xs:List (List Change))(I:xs.length<=10)(G:(ir xs).length<=1000)(K:aU)(D:K (.one (.own 0)) [.arr .change (ir xs)]):∀(d k:Nat),k+d=xs.length ->
  h4 zD tab rn 0 K (d+1+(xs.length+1)) y0 (Mz (k:Int) (((len xs):Nat):Int) xs (((ir (xs.take k)).length:Nat):Int) xs [])
 |0,k,ae=>by
  rw[show 0+1+(xs.length+1)=(xs.length+1)+1 by omega,jS (L:=y0),WG rfl,List.take_of_length_le (by omega)];exact ci (by simp only[len];omega) ⟨⟨by omega,by omega⟩,Tu xs I G K D [] xs.length 0 (by omega)⟩
 |d+1,k,ae=>by
  rw[show d+1+1+(xs.length+1)=(d+1+(xs.length+1))+1 by omega,jS (L:=y0),WG rfl,cM];have aT:=S2 (xs:=xs) (k:=k) (by omega);have az:=S1 xs (k+1);have e:nth xs k (z.H (z.list z.change))=nth xs k []:=rfl;rw[e];have sw:=congrArg List.length aT;rw[List.length_append]at sw;rw[di (by omega),cb (n:=(((ir (xs.take k)).length:Nat):Int)+_) (by simp only[len];omega) (by simp only[len];omega)];refine cV (by simp only[len];omega) ⟨⟨by omega,by simp only[len];omega⟩,ci (by simp only[len];omega) ?_⟩;rw[show(((ir (xs.take k)).length:Nat):Int)+(((len (nth xs k [])):Nat):Int)=(((ir (xs.take (k+1))).length:Nat):Int)by simp only[len];omega];exact Tp xs I G K D d (k+1) (by omega)
theorem ala:bo 199 Il:=mW (Γ:=zD) 0 (bn.f ⟨⟨_,Tryz.func213,(by kernel_rfl)⟩,ak9⟩) Tryz.func199 (by kernel_rfl) fun vs au=>by
 unfold Il;split;rotate_left;trivial;rename_i xs;refine⟨by kernel_rfl,fun ad K D=>?_⟩;refine⟨xs.length+1+(xs.length+1)+1,?_⟩;rw[qn,ah6 _ _ _];exact Tp xs ad.1 ad.2 K D xs.length 0 (by omega)

def H3:a7
 |[.agg [.E (.list .int) ws,.E .int fu]],[]=>some (some (len ws*8<=140737488355328),.agg [.own 0,A fu],[.arr .int ws])
 |_,_=>none

theorem akX:bo 15 H3:=mW 0 bn Tryz.func15 (by kernel_rfl) fun vs au=>by
 unfold H3;split;rotate_left;trivial;rename_i ws fu;refine⟨by kernel_rfl,fun ad K D=>?_⟩;refine⟨1,?_⟩;refine k4 (fun rec=>(by kernel_rfl:_=(
  (0+len ws)*8<=140737488355328 /\
  K (.agg [.own 0,A fu]) [.arr z.int (cat [] ws)]))) ?_
 exact⟨by omega,D⟩

def H6:a7
 |[.agg [.E (.list .int) ws,.E .int fu],.one (.E (.list .change) cs)],[]=>some (some (len ws<=192/\-1<=fu/\fu<=100000/\len cs<=1000/\lF ws.length cs=true),.ao [.agg [af (gh (cc ⟨ws,fu⟩ cs)).1.words,A (gh (cc ⟨ws,fu⟩ cs)).1.fuel],.one (A (gh (cc ⟨ws,fu⟩ cs)).2)],[])
 |_,_=>none
def zC:Ctx:=[(15,H3)]
theorem af0:fr Tryz.prog tab zC:=(bn.f akX)
def rS:List cu:=[.inLoop [31,30,29,6,5,4,2] (cy tA [1,1,1,1,0,1,0,0]),.inBlock 0,.code (cy tA [1,1,1,1,1])]
def yX(F ai:Int)(M:List Change)(ag an aE aI:Int)(aV aZ:aK):bO:=⟨[(31,.one (A F)),(30,.one (A ai)),(29,.one (.E (z.list z.change) M)),(6,.one (A ag)),(5,.one (A an)),(4,.one (.ptr 0 0)),(2,.one (.ptr 1 0))],[(0,.box [.own 2,A aE]),(1,.box [.own 3,A aI]),(2,.arr z.int aV),(3,.arr z.int aZ)],4⟩
theorem ah2(ws:aK)(fu:Int)(cs:List Change)(rec:bV)(K:aU):b5 zC tab tA 0 K rec [.code (bR tA)] (df [.agg [af ws,A fu],.one (.E (z.list z.change) cs)] [])=(
 len ws*8<=140737488355328 /\
 J (dh 0 fu)
 (J (aL fu (len cs:Int))
 (((0:Int)<=(0:Int)/\(0:Int)<=fu/\fu<=(len cs:Int)) /\
 rec rS (yX 0 (len (aW cs (Int.toNat 0) (Int.toNat fu)):Int) (aW cs (Int.toNat 0) (Int.toNat fu)) 7 0 0 (U (fu-(len (aW cs (Int.toNat 0) (Int.toNat fu)):Int))) [] ws))
 (rec rS (yX 0 (len cs:Int) cs 0 0 0 (U (fu-(len cs:Int))) [] ws)))
 (rec rS (yX 0 (len cs:Int) cs 0 0 0 fu [] ws))):=by kernel_rfl
theorem Mw{F:Int}{aZ:aK}{rec:bV}{K:aU}{ai M ag an aE aI aV}{v0}(bX:v0=fun a b=>yX a ai M ag an aE aI aV b):b5 zC tab tA 0 K rec (cU rS) (v0 F aZ)=(
 J (aL F ai)
 (((0:Int)<=F/\F<(len M:Int)) /\
 ((0:Int)<=(nth M (Int.toNat F) (z.H z.change)).at_/\(nth M (Int.toNat F) (z.H z.change)).at_<(len aZ:Int)) /\
 Int.toNat (nth M (Int.toNat F) (z.H z.change)).at_<len aZ /\
 ((0:Int)<=(nth M (Int.toNat F) (z.H z.change)).at_/\(nth M (Int.toNat F) (z.H z.change)).at_<(len aZ:Int)) /\
 Int.toNat (nth M (Int.toNat F) (z.H z.change)).at_<len aZ /\
 rec rS (v0 (U (F+1)) (setAt aZ (Int.toNat (nth M (Int.toNat F) (z.H z.change)).at_) (pB (nth M (Int.toNat F) (z.H z.change)).word (nth aZ (Int.toNat (nth M (Int.toNat F) (z.H z.change)).at_) (z.H z.int))))))
 (K (.ao [.agg [af aZ,A aI],.one (A ag)]) [])):=by subst_vars;kernel_rfl

theorem ai1(ad:len ws<=192/\-1<=fu/\fu<=100000/\len cs<=1000/\lF ws.length cs=true)(K:aU)(D:K (.ao [.agg [af (gh (cc ⟨ws,fu⟩ cs)).1.words,A (gh (cc ⟨ws,fu⟩ cs)).1.fuel],.one (A (gh (cc ⟨ws,fu⟩ cs)).2)]) []):ku zC tA 0 K [.agg [af ws,A fu],.one (.E (.list .change) cs)] []:=by
 obtain⟨I,G,Y,aS,bj⟩:=ad;refine⟨cs.length+2,?_⟩;rw[eB,ah2 _ _ _ _ _];simp only[len]at I aS |-;have sub:∀k,lF ws.length (cs.take k)=true:=fun k=>List.all_eq_true.2 fun c aA=>List.all_eq_true.1 bj c (List.mem_of_mem_take aA)
 have more:∀(eO:List Change) (e f:Int),eO.length<=cs.length->lF ws.length eO=true->K (.ao [.agg [af (dM ws eO),A f],.one (A e)]) [] ->
   co zC tab tA 0 K (cs.length+1) rS (yX 0 (((List.length eO):Nat):Int) eO e 0 0 f [] ws):=fun eO e f az hi ae=>by
  have key:∀(d k:Nat) (ws:aK),k+d ≥ eO.length->lF ws.length eO=true->K (.ao [.agg [af (dM ws (eO.drop k)),A f],.one (A e)]) []->k<=eO.length ->
    co zC tab tA 0 K (d+1) rS (yX (k:Int) (((List.length eO):Nat):Int) eO e 0 0 f [] ws):=by
   intro d
   induction d with
   |zero =>
    intro k ws ae hi D hle;rw[bW (L:=rS),Mw rfl];rw[List.drop_of_length_le (by omega)]at D;exact ci (by omega) D
   |succ d de =>
    intro k ws ae hi D hle
    by_cases c:k=eO.length
    ·subst c;rw[bW (L:=rS),Mw rfl];rw[List.drop_of_length_le (Nat.le_refl _)]at D;exact ci (by omega) D
    ·rw[bW (L:=rS),Mw rfl];rw[cM];have aB:nth eO k (z.H z.change)∈eO:=by
      have:k<eO.length:=by omega
      simp[nth,List.getD_eq_getElem?_getD,this]
     have jm:=List.all_eq_true.1 hi _ aB;simp only[Bool.and_eq_true,decide_eq_true_eq]at jm;refine cV (by omega) ⟨⟨by omega,by simp only[len];omega⟩,⟨jm.1,jm.2⟩,by simp only[len];omega,⟨jm.1,jm.2⟩,by simp only[len];omega,?_⟩;rw[di (by omega)];refine de (k+1) _ (by omega) (by simpa[setAt]using hi) ?_ (by omega);rw[ee (by omega) (z.H z.change),w3]at D;exact D
  exact key cs.length 0 ws (by omega) hi ae (by omega)
 unfold gh cc at D;refine⟨by omega,b3 (fun h=>?_) (fun h=>?_)⟩
 ·rw[fY]at h;simp only[if_neg (show ¬fu<0 by omega)]at D;refine bq (fun bK=>⟨⟨by omega,h,by omega⟩,?_⟩) (fun bK=>?_)
  ·rw[if_neg (by omega)]at D;have es:aW cs (Int.toNat 0) (Int.toNat fu)=cs.take fu.toNat:=Fj _ _;have nF:(cs.take fu.toNat).length=fu.toNat:=by simp;omega
   rw[es,nF,cb (by omega) (by omega),show fu-((fu.toNat:Nat):Int)=0 by omega];have:=more (cs.take fu.toNat) 7 0 (by simp;omega) (sub _) D;rw[nF]at this;exact this
  ·rw[if_pos (by omega)]at D;rw[cb (by omega) (by omega)];exact more cs 0 _ (Nat.le_refl _) bj D
 ·rw[eL]at h;rw[if_pos h]at D;exact more cs 0 fu (Nat.le_refl _) bj D
theorem Nt:bo 174 H6:=hj af0 Tryz.func174 (by kernel_rfl) (by
 intro vs au p v du h ad;unfold H6 at h;split at h
 ·cases h;exact⟨by kernel_rfl,rfl,.inl (ai1 _ _ _ ad.1 _ ⟨rfl,rfl⟩)⟩
 ·cases h)

def Ip:a7
 |[.agg [.E (.list .int) ws,.E .int fu],.one (.E (.list .int) r),.one (.E (.list (.list .int)) b4)],[]=>some (some (dC ⟨ws,fu⟩=0/\eW r/\len b4*24<=140737488351232/\hB b4=true),.ao [.agg [af (fE ⟨ws,fu⟩ r b4).1.words,A (fE ⟨ws,fu⟩ r b4).1.fuel],.one (A (fE ⟨ws,fu⟩ r b4).2)],[])
 |_,_=>none
def Cr:Ctx:=[(197,Io),(162,C9),(123,(Cb Ab)),(198,H5),(175,H4),(199,Il),(174,H6)]
def sT:List cu:=[.inLoop [10,9,7,6,3,1,2] (Code.sub (bR Tryz.f172) [1,1,1,0,1,0,0]),.inBlock 0,.code (Code.sub (bR Tryz.f172) [1,1,1,1])]
def BG(F ai:Int)(M:aK)(ag:cj)(an:aK)(aE:Int)(aI:aK)(aV:Int)(aZ:aK):bO:=⟨[(10,.one (A F)),(9,.one (.own 0)),(7,.one (A ai)),(6,.one (.ptr 1 0)),(3,.one (.ptr 2 0)),(1,.one (af M)),(2,.one (ct ag))],[(0,.arr z.int an),(1,.box [.own 3,A aE]),(2,.box [af aI,A aV]),(3,.arr z.int aZ)],4⟩
theorem WK{F:Int}{an:aK}{rec:bV}{K:aU}{ai M ag aE aI aV aZ}{uI v0 v1 aC v3 v4 cn dR dy cR v9 v10 v11 hb hc o5 ln s1 qW zu v20 NX}(aem:uI=fun a b=>BG a ai M ag b aE aI aV aZ)(bX:v0=gw (nth ag (Int.toNat F) (z.H (z.list z.int))))(b9:v1=gw M)(cT:aC=cC aI)(ed:v3=eg aI)(e5:v4=ib aI v3)(hx:cn=oV v3 v4.snd)(kG:dR=cE (U (cn+1)) M)(iL:dy=cE cn (U ((42240:Int)+(len M:Int))::[]))(kH:cR=lF (List.length aI) (cat dR dy))(jY:v9=cc (⟨aI,aV⟩:cp) (cat dR dy))(nf:v10=ko v9.snd)(oN:v11=eZ aI)(xG:hb=eN (U ((1:Int)-((v3:Nat):Int))))(sH:hc=cE (U (U ((32:Int)*U ((1:Int)-((v3:Nat):Int)))+1)) an)(Ss:o5=cE (U ((32:Int)*U ((1:Int)-((v3:Nat):Int)))) (U (v11+1)::[]))(St:ln=ir (hb::hc::o5::[]))(Su:s1=lF (List.length aI) ln)(aek:qW=cc (⟨aI,aV⟩:cp) ln)(ael:zu=ko qW.snd)(Ec:v20=J (ar v11 60000)
 (K (.ao [.agg [af [],A (0:Int)],.one (A 8)]) [])
 (((0:Int)<=U ((1:Int)-((v3:Nat):Int))/\U ((1:Int)-((v3:Nat):Int))<=10) /\
 ((0:Int)<=U (U ((32:Int)*U ((1:Int)-((v3:Nat):Int)))+1)/\U (U ((32:Int)*U ((1:Int)-((v3:Nat):Int)))+1)<=1000/\len an<=1000) /\
 ((0:Int)<=U ((32:Int)*U ((1:Int)-((v3:Nat):Int)))/\U ((32:Int)*U ((1:Int)-((v3:Nat):Int)))<=1000/\len (U (v11+1)::[])<=1000) /\
 (List.length (hb::hc::o5::[])<=10/\List.length ln<=1000) /\
 (len aI<=192/\(-1)<=aV/\aV<=100000/\len ln<=1000/\s1=true) /\
 K (.ao [.agg [af qW.fst.words,A qW.fst.fuel],.one (A zu)]) [])) (anr:NX=K (.ao [.agg [af [],A (0:Int)],.one (A 8)]) []):b5 Cr tab Tryz.f172 0 K rec (cU sT) (uI F an)=(
 J (dh F (len ag:Int))
 (J (aL F (len ag:Int))
 (((0:Int)<=F/\F<(len ag:Int)) /\
 List.length (nth ag (Int.toNat F) (z.H (z.list z.int)))<=140737488355328 /\
 J (!(ar v0 0))
 (K (.ao [.agg [af [],A (0:Int)],.one (A v0)]) [])
 ((len an+len (U ((42240:Int)+(((len (nth ag (Int.toNat F) (z.H (z.list z.int)))):Nat):Int))::[]))*8<=140737488355328 /\
 (len (cat an (U ((42240:Int)+(((len (nth ag (Int.toNat F) (z.H (z.list z.int)))):Nat):Int))::[]))+len (nth ag (Int.toNat F) (z.H (z.list z.int))))*8<=140737488355328 /\
 J (aL 31 (((len (cat (cat an (U ((42240:Int)+(((len (nth ag (Int.toNat F) (z.H (z.list z.int)))):Nat):Int))::[])) (nth ag (Int.toNat F) (z.H (z.list z.int))))):Nat):Int))
 NX
 (rec sT (uI (U (F+1)) (cat (cat an (U ((42240:Int)+(((len (nth ag (Int.toNat F) (z.H (z.list z.int)))):Nat):Int))::[])) (nth ag (Int.toNat F) (z.H (z.list z.int))))))))
 (List.length M<=140737488355328 /\
 J (!(ar v1 0))
 (K (.ao [.agg [af [],A (0:Int)],.one (A v1)]) [])
 ((len an+len (U ((42240:Int)+(len M:Int))::[]))*8<=140737488355328 /\
 (len (cat an (U ((42240:Int)+(len M:Int))::[]))+len M)*8<=140737488355328 /\
 J (aL 31 (((len (cat (cat an (U ((42240:Int)+(len M:Int))::[])) M)):Nat):Int))
 NX
 (rec sT (uI (U (F+1)) (cat (cat an (U ((42240:Int)+(len M:Int))::[])) M))))))
 (64<=len aI /\
 (64<=len aI/\len aI<=192/\aC=true) /\
 J (dh 0 cn)
 (J (dh (U (U (cn+1)+(len M:Int))) (U (U ((32:Int)*((v3:Nat):Int))+32)))
 (((0:Int)<=U (cn+1)/\U (cn+1)<=1000/\len M<=1000) /\
 ((0:Int)<=cn/\cn<=1000/\len (U ((42240:Int)+(len M:Int))::[])<=1000) /\
 (len dR+len dy)*16<=140737488355328 /\
 (len aI<=192/\(-1)<=aV/\aV<=100000/\len (cat dR dy)<=1000/\cR=true) /\
 K (.ao [.agg [af v9.fst.words,A v9.fst.fuel],.one (A v10)]) [])
 v20)
 v20)):=by subst_vars;kernel_rfl

theorem afo(b4:cj)(r:aK)(k:Nat)(d:aK)(h:k<=b4.length):nth (b4++[r]) k d=if k<b4.length then nth b4 k d else r:=by
 unfold nth;simp only[List.getD_eq_getElem?_getD]
 by_cases c:k<b4.length
 ·rw[if_pos c,List.getElem?_append_left c]
 ·have:k=b4.length:=by omega
  subst this;rw[if_neg c];simp
theorem Uv(ws r:aK)(fu:Int)(b4:cj)(az:b4.length<=5864062014806)(av:hB b4=true)(aw:r.length<=140737488355328)(K:aU)
  (tJ:∀e,e≠0->kC 0 (b4++[r])=e->K (.ao [.agg [af [],A 0],.one (A e)]) [])
  (qu:∀gz,kC 0 (b4++[r])=0->(dx (b4++[r])).length<=31->co Cr tab Tryz.f172 0 K (gz+1) sT (BG (((b4.length+1:Nat):Int)) 0 r b4 (dx (b4++[r])) 0 ws fu [])) :
  ∀(d k:Nat),b4.length+1<=k+d->k<=b4.length+1->(dx ((b4++[r]).take k)).length<=31->kC 0 (b4++[r])=kC (dx ((b4++[r]).take k)).length ((b4++[r]).drop k) ->
  co Cr tab Tryz.f172 0 K (d+1) sT (BG (k:Int) 0 r b4 (dx ((b4++[r]).take k)) 0 ws fu [])
 |0,k,ae,jW,bl,bt=>by
  have:k=b4.length+1:=by omega
  subst this;rw[List.take_of_length_le (by simp)]at bl bt |-;rw[List.drop_of_length_le (by simp)]at bt;exact qu 0 bt bl
 |d+1,k,ae,jW,bl,bt=>by
  by_cases c:k=b4.length+1
  ·subst c;rw[List.take_of_length_le (by simp)]at bl bt |-;rw[List.drop_of_length_le (by simp)]at bt;exact qu (d+1) bt bl
  have hlen:(b4++[r]).length=b4.length+1:=by simp
  have bm:=iz (l:=b4++[r]) (k:=k) (by omega) (z.H (.list .int));rw[ee (by omega) (z.H (.list .int))]at bt;have aq:=afo b4 r k (z.H (.list .int)) (by omega);obtain⟨x,aG⟩:∃x,nth (b4++[r]) k (z.H (.list .int))=x:=⟨_,rfl⟩
  rw[aG]at bm bt aq;simp only[kC]at bt;have hF:U ((k:Int)+1)=((k+1:Nat):Int):=di (by omega)
  -- one round, whichever record it is
  have body:((gw x≠0->K (.ao [.agg [af [],A 0],.one (A (gw x))]) []))/\(gw x=0 ->
    ((((len (dx ((b4++[r]).take k)))+(len ((U ((42240:Int)+(((len x):Nat):Int)))::[])))*8)<=140737488355328) /\
    ((((len (cat (dx ((b4++[r]).take k)) ((U ((42240:Int)+(((len x):Nat):Int)))::[])))+(len x))*8)<=140737488355328) /\
    (J (aL (31:Int) (((len (cat (cat (dx ((b4++[r]).take k)) ((U ((42240:Int)+(((len x):Nat):Int)))::[])) x)):Nat):Int))
      (K (.ao [.agg [af [],A (0:Int)],.one (A (8:Int))]) [])
      (co Cr tab Tryz.f172 0 K (d+1) sT (BG (U ((k:Int)+(1:Int))) 0 r b4 (cat (cat (dx ((b4++[r]).take k)) ((U ((42240:Int)+(((len x):Nat):Int)))::[])) x) 0 ws fu [])))):=by
   refine⟨fun I=>?_,fun I=>?_⟩
   ·rw[if_neg I]at bt;exact tJ _ I bt
   ·rw[if_pos I]at bt;obtain⟨gm,hH,hW⟩:=qg I;have Am:U (42240+(((len x):Nat):Int))=42240+(x.length:Int):=cb (by simp only[len];omega) (by simp only[len];omega);rw[Am,hF];have e:cat (cat (dx ((b4++[r]).take k)) [42240+(x.length:Int)]) x=dx ((b4++[r]).take (k+1)):=by rw[bm,Cy];simp[cat,mU]
    have nF:(dx ((b4++[r]).take (k+1))).length=(dx ((b4++[r]).take k)).length+1+x.length:=by rw[bm,Cy,List.length_append,zb];omega
    rw[e];refine⟨by simp only[len,List.length_cons,List.length_nil];omega,by simp only[len,cat,List.length_append,List.length_cons,List.length_nil];omega,bq (fun G=>?_) (fun G=>?_)⟩
    ·simp only[len]at G;rw[if_neg (by omega)]at bt;exact tJ 8 (by decide) bt
    ·simp only[len]at G;rw[if_pos (by omega)]at bt;exact Uv ws r fu b4 az av aw K tJ qu d (k+1) (by omega) (by omega) (by omega) (by rw[bt,nF])
  rw[bW (L:=sT),WK rfl rfl rfl rfl rfl rfl rfl rfl rfl rfl rfl rfl rfl rfl rfl rfl rfl rfl rfl rfl rfl rfl,cM];refine gk (fY.2 (by simp only[len];omega)) (bq (fun a2=>?_) (fun a2=>?_))
  ·simp only[len]at a2;rw[if_pos (by omega)]at aq;have aB:nth b4 k (z.H (.list .int))∈b4:=by
    have:k<b4.length:=by omega
    simp[nth,List.getD_eq_getElem?_getD,this]
   have oK:=List.all_eq_true.1 av _ aB;simp only[decide_eq_true_eq]at oK;rw[<- aq]at oK |-;exact⟨⟨by omega,by simp only[len];omega⟩,oK,bG body.1 body.2⟩
  ·simp only[len]at a2;rw[if_neg (by omega)]at aq;rw[<- aq]at aw body tJ qu |-;exact⟨aw,bG body.1 body.2⟩
theorem YB:bo 172 Ip:=b2 (Γ:=Cr) 0 (((((((bn.f Nt).f ala).f Ys).f Yt).f (kV.zx NA)).f Ny).f alc) Tryz.func172 (by kernel_rfl) fun vs au=>by
 unfold Ip;split;rotate_left;trivial;rename_i ws fu r b4;refine⟨by kernel_rfl,fun ad K D=>?_⟩;obtain⟨aA,aw,xC,jW⟩:=ad;have ang:b4.length*24<=140737488351232:=xC;unfold eW at aw;refine⟨b4.length+1+1+1,?_⟩;refine cf (fun rec=>(by kernel_rfl:_=(
  List.length r<=140737488355328 /\
  J (!(ar (gw r) 0))
  (K (.ao [.agg [af [],A (0:Int)],.one (A (gw r))]) [])
  (rec sT (BG 0 0 r b4 [] 0 ws fu []))))) ?_
 unfold fE kv at D;rw[if_pos aA]at D;refine⟨aw,bG (fun G=>?_) (fun G=>?_)⟩
 ·rw[if_neg G,if_neg G]at D;exact D
 rw[if_pos G]at D;obtain⟨bL,b0,dm,e3⟩:=ow aA;obtain⟨bp,bc,cq,dq⟩:=jx bL;obtain⟨hE,gv⟩:=rQ bp;simp only at b0 dm e3 bc cq dq hE gv;obtain⟨gm,hH,hW⟩:=qg G;have dU:dx ((b4++[r]).take 0)=[]:=by simp[dx]
 have l0:(dx ((b4++[r]).take 0)).length=0:=by rw[dU];rfl
 refine Uv ws r fu b4 (by omega) jW aw K (fun e bv bt=>?_) (fun gz bt lT=>?_) (b4.length+1) 0 (by omega) (by omega) (by omega) (by rw[l0,List.drop_zero])
 ·rw[bt,if_neg bv]at D;exact D
 obtain⟨rs,pI⟩:∃rs,b4++[r]=rs:=⟨_,rfl⟩
 simp only[pI]at bt lT D |-;rw[bt,if_pos rfl]at D;rw[bW (L:=sT),WK rfl rfl rfl rfl rfl rfl rfl rfl rfl rfl rfl rfl rfl rfl rfl rfl rfl rfl rfl rfl rfl rfl];unfold qe at D;simp only[pI]at D;have qx:=ub ws;have JS:=xt dq (eg ws);have xy:eZ ws=eU ws (eg ws):=rfl;obtain⟨s,av⟩:∃s,eg ws=s:=⟨_,rfl⟩
 rw[av]at D qx |-;obtain⟨g,JR⟩:∃g,eZ ws=g:=⟨_,rfl⟩
 rw[JR]at D xy dm e3 |-;have Am:U (42240+(((len r):Nat):Int))=42240+(r.length:Int):=cb (by simp only[len];omega) (by simp only[len];omega);rw[Am,cb (n:=32*(s:Int)) (by omega) (by omega),cb (n:=32*(s:Int)+32) (by omega) (by omega),cb (n:=1-(s:Int)) (by omega) (by omega),cb (n:=32*(1-(s:Int))) (by omega) (by omega),cb (n:=32*(1-(s:Int))+1) (by omega) (by omega),cb (n:=g+1) (by omega) (by omega)];have aY:1-(s:Int)=((1-s:Nat):Int):=by omega
 rw[aY];have aaS:ir [eN ((1-s:Nat):Int),cE (32*((1-s:Nat):Int)+1) (dx rs),cE (32*((1-s:Nat):Int)) [g+1]]=hl (1-s) rs (g+1):=by simp[ir,hl]
 rw[aaS];have anz:(hl (1-s) rs (g+1)).length<=64:=by
  unfold hl eN;rw[List.length_append,List.length_append,Cc,mq,mq,List.length_singleton];omega
 have aeE:lF ws.length (hl (1-s) rs (g+1))=true:=by
  have dI:=FP ws.length 32 (32*((1-s:Nat):Int)) (by omega) (by omega);have eD:=w7 ws.length (dx rs) (32*((1-s:Nat):Int)+1) (by omega) (by omega);have a3:=w7 ws.length [g+1] (32*((1-s:Nat):Int)) (by omega) (by simp only[List.length_cons,List.length_nil];omega);unfold lF hl eN at *;rw[List.all_append,List.all_append,dI,eD,a3];rfl
 refine e7 (eL.2 (by simp only[len];omega)) ⟨b0,⟨b0,gv,dq⟩,?_⟩;have there:=fun(D:K (.ao [.agg [af (gh (cc ⟨ws,fu⟩ (hl (1-s) rs (g+1)))).1.words,A (gh (cc ⟨ws,fu⟩ (hl (1-s) rs (g+1)))).1.fuel],.one (A (gh (cc ⟨ws,fu⟩ (hl (1-s) rs (g+1)))).2)]) []) =>
  show(((0:Int)<=((1-s:Nat):Int))/\(((1-s:Nat):Int)<=(10:Int)))/\((((0:Int)<=(32*((1-s:Nat):Int)+1))/\(((32*((1-s:Nat):Int)+1)<=(1000:Int))/\((len (dx rs))<=1000))) /\
   ((((0:Int)<=(32*((1-s:Nat):Int)))/\(((32*((1-s:Nat):Int))<=(1000:Int))/\((len [g+1])<=1000))) /\
   ((((List.length [eN ((1-s:Nat):Int),cE (32*((1-s:Nat):Int)+1) (dx rs),cE (32*((1-s:Nat):Int)) [g+1]])<=10)/\((List.length (hl (1-s) rs (g+1)))<=1000)) /\
   ((((len ws)<=192)/\(((-(1:Int))<=fu)/\((fu<=(100000:Int))/\(((len (hl (1-s) rs (g+1)))<=1000)/\(lF ws.length (hl (1-s) rs (g+1))=true))))) /\
   (K (.ao [.agg [af (cc ⟨ws,fu⟩ (hl (1-s) rs (g+1))).1.words,A (cc ⟨ws,fu⟩ (hl (1-s) rs (g+1))).1.fuel],.one (A (ko (cc ⟨ws,fu⟩ (hl (1-s) rs (g+1))).2))]) [])))))from
  ⟨by omega,⟨by omega,by omega,by simp only[len];omega⟩,⟨by omega,by omega,by simp[len]⟩,⟨by simp only[List.length_cons,List.length_nil];omega,by omega⟩,⟨gv,bc,cq,by simp only[len];omega,aeE⟩,D⟩
 cases iq:(ib ws s).2 with
 |none =>
  rw[iq]at D;simp only[room,Bool.false_eq_true,if_false]at D;simp only[oV];refine e7 (eL.2 (by omega)) (cI (fun bj=>?_) (fun bj=>?_))
  ·rw[if_pos bj]at D;exact D
  ·rw[if_neg bj]at D;exact there D
 |some a =>
  have bl:=Xr (by omega) iq;rw[iq]at D;simp only[oV];rw[cb (n:=32*(s:Int)+1+a+1) (by omega) (by omega),cb (n:=32*(s:Int)+1+a+1+(((len r):Nat):Int)) (by simp only[len];omega) (by simp only[len];omega)];refine gk (fY.2 (by omega)) (b3 (fun bj=>?_) (fun bj=>?_))
  ·rw[fY]at bj;simp only[len]at bj;rw[if_pos (show room r.length (some a)=true from by simp only[room,decide_eq_true_eq];omega)]at D;simp only[Option.getD_some,oH]at D;rw[show((32*s+1+a:Nat):Int)=32*(s:Int)+1+a by omega]at D;have dI:=w7 ws.length r (32*(s:Int)+1+a+1) (by omega) (by omega);have eD:=w7 ws.length [42240+(r.length:Int)] (32*(s:Int)+1+a) (by omega) (by simp only[List.length_cons,List.length_nil];omega);refine⟨⟨by omega,by omega,by simp only[len];omega⟩,⟨by omega,by omega,by simp[len]⟩,by simp only[len,mq,List.length_cons,List.length_nil];omega,⟨gv,bc,cq,by simp only[len,cat,List.length_append,mq,List.length_cons,List.length_nil];omega,?_⟩,D⟩;unfold lF at *;rw[show cat (cE (32*(s:Int)+1+a+1) r) (cE (32*(s:Int)+1+a) [42240+(r.length:Int)])=cE (32*(s:Int)+1+a+1) r++cE (32*(s:Int)+1+a) [42240+(r.length:Int)]from rfl,List.all_append,dI,eD];rfl
  ·rw[eL]at bj;simp only[len]at bj;rw[if_neg (show ¬room r.length (some a)=true from by simp only[room,decide_eq_true_eq];omega)]at D;refine cI (fun bK=>?_) (fun bK=>?_)
   ·rw[if_pos bK]at D;exact D
   ·rw[if_neg bK]at D;exact there D

def Hp:a7
 |[.one (.ptr 0 0),.one (.E (.list .int) r)],[.box [.E (.list .int) ws,.E .int fu,.E .bool up,.E .int al,.own 1,.E .int ak,.E .int aj,.own 2,.own 3],.arr .int ah,.arr .bool aa,.arr .bool ab]=>some (some (dC ⟨ws,fu⟩=0/\eW r/\len aa<=1000/\len ab<=1000),.one (ax (dN ⟨⟨ws,fu⟩,up,⟨⟨al,ah,ak⟩,aj⟩,aa,ab⟩ r).2),[.box [af (dN ⟨⟨ws,fu⟩,up,⟨⟨al,ah,ak⟩,aj⟩,aa,ab⟩ r).1.f.words,A (dN ⟨⟨ws,fu⟩,up,⟨⟨al,ah,ak⟩,aj⟩,aa,ab⟩ r).1.f.fuel,ax (dN ⟨⟨ws,fu⟩,up,⟨⟨al,ah,ak⟩,aj⟩,aa,ab⟩ r).1.up,A (dN ⟨⟨ws,fu⟩,up,⟨⟨al,ah,ak⟩,aj⟩,aa,ab⟩ r).1.t.r.version,.own 4,A (dN ⟨⟨ws,fu⟩,up,⟨⟨al,ah,ak⟩,aj⟩,aa,ab⟩ r).1.t.r.dV,A (dN ⟨⟨ws,fu⟩,up,⟨⟨al,ah,ak⟩,aj⟩,aa,ab⟩ r).1.t.version,.own 5,.own 6],.dead,.dead,.dead,.arr .int (dN ⟨⟨ws,fu⟩,up,⟨⟨al,ah,ak⟩,aj⟩,aa,ab⟩ r).1.t.r.keys,.arr .bool (dN ⟨⟨ws,fu⟩,up,⟨⟨al,ah,ak⟩,aj⟩,aa,ab⟩ r).1.cH,.arr .bool (dN ⟨⟨ws,fu⟩,up,⟨⟨al,ah,ak⟩,aj⟩,aa,ab⟩ r).1.did])
 |_,_=>none
def zA:Ctx:=[(69,w9),(172,Ip)]
def qQ:List cu:=[.inLoop [32,31,30,6,5,4,0,1] (Code.sub (bR Tryz.f122) [1,1,1,1,0,1,0,0]),.inBlock 0,.code (Code.sub (bR Tryz.f122) [1,1,1,1,1])]
def v7(F ai:Int)(M:Bool)(ag an:aK)(aE:Int)(aI:Bool)(aV aZ bd:Int)(bu:da)(bx:cj)(br bD:Int)(bM bJ bP:Bool)(bC:aK)(bT b1:da):bO:=⟨[(32,.one (A F)),(31,.one (A ai)),(30,.one (.own 4)),(6,.one (.own 5)),(5,.one (.ptr 6 0)),(4,.one (ax M)),(0,.one (.ptr 0 0)),(1,.one (af ag))],[(0,.box [af an,A aE,ax aI,A aV,.own 7,A aZ,A bd,.own 8,.own 9]),(1,.dead),(2,.dead),(3,.dead),(4,.arr z.bool bu),(5,.arr (z.list z.int) bx),(6,.box [A br,A bD,ax bM,ax bJ,ax bP]),(7,.arr z.int bC),(8,.arr z.bool bT),(9,.arr z.bool b1)],10⟩
theorem VW{F:Int}{bx:cj}{rec:bV}{K:aU}{ai M ag an aE aI aV aZ bd bu br bD bM bJ bP bC bT b1}{v3 v0 v1 aC v4}(ed:v3=fun a b=>v7 a ai M ag an aE aI aV aZ bd bu b br bD bM bJ bP bC bT b1)(bX:v0=dC ⟨an,aE⟩)(b9:v1=hB bx)(cT:aC=fE ⟨an,aE⟩ ag bx)(e5:v4=J (ar aC.snd 7)
 (((0:Int)<=(len bT:Int)/\(len bT:Int)*((1:Nat):Int)<=140737488355328/\(len bT:Int)<=(140737488355328:Int)) /\
 ((0:Int)<=(len b1:Int)/\(len b1:Int)*((1:Nat):Int)<=140737488355328/\(len b1:Int)<=(140737488355328:Int)) /\
 K (.one (ax (ar aC.snd 0))) [.box [af aC.fst.words,A aC.fst.fuel,ax false,A aV,.own 4,A aZ,A bd,.own 5,.own 6],.dead,.dead,.dead,.arr z.int bC,.arr z.bool (bZ (Int.toNat (len bT:Int)) (z.H z.bool)),.arr z.bool (bZ (Int.toNat (len b1:Int)) (z.H z.bool))])
 (K (.one (ax (ar aC.snd 0))) [.box [af aC.fst.words,A aC.fst.fuel,ax aI,A aV,.own 4,A aZ,A bd,.own 5,.own 6],.dead,.dead,.dead,.arr z.int bC,.arr z.bool bT,.arr z.bool b1])):js zA tab Tryz.f122 4 K rec (cU qQ) (v3 F bx)=(
 J (aL F ai)
 (((0:Int)<=F/\F<(len bu:Int)) /\
 Int.toNat F<len bu /\
 J (nth bu (Int.toNat F) (z.H z.bool))
 ((len bx+len ((U (F+2)::br::[])::[]))*24<=140737488355328 /\
 rec qQ (v3 (U (F+1)) (cat bx ((U (F+2)::br::[])::[]))))
 (rec qQ (v3 (U (F+1)) bx)))
 ((v0=(0:Int)/\List.length ag<=140737488355328/\len bx*24<=140737488351232/\v1=true) /\
 J (ar aC.snd 0)
 v4
 (J (ar aC.snd 7)
 v4
 (J (ar aC.snd 7)
 (((0:Int)<=(len bT:Int)/\(len bT:Int)*((1:Nat):Int)<=140737488355328/\(len bT:Int)<=(140737488355328:Int)) /\
 ((0:Int)<=(len b1:Int)/\(len b1:Int)*((1:Nat):Int)<=140737488355328/\(len b1:Int)<=(140737488355328:Int)) /\
 K (.one (ax (ar aC.snd 0))) [.box [af an,A aE,ax false,A aV,.own 4,A aZ,A bd,.own 5,.own 6],.dead,.dead,.dead,.arr z.int bC,.arr z.bool (bZ (Int.toNat (len bT:Int)) (z.H z.bool)),.arr z.bool (bZ (Int.toNat (len b1:Int)) (z.H z.bool))])
 (K (.one (ax (ar aC.snd 0))) [.box [af an,A aE,ax aI,A aV,.own 4,A aZ,A bd,.own 5,.own 6],.dead,.dead,.dead,.arr z.int bC,.arr z.bool bT,.arr z.bool b1]))))):=by subst_vars;kernel_rfl

theorem NL(m:Nat)(K:aU)(r ws:aK)(fu:Int)(up:Bool)(al ak aj:Int)(nJ:da)(b6:nJ.length=3)(n v:Int)(c a e:Bool)(ah:aK)(aa ab:da)(k:Nat)(ae:k<3)(b4:cj)(az:b4.length<=10)
  (h:h4 zA tab Tryz.f122 4 K m qQ (v7 ((k+1:Nat):Int) 3 false r ws fu up al ak aj nJ (b4++if nth nJ k false=true then [[(k:Int)+2,n]]else []) n v c a e ah aa ab)) :
  h4 zA tab Tryz.f122 4 K (m+1) qQ (v7 (k:Int) 3 false r ws fu up al ak aj nJ b4 n v c a e ah aa ab):=by
 rw[jS (L:=qQ),VW rfl rfl rfl rfl rfl,cM];rw[di (by omega),cb (n:=(k:Int)+2) (by omega) (by omega)];have dU:nth nJ k (z.H z.bool)=nth nJ k false:=rfl;rw[dU];refine cV (by omega) ⟨⟨by omega,by simp only[len];omega⟩,by simp only[len];omega,b3 (fun ay=>⟨by simp only[len,List.length_cons,List.length_nil];omega,?_⟩) (fun ay=>?_)⟩
 ·rw[if_pos ay]at h;exact h
 ·rw[if_neg (by rw[ay];simp),List.append_nil]at h;exact h
theorem Nq:bo 122 Hp:=sY (Γ:=zA) 4 ((bn.f YB).f zm) Tryz.func122 (by kernel_rfl) fun vs au=>by
 unfold Hp;split;rotate_left;trivial;rename_i r ws fu up al ak aj ah aa ab;refine⟨by kernel_rfl,fun ad K D=>?_⟩;obtain⟨e0,fj,g2,pP⟩:=ad;refine⟨5,?_⟩;obtain⟨v1,b9⟩:∃v1,v1=bN ⟨ws,fu⟩:=⟨_,rfl⟩
 refine k4 (fun rec=>(by subst b9;kernel_rfl:_=(
  dC ⟨ws,fu⟩=(0:Int) /\
  J (!(ar v1.n 0))
  (rec qQ (v7 0 (((len (v1.dv::v1.abort::v1.ended::[])):Nat):Int) false r ws fu up al ak aj (v1.dv::v1.abort::v1.ended::[]) (((1:Int)::v1.n::v1.version::[])::[]) v1.n v1.version v1.dv v1.abort v1.ended ah aa ab))
  (rec qQ (v7 0 (((len (v1.dv::v1.abort::v1.ended::[])):Nat):Int) false r ws fu up al ak aj (v1.dv::v1.abort::v1.ended::[]) [] v1.n v1.version v1.dv v1.abort v1.ended ah aa ab))))) ?_
 subst b9;have aY:=rP ⟨ws,fu⟩;obtain⟨bL,b0⟩:=S5 (bN ⟨ws,fu⟩);obtain⟨Bs,Ev,UT,afq,afr,afs,UU⟩:=aY;obtain⟨s,av⟩:∃s,bN ⟨ws,fu⟩=s:=⟨_,rfl⟩
 unfold dN xc at D;simp only at D;rw[av]at D bL b0 Bs Ev UT afq afr afs UU |-;have qu:h4 zA tab Tryz.f122 4 K 1 qQ (v7 ((3:Nat):Int) 3 false r ws fu up al ak aj [s.dv,s.abort,s.ended] (mM s) s.n s.version s.dv s.abort s.ended ah aa ab):=by
  rw[jS (L:=qQ),VW rfl rfl rfl rfl rfl];refine ci (by omega) ⟨⟨e0,fj,by simp only[len];omega,bL⟩,?_⟩;obtain⟨hp,k6⟩:∃hp,fE ⟨ws,fu⟩ r (mM s)=hp:=⟨_,rfl⟩
  rw[k6]at D |-;have ud:((0:Int)<=(((len aa):Nat):Int))/\((((((len aa):Nat):Int)*((1:Nat):Int))<=(140737488355328:Int))/\((((len aa):Nat):Int)<=(140737488355328:Int))):=⟨by omega,by omega,by omega⟩
  have oP:((0:Int)<=(((len ab):Nat):Int))/\((((((len ab):Nat):Int)*((1:Nat):Int))<=(140737488355328:Int))/\((((len ab):Nat):Int)<=(140737488355328:Int))):=⟨by omega,by omega,by omega⟩
  by_cases a2:hp.2=0
  ·rw[if_pos a2]at D;rw[a2];exact D
  ·rw[if_neg a2]at D;refine iV a2 ?_;rw[show ar hp.2 0=false from pn.2 a2]
   by_cases c4:hp.2=7
   ·rw[if_pos c4]at D;rw[c4];exact⟨ud,oP,D⟩
   ·rw[if_neg c4]at D;exact iV c4 (iV c4 D)
 have k7:∀Ei,Ei.length<=5->((Ei++if s.dv=true then [[(2:Int),s.n]]else [])++if s.abort=true then [[(3:Int),s.n]]else [])++(if s.ended=true then [[(4:Int),s.n]]else [])=mM s ->
   h4 zA tab Tryz.f122 4 K 4 qQ (v7 (0:Int) 3 false r ws fu up al ak aj [s.dv,s.abort,s.ended] Ei s.n s.version s.dv s.abort s.ended ah aa ab):=fun Ei az ae=>by
  rw[<- ae]at qu;refine NL 3 K r ws fu up al ak aj _ rfl _ _ _ _ _ _ _ _ 0 (by omega) _ (by omega) ?_;refine NL 2 K r ws fu up al ak aj _ rfl _ _ _ _ _ _ _ _ 1 (by omega) _ (by rw[List.length_append];split<;>simp<;>omega) ?_;refine NL 1 K r ws fu up al ak aj _ rfl _ _ _ _ _ _ _ _ 2 (by omega) _ (by rw[List.length_append,List.length_append];split<;>split<;>simp<;>omega) ?_;exact qu
 have cS:(((len (s.dv::(s.abort::(s.ended::[])))):Nat):Int)=3:=rfl;rw[cS];refine⟨e0,bG (fun h=>k7 _ (by simp) ?_) (fun h=>k7 _ (by simp) ?_)⟩
 ·unfold mM;rw[if_neg h]
 ·have bg:=UU h;rw[bg];rfl

def Ht:a7
 |[.agg [.E (.list .str) b],.one (.E (.list .signed) l),.agg [.E (.list .int) ws,.E .int fu,.E .bool up,.E .int al,.E (.list .int) ah,.E .int ak,.E .int aj,.E (.list .bool) aa,.E (.list .bool) ab],.agg [.E (.list .root) rs,.E (.list (.list .int)) rg,.E .int bE,.E .int bY,.E (.list .target) ts,.E (.list .int) a5,.E (.list (.list .int)) a8],.one (.E .int now)],[]=>some (some (dG ⟨⟨ws,fu⟩,up,⟨⟨al,ah,ak⟩,aj⟩,aa,ab⟩=0),.ao [.agg (jg (iU b l ⟨⟨ws,fu⟩,up,⟨⟨al,ah,ak⟩,aj⟩,aa,ab⟩ ⟨rs,rg,⟨bE,bY,ts⟩,a5,a8⟩ now).1),.one (A (iU b l ⟨⟨ws,fu⟩,up,⟨⟨al,ah,ak⟩,aj⟩,aa,ab⟩ ⟨rs,rg,⟨bE,bY,ts⟩,a5,a8⟩ now).2.1),.one (A (iU b l ⟨⟨ws,fu⟩,up,⟨⟨al,ah,ak⟩,aj⟩,aa,ab⟩ ⟨rs,rg,⟨bE,bY,ts⟩,a5,a8⟩ now).2.2)],[])
 |_,_=>none

theorem akm:bo 68 Ht:=b2 0 ((((bn.f Nq).f Np).f akg).f zm) Tryz.func68 (by kernel_rfl) fun vs au=>by
 unfold Ht;split;rotate_left;trivial;rename_i b l ws fu up al ah ak aj aa ab rs rg bE bY ts a5 a8 now;refine⟨by kernel_rfl,fun ad K D=>?_⟩;refine⟨1,?_⟩;obtain⟨aC,cT⟩:∃aC,aC=ha b l ⟨⟨al,ah,ak⟩,aj⟩ ⟨rs,rg,⟨bE,bY,ts⟩,a5,a8⟩ now (len aa:Int):=⟨_,rfl⟩
 obtain⟨v3,ed⟩:∃v3,v3=dN ⟨⟨ws,fu⟩,up,⟨⟨al,ah,ak⟩,aj⟩,aa,ab⟩ ((1:Int)::U ((bN ⟨ws,fu⟩).n+1)::bE::[]):=⟨_,rfl⟩
 obtain⟨v4,e5⟩:∃v4,v4=J (ar (bN ⟨ws,fu⟩).n 8)
  (K (.ao [.agg [af [],A (0:Int),ax false,A (0:Int),af [],A (0:Int),A (0:Int),bh [],bh []],.one (A 0),.one (A 8)]) [])
  (J (!(ar aC.snd 0))
  (K (.ao [.agg [af [],A (0:Int),ax false,A (0:Int),af [],A (0:Int),A (0:Int),bh [],bh []],.one (A 0),.one (A aC.snd)]) [])
  ((len ws*8<=140737488355328/\len ah*8<=140737488355328/\len aa<=140737488355328/\len ab<=140737488355328) /\
  (dC ⟨ws,fu⟩=(0:Int)/\List.length ((1:Int)::U ((bN ⟨ws,fu⟩).n+1)::bE::[])<=140737488355328/\len aa<=1000/\len ab<=1000) /\
  J (!v3.snd)
  (K (.ao [.agg (jg v3.fst),.one (A 0),.one (A 0)]) [])
  (((0:Int)<=(len v3.fst.cH:Int)/\(len v3.fst.cH:Int)*((1:Nat):Int)<=140737488355328/\(len v3.fst.cH:Int)<=(140737488355328:Int)) /\
  ((0:Int)<=(len v3.fst.did:Int)/\(len v3.fst.did:Int)*((1:Nat):Int)<=140737488355328/\(len v3.fst.did:Int)<=(140737488355328:Int)) /\
  K (.ao [.agg [af v3.fst.f.words,A v3.fst.f.fuel,ax v3.fst.up,A aC.fst.r.version,af aC.fst.r.keys,A aC.fst.r.dV,A aC.fst.version,bh (bZ (Int.toNat (len v3.fst.cH:Int)) (z.H z.bool)),bh (bZ (Int.toNat (len v3.fst.did:Int)) (z.H z.bool))],.one (A (U ((bN ⟨ws,fu⟩).n+1))),.one (A 0)]) []))):=⟨_,rfl⟩
 refine cf (fun rec=>(by subst e5 ed cT;kernel_rfl:_=(
  dC ⟨ws,fu⟩=(0:Int) /\
  J (!up)
  (K (.ao [.agg [af [],A (0:Int),ax false,A (0:Int),af [],A (0:Int),A (0:Int),bh [],bh []],.one (A 0),.one (A 7)]) [])
  (J (!(ar (bN ⟨ws,fu⟩).n 0))
  (J (!(bN ⟨ws,fu⟩).ended)
  (K (.ao [.agg [af [],A (0:Int),ax false,A (0:Int),af [],A (0:Int),A (0:Int),bh [],bh []],.one (A 0),.one (A 12)]) [])
  v4)
  v4)))) ?_
 subst e5 ed cT;obtain⟨bp,bc,cq,dq,hE⟩:=iH ad;obtain⟨ia,iP,kQ,pV⟩:=r7 ad;simp only at bc cq dq;have aY:=rP ⟨ws,fu⟩;obtain⟨Bs,Ev,_⟩:=aY;refine⟨bp,ew (fun h=>?_) (fun h=>?_)⟩
 ·have I7:hY ⟨⟨ws,fu⟩,up,⟨⟨al,ah,ak⟩,aj⟩,aa,ab⟩=7:=by unfold hY;rw[if_pos ad,if_neg (by rw[h];simp)]
  unfold iU q5 at D;rw[I7]at D;exact D
 have I7:hY ⟨⟨ws,fu⟩,up,⟨⟨al,ah,ak⟩,aj⟩,aa,ab⟩=0:=by unfold hY;rw[if_pos ad,if_pos h]
 have h5:q5 b l ⟨⟨ws,fu⟩,up,⟨⟨al,ah,ak⟩,aj⟩,aa,ab⟩ ⟨rs,rg,⟨bE,bY,ts⟩,a5,a8⟩ now=if 0<(bN ⟨ws,fu⟩).n/\(bN ⟨ws,fu⟩).ended=false then 12 else if (bN ⟨ws,fu⟩).n=8 then 8 else(ha b l ⟨⟨al,ah,ak⟩,aj⟩ ⟨rs,rg,⟨bE,bY,ts⟩,a5,a8⟩ now (aa.length:Int)).2:=by unfold q5;rw[if_pos I7]
 unfold iU at D;rw[h5]at D;clear h5;simp only at D;have nF:(((len aa):Nat):Int)=(aa.length:Int):=rfl;rw[nF];obtain⟨T,bI⟩:∃T,ha b l ⟨⟨al,ah,ak⟩,aj⟩ ⟨rs,rg,⟨bE,bY,ts⟩,a5,a8⟩ now (aa.length:Int)=T:=⟨_,rfl⟩
 obtain⟨s,av⟩:∃s,bN ⟨ws,fu⟩=s:=⟨_,rfl⟩
 rw[bI,av]at D |-;rw[av]at Bs Ev;have j6:U (s.n+1)=s.n+1:=cb (by omega) (by omega);rw[j6];obtain⟨jO,RP⟩:∃jO,dN ⟨⟨ws,fu⟩,up,⟨⟨al,ah,ak⟩,aj⟩,aa,ab⟩ [1,s.n+1,bE]=jO:=⟨_,rfl⟩
 have aq:=(rO (g:=⟨⟨ws,fu⟩,up,⟨⟨al,ah,ak⟩,aj⟩,aa,ab⟩) (r:=[1,s.n+1,bE]) bp)
 rw[RP]at aq |-;obtain⟨_,_,aR,bH,_⟩:=aq;simp only at aR bH;have ud:len jO.1.cH<=4:=by simp only[len];omega
 have oP:len jO.1.did<=4:=by simp only[len];omega
 have end_:¬(0<s.n/\s.ended=false)->J (ar s.n (8:Int))
   (K (.ao [.agg [af [],A (0:Int),ax false,A (0:Int),af [],A (0:Int),A (0:Int),bh [],bh []],.one (A (0:Int)),.one (A (8:Int))]) [])
   (J (!(ar T.2 (0:Int)))
    (K (.ao [.agg [af [],A (0:Int),ax false,A (0:Int),af [],A (0:Int),A (0:Int),bh [],bh []],.one (A (0:Int)),.one (A T.2)]) [])
    (((((len ws)*8)<=140737488355328)/\((((len ah)*8)<=140737488355328)/\(((len aa)<=140737488355328)/\((len ab)<=140737488355328)))) /\
     (((dC (⟨ws,fu⟩:uW)=(0:Int))/\(((List.length ((1:Int)::((s.n+1)::(bE::[]))))<=140737488355328)/\(((len aa)<=1000)/\((len ab)<=1000)))) /\
     (J (!jO.2)
      (K (.ao [.agg (jg jO.1),.one (A (0:Int)),.one (A (0:Int))]) [])
      ((((0:Int)<=(((len jO.1.cH):Nat):Int))/\((((((len jO.1.cH):Nat):Int)*((1:Nat):Int))<=(140737488355328:Int))/\((((len jO.1.cH):Nat):Int)<=(140737488355328:Int)))) /\
       ((((0:Int)<=(((len jO.1.did):Nat):Int))/\((((((len jO.1.did):Nat):Int)*((1:Nat):Int))<=(140737488355328:Int))/\((((len jO.1.did):Nat):Int)<=(140737488355328:Int)))) /\
       (K (.ao [.agg [af jO.1.f.words,A jO.1.f.fuel,ax jO.1.up,A T.1.r.version,af T.1.r.keys,A T.1.r.dV,A T.1.version,bh (bZ (Int.toNat (((len jO.1.cH):Nat):Int)) (z.H z.bool)),bh (bZ (Int.toNat (((len jO.1.did):Nat):Int)) (z.H z.bool))],.one (A (s.n+1)),.one (A (0:Int))]) []))))))):=fun c=>by
  simp only[if_neg c]at D;refine cI (fun I=>?_) (fun I=>bG (fun G=>?_) (fun G=>⟨⟨ia,iP,by omega,by omega⟩,⟨bp,by simp,kQ,pV⟩,ew (fun Y=>?_) (fun Y=>⟨⟨by omega,by omega,by omega⟩,⟨by omega,by omega,by omega⟩,?_⟩)⟩))
  ·simp only[if_pos I]at D;exact D
  ·simp only[if_neg I,if_neg G]at D;exact D
  all_goals
   simp only[if_neg I,if_pos G]at D;unfold pe at D;rw[RP]at D
  ·rw[if_neg (by rw[Y];simp)]at D;exact D
  ·rw[if_pos Y]at D;rw[cM,cM,show len jO.1.cH=aa.length from aR,show len jO.1.did=ab.length from bH];exact D
 refine bG (fun I=>ew (fun G=>?_) (fun G=>end_ (by rw[G];simp))) (fun I=>end_ (by omega));simp only[if_pos (show 0<s.n/\s.ended=false from⟨by omega,G⟩)]at D;exact D

def Hr:a7
 |[.agg [.E (.list .int) ws,.E .int fu,.E .bool up,.E .int al,.E (.list .int) ah,.E .int ak,.E .int aj,.E (.list .bool) aa,.E (.list .bool) ab],.agg [.E .int eA,.E .int eY,.E .int ei,.E (.list .target) dH,.E (.list (.list .int)) cP],.one (.E .int u)],[]=>some (some (dG ⟨⟨ws,fu⟩,up,⟨⟨al,ah,ak⟩,aj⟩,aa,ab⟩=0/\dH.length<=140737488355328/\cP.length<=140737488355328),.ao [.one (bs (hw ⟨⟨ws,fu⟩,up,⟨⟨al,ah,ak⟩,aj⟩,aa,ab⟩ ⟨eA,⟨eY,ei,dH⟩,cP⟩ u).1),.one (A (hw ⟨⟨ws,fu⟩,up,⟨⟨al,ah,ak⟩,aj⟩,aa,ab⟩ ⟨eA,⟨eY,ei,dH⟩,cP⟩ u).2)],[])
 |_,_=>none
def zB:Ctx:=[(70,UF),(69,w9)]
def ER:List cu:=[.inLoop [113,112,111,10,9,8,7,6,4,2] (cy rm [1,1,1,1,1,1,1,1,1,0,1,0,0]),.inBlock 1,.code (cy rm [1,1,1,1,1,1,1,1,1,1])]
def LU(F ai:Int)(M ag:aK)(an aE:Int)(aI:cF)(aV aZ:Int)(bd bu bx:Bool)(br:cF)(bD bM bJ:Int)(bP:LT)(bC:cj):bO:=⟨[(113,.one (A F)),(112,.one (A ai)),(111,.one (af M)),(10,.one (.own 0)),(9,.one (af ag)),(8,.one (.ptr 1 0)),(7,.one (A an)),(6,.one (.own 2)),(4,.one (.ptr 3 0)),(2,.one (A aE))],[(0,.arr z.message aI),(1,.box [A aV,A aZ,ax bd,ax bu,ax bx]),(2,.arr z.message br),(3,.box [A bD,A bM,A bJ,.E (z.list z.target) bP,ct bC])],4⟩
def v8:List cu:=[.inLoop [113,112,111,10,9,8,7,6,4,2] (cy rm [1,1,1,1,1,1,1,1,1,0,1,0,0]),.inBlock 1,.code (cy rm [1,1,1,1,1,1,1,1,1,1])]
def LV(F ai:Int)(M ag:aK)(an aE:Int)(aI:cF)(aV aZ bd bu bx:Int)(br:Bool)(bD bM:Int)(bJ bP bC:Bool)(bT:cF)(b1 cw cB:Int)(cY:LT)(c6:cj)(dc:aK):bO:=⟨[(113,.one (A F)),(112,.one (A ai)),(111,.one (af M)),(10,.one (.iv 0)),(9,.one (af ag)),(8,.one (.ptr 1 0)),(7,.one (A an)),(6,.one (.own 2)),(4,.one (.ptr 3 0)),(2,.one (A aE))],[(0,.eE z.message aI [A aV,A aZ,A bd,A bu,A bx,.own 4,ax br]),(1,.box [A bD,A bM,ax bJ,ax bP,ax bC]),(2,.arr z.message bT),(3,.box [A b1,A cw,A cB,.E (z.list z.target) cY,ct c6]),(4,.arr z.int dc)],5⟩
theorem aht(ws:aK)(fu:Int)(up:Bool)(al:Int)(ah:aK)(ak aj:Int)(aa ab:da)(eA eY ei:Int)(dH:LT)(cP:cj)(u:Int)(rec:bV)(K:aU) v0 (bX:v0=dC ⟨ws,fu⟩) v1 (b9:v1=bN ⟨ws,fu⟩) v3 (ed:v3=J v1.dv
 (K (.ao [.one (bs []),.one (A 0)]) [])
 (J v1.abort
 (K (.ao [.one (bs []),.one (A 0)]) [])
 (((0:Int)<=u/\u<(len aa:Int)) /\
 J (nth aa (Int.toNat u) (z.H z.bool))
 (K (.ao [.one (bs []),.one (A 0)]) [])
 (((0:Int)<=u/\u<(len cP:Int)) /\
 J (aL 40 (((len (nth cP (Int.toNat u) (z.H (z.list z.int)))):Nat):Int))
 (K (.ao [.one (bs []),.one (A 2)]) [])
 (rec ER (LU 0 (((len (nth cP (Int.toNat u) (z.H (z.list z.int)))):Nat):Int) (nth cP (Int.toNat u) (z.H (z.list z.int))) (nth cP (Int.toNat u) (z.H (z.list z.int))) 0 u [] v1.n v1.version v1.dv v1.abort v1.ended [] eA eY ei dH cP)))))) aC (cT:aC=J v1.abort
 (((0:Int)<=u/\u<(len ab:Int)) /\
 J (!(nth ab (Int.toNat u) (z.H z.bool)))
 (K (.ao [.one (bs (cat [] ((⟨5,u,v1.n,0,0,[],false⟩:fD)::[]))),.one (A 0)]) [])
 v3)
 v3):b5 zB tab rm 0 K rec [.code (bR rm)] (df [.agg [af ws,A fu,ax up,A al,af ah,A ak,A aj,bh aa,bh ab],.agg [A eA,A eY,A ei,.E (z.list z.target) dH,ct cP],.one (A u)] [])=(
 v0=(0:Int) /\
 J (!up)
 (K (.ao [.one (bs []),.one (A 7)]) [])
 (J (ar v1.n 0)
 (K (.ao [.one (bs []),.one (A 12)]) [])
 (J v1.ended
 (K (.ao [.one (bs []),.one (A 12)]) [])
 (J (aL u 0)
 (K (.ao [.one (bs []),.one (A 5)]) [])
 (J (dh (len aa:Int) u)
 (K (.ao [.one (bs []),.one (A 5)]) [])
 (J (!(ar eA v1.n))
 (K (.ao [.one (bs []),.one (A 5)]) [])
 (J (dh (len cP:Int) u)
 (K (.ao [.one (bs []),.one (A 5)]) [])
 (J (dh (len dH:Int) u)
 (K (.ao [.one (bs []),.one (A 5)]) [])
 (J v1.dv
 (((0:Int)<=u/\u<(len ab:Int)) /\
 J (!(nth ab (Int.toNat u) (z.H z.bool)))
 (K (.ao [.one (bs (cat [] ((⟨4,u,v1.n,0,0,[],false⟩:fD)::[]))),.one (A 0)]) [])
 aC)
 aC))))))))):=by subst_vars;kernel_rfl
theorem ahu{F ai an aE aV aZ bD bM bJ:Int}{M ag:aK}{aI br:cF}{bd bu bx:Bool}{bP:LT}{bC:cj}{rec:bV}{K:aU}:b5 zB tab rm 0 K rec (cU ER) (LU F ai M ag an aE aI aV aZ bd bu bx br bD bM bJ bP bC)=(
 J (aL F ai)
 (((0:Int)<=F/\F<(len M:Int)) /\
 (8:Int)≠(0:Int) /\
 J (ar (Int.tmod F 8) 0)
 ((len aI+1)*72<=140737488355328 /\
 U ((((len aI+1):Nat):Int)-(1:Int))=(len aI:Int) /\
 len (nth M (Int.toNat F) (z.H z.int)::[])*8<=140737488355328 /\
 rec v8 (LV (U (F+1)) ai M ag an aE aI 1 aE aV F 0 false aV aZ bd bu bx br bD bM bJ bP bC (nth M (Int.toNat F) (z.H z.int)::[])))
 (((0:Int)<=U ((len aI:Int)-(1:Int))/\U ((len aI:Int)-(1:Int))<(len aI:Int)) /\
 Int.toNat (U ((len aI:Int)-(1:Int)))<len aI /\
 False))
 (((0:Int)<=aE/\aE<(len bP:Int)) /\
 (len aI+1)*72<=140737488355328 /\
 K (.ao [.one (bs (cat aI ((⟨2,aE,aV,(len ag:Int),(nth bP (Int.toNat aE) (z.H z.target)).image,[],false⟩:fD)::[]))),.one (A 0)]) [])):=by kernel_rfl
theorem VX{F aV aZ bd bu bx:Int}{aI:cF}{br:Bool}{dc:aK}{rec:bV}{K:aU}{ai M ag an aE bD bM bJ bP bC bT b1 cw cB cY c6}{v0}(bX:v0=fun a b c d e f g h i=>LV a ai M ag an aE b c d e f g h bD bM bJ bP bC bT b1 cw cB cY c6 i):b5 zB tab rm 0 K rec (cU v8) (v0 F aI aV aZ bd bu bx br dc)=(
 J (aL F ai)
 (((0:Int)<=F/\F<(len M:Int)) /\
 (8:Int)≠(0:Int) /\
 J (ar (Int.tmod F 8) 0)
 ((len aI+2)*72<=140737488355328 /\
 U ((((len (cat aI ((⟨aV,aZ,bd,bu,bx,dc,br⟩:fD)::[]))+1):Nat):Int)-(1:Int))=(((len (cat aI ((⟨aV,aZ,bd,bu,bx,dc,br⟩:fD)::[]))):Nat):Int) /\
 len (nth M (Int.toNat F) (z.H z.int)::[])*8<=140737488355328 /\
 rec v8 (v0 (U (F+1)) (cat aI ((⟨aV,aZ,bd,bu,bx,dc,br⟩:fD)::[])) 1 aE bD F 0 false (nth M (Int.toNat F) (z.H z.int)::[])))
 (U ((((len aI+1):Nat):Int)-(1:Int))=(len aI:Int) /\
 (len dc+len (nth M (Int.toNat F) (z.H z.int)::[]))*8<=140737488355328 /\
 rec v8 (v0 (U (F+1)) aI aV aZ bd bu bx br (cat dc (nth M (Int.toNat F) (z.H z.int)::[])))))
 (((0:Int)<=aE/\aE<(len cY:Int)) /\
 (len aI+2)*72<=140737488355328 /\
 K (.ao [.one (bs (cat (cat aI ((⟨aV,aZ,bd,bu,bx,dc,br⟩:fD)::[])) ((⟨2,aE,bD,(len ag:Int),(nth cY (Int.toNat aE) (z.H z.target)).image,[],false⟩:fD)::[]))),.one (A 0)]) [])):=by subst_vars;kernel_rfl

theorem XC{l:aK}{lo k:Nat}(I:lo<=k)(G:k<l.length):cat (aW l lo k) [nth l k (z.H z.int)]=aW l lo (k+1):=by
 unfold aW cat;rw[iz G (z.H z.int),List.drop_append_of_le_length (by simp;omega)]
theorem XB{l:aK}{k:Nat}(G:k<l.length):[nth l k (z.H z.int)]=aW l k (k+1):=by
 rw[<- XC (Nat.le_refl k) G];unfold aW cat;rw[List.drop_of_length_le (by simp;omega)];rfl
theorem KH(w:aK)(u n:Int)(b8:w.length<=40)(b:Int)(c d e:Bool)(eA eY ei:Int)(dH:LT)(cP:cj)(hu:0<=u/\u<(dH.length:Int))(K:aU) :
  ∀(hP k q:Nat) (acc:cF),k+hP=w.length->8*q<k->k<=8*q+8->acc.length<=q->K (.ao [.one (bs (acc++(jq u n w (6-q) (8*q)++[⟨2,u,n,(w.length:Int),(nth dH u.toNat ⟨0,0,0⟩).image,[],false⟩]))),.one (A (0:Int))]) [] ->
  co zB tab rm 0 K (hP+1) v8 (LV (k:Int) (w.length:Int) w w 0 u acc 1 u n ((8*q:Nat):Int) 0 false n b c d e [] eA eY ei dH cP (aW w (8*q) k))
 |0,k,q,acc,ae,I,G,bl,D=>by
  rw[bW (L:=v8),VX rfl];have aH:6-q=(5-q)+1:=by omega
  rw[aH]at D;simp only[jq,if_pos (show 8*q<w.length by omega)]at D;have dK:jq u n w (5-q) (8*q+8)=[]:=by
   cases qC:5-q with
   |zero=>rfl
   |succ j=>simp only[jq,if_neg (show ¬8*q+8<w.length by omega)]
  have vB:min (8*q+8) w.length=k:=by omega
  rw[dK]at D;unfold ur at D;rw[vB]at D;refine ci (by omega) ⟨⟨hu.1,by simp only[len];omega⟩,by simp only[len];omega,?_⟩;simp only[cat,aeT,List.append_assoc,List.cons_append,List.nil_append]at D |-;exact D
 |hP+1,k,q,acc,ae,I,G,bl,D=>by
  rw[bW (L:=v8),VX rfl,cM];have aH:6-q=(5-q)+1:=by omega
  have A4:∀x:Nat,x<=100->U (((x+1:Nat):Int)-1)=(x:Int):=fun x aG=>by rw[cb (by omega) (by omega)];omega
  refine cV (by omega) ⟨⟨by omega,by simp only[len];omega⟩,by decide,cI (fun dJ=>?_) (fun dJ=>?_)⟩
  ·have dJ:Int.tmod (k:Int) 8=0:=dJ;have acL:k=8*q+8:=by
    have:((k%8:Nat):Int)=0:=by rw[<- dJ];rfl
    omega
   refine⟨by simp only[len];omega,by simp only[len,cat,List.length_append,List.length_cons,List.length_nil];exact A4 _ (by omega),by simp only[len,List.length_cons,List.length_nil];omega,?_⟩;rw[di (by omega),XB (show k<w.length by omega)];have Q2:((k:Nat):Int)=((8*(q+1):Nat):Int):=by omega
   have xC:k=8*(q+1):=by omega
   rw[aH]at D;simp only[jq,if_pos (show 8*q<w.length by omega)]at D;unfold ur at D;have vB:min (8*q+8) w.length=k:=by omega
   rw[vB]at D;have key:=KH w u n b8 b c d e eA eY ei dH cP hu K hP (k+1) (q+1) (cat acc [⟨1,u,n,((8*q:Nat):Int),0,aW w (8*q) k,false⟩]) (by omega) (by omega) (by omega) (by simp[cat];omega) (by
    rw[show 6-(q+1)=5-q by omega,show 8*(q+1)=8*q+8 by omega];simp only[cat,List.append_assoc,List.cons_append,List.nil_append]at D |-;exact D)
   rw[<- xC]at key;exact key
  ·have acL:k<8*q+8:=by
    apply Nat.lt_of_not_le;intro hle;have acI:k=8*(q+1):=by omega
    exact dJ (by rw[acI];show((8*(q+1)%8:Nat):Int)=0;omega)
   refine⟨by simp only[len];exact A4 _ (by omega),by simp only[len,aW,List.length_drop,List.length_take,List.length_cons,List.length_nil];omega,?_⟩;rw[di (by omega),XC (by omega) (by omega)];exact KH w u n b8 b c d e eA eY ei dH cP hu K hP (k+1) q acc (by omega) (by omega) (by omega) bl D
theorem ae3(w:aK)(u n:Int)(b8:w.length<=40)(b:Int)(c d e:Bool)(eA eY ei:Int)(dH:LT)(cP:cj)(hu:0<=u/\u<(dH.length:Int))(K:aU)
  (D:K (.ao [.one (bs (jq u n w 6 0++[⟨2,u,n,(w.length:Int),(nth dH u.toNat ⟨0,0,0⟩).image,[],false⟩])),.one (A (0:Int))]) []) :
  co zB tab rm 0 K (w.length+1) ER (LU 0 (w.length:Int) w w 0 u [] n b c d e [] eA eY ei dH cP):=by
 rw[bW (L:=ER),ahu ]
 by_cases dK:w.length=0
 ·rw[show jq u n w 6 0=[]by simp only[jq,if_neg (show ¬0<w.length by omega)]]at D;exact ci (by omega) ⟨⟨hu.1,by simp only[len];omega⟩,by simp only[len,List.length_nil];omega,D⟩
 ·obtain⟨hP,bH⟩:∃hP,w.length=hP+1:=⟨w.length-1,by omega⟩
  refine cV (by omega) ⟨⟨by omega,by simp only[len];omega⟩,by decide,k0 rfl ⟨by simp only[len,List.length_nil];omega,by decide,by simp only[len,List.length_cons,List.length_nil];omega,?_⟩⟩;have key:=KH w u n b8 b c d e eA eY ei dH cP hu K hP 1 0 [] (by omega) (by omega) (by omega) (by simp) (by rw[List.nil_append];exact D);rw[<- XB (k:=0) (by omega),<- bH]at key;have aN:U (0+1)=((1:Nat):Int):=by decide
  have dU:Int.toNat 0=0:=rfl;rw[aN,dU];exact key
theorem akk:bo 70 Hr:=b2 (Γ:=zB) 0 ((bn.f zm).II Tryz.func70 (by kernel_rfl) aju) Tryz.func70 (by kernel_rfl) fun vs au=>by
 unfold Hr;split;rotate_left;trivial;rename_i ws fu up al ah ak aj aa ab eA eY ei dH cP u;dsimp only[z.den]at ws fu up al ah ak aj aa ab eA eY ei dH cP u;refine⟨by kernel_rfl,fun ad K D=>?_⟩;obtain⟨aA,anb,pF⟩:=ad;have aA:dG ⟨⟨ws,fu⟩,up,⟨⟨al,ah,ak⟩,aj⟩,aa,ab⟩=0:=aA;obtain⟨fy,v1,aC,v3,_⟩:=iH aA;simp only at fy v1 aC v3;unfold hw xl tm hY at D;simp only[aA,if_true]at D;have ud:((len aa:Nat):Int)=(aa.length:Int):=rfl;have oP:((len ab:Nat):Int)=(ab.length:Int):=rfl;have xN:((len cP:Nat):Int)=(cP.length:Int):=rfl;have lt:((len dH:Nat):Int)=(dH.length:Int):=rfl;obtain⟨s,av⟩:∃s,bN ⟨ws,fu⟩=s:=⟨_,rfl⟩
 rw[av]at D;refine⟨(nth cP (Int.toNat u) []).length+1+1,?_⟩;rw[eB,aht _ _ _ _ _ _ _ _ _ _ _ _ _ _ _ _ _ _ rfl _ rfl _ rfl _ rfl,av,ud,oP,xN,lt];refine⟨fy,ew (fun h=>?_) (fun h=>?_)⟩
 ·subst h;exact D
 subst h;simp only[if_true]at D
 by_cases bp:s.n=0\/s.ended=true
 ·rw[if_pos bp,if_neg (by decide)]at D;exact cI (fun _=>D) (fun q=>gk (bp.resolve_left q) D)
 rw[if_neg bp]at D;simp only[not_or,Bool.not_eq_true]at bp;refine iV bp.1 (e7 bp.2 ?_)
 by_cases bc:u<0\/(aa.length:Int)<=u\/eA≠s.n\/(cP.length:Int)<=u\/(dH.length:Int)<=u
 ·rw[if_pos bc,if_neg (by decide)]at D;exact bq (fun _=>D) (fun cO=>b3 (fun _=>D) (fun cL=>bG (fun _=>D) (fun eH=>b3 (fun _=>D) (fun gy=>gk (fY.2 (by rw[eL]at cL gy;omega)) D))))
 rw[if_neg bc,if_pos rfl]at D;refine ci (by omega) (e7 (eL.2 (by omega)) (qI (by omega) (e7 (eL.2 (by omega)) (e7 (eL.2 (by omega)) ?_))));have u5:(0:Int)<=u/\u<(ab.length:Int):=⟨by omega,by omega⟩
 have u9:(0:Int)<=u/\u<(aa.length:Int):=⟨by omega,by omega⟩
 have Pk:(0:Int)<=u/\u<(cP.length:Int):=⟨by omega,by omega⟩
 by_cases bH:s.dv=true\/s.abort=true
 ·rw[if_pos bH]at D;refine b3 (fun d1=>⟨u5,ew (fun q=>?_) (fun q=>?_)⟩) (fun d1=>b3 (fun d2=>⟨u5,ew (fun q=>?_) (fun q=>?_)⟩) (fun d2=>?_))
  ·rw[if_neg (by exact Bool.eq_false_iff.1 q)]at D;unfold rf nY at D;rw[if_pos ⟨d1,rfl⟩]at D;exact D
  ·rw[if_pos (by exact q)]at D;exact b3 (fun _=>⟨u5,sP q (gk d1 D)⟩) (fun _=>gk d1 D)
  ·rw[if_neg (by exact Bool.eq_false_iff.1 q)]at D;unfold rf nY at D;rw[if_neg (by rw[d1];simp)]at D;exact D
  ·rw[if_pos (by exact q)]at D;exact e7 d1 (gk d2 D)
  ·rw[d1,d2]at bH;simp at bH
 rw[if_neg bH]at D;simp only[not_or,Bool.not_eq_true]at bH;refine e7 bH.1 (e7 bH.2 (e7 bH.1 (e7 bH.2 ⟨u9,b3 (fun q=>?_) (fun q=>⟨Pk,?_⟩)⟩)))
 ·rw[if_pos (by exact q)]at D;exact D
 rw[if_neg (by exact Bool.eq_false_iff.1 q)]at D;unfold xI at D;simp only at D;obtain⟨w,b8⟩:∃w,nth cP (Int.toNat u) (z.H (z.list z.int))=w:=⟨_,rfl⟩
 have Ed:nth cP (Int.toNat u) []=w:=b8;rw[b8,Ed];rw[Ed]at D;have KP:((len w:Nat):Int)=(w.length:Int):=rfl;rw[KP]
 by_cases cq:40<w.length
 ·rw[if_pos cq]at D;exact cV (by omega) D
 ·rw[if_neg cq]at D;exact ci (by omega) (ae3 w u s.n (by omega) s.version s.dv s.abort s.ended eA eY ei dH cP ⟨by omega,by omega⟩ K D)

def He:a7
 |[.agg [.E (.list .int) ws,.E .int fu,.E .bool _,.E .int _,.E .int _]],[]=>some (some (dC ⟨ws,fu⟩=0),.agg [A (c5 ⟨ws,fu⟩).slot,A (c5 ⟨ws,fu⟩).e2,A (c5 ⟨ws,fu⟩).ready],[])
 |_,_=>none
def Cm:Ctx:=[(123,Ab)]
def pS:List cu:=[.inLoop [7,6,5,3,2] (Code.sub (bR Tryz.f71) [1,1,1,1,0,1,0,0]),.inBlock 0,.code (Code.sub (bR Tryz.f71) [1,1,1,1,1])]
def BE(F:Int)(ai:Bool)(M:cj)(ag an aE aI aV aZ:Int):bO:=⟨[(7,.one (A F)),(6,.one (ax ai)),(5,.one (.ptr 0 0)),(3,.one (ct M)),(2,.one (.ptr 1 0))],[(0,.box [A ag,A an,A aE]),(1,.box [A aI,A aV,A aZ])],2⟩
theorem VN{F aE:Int}{ai:Bool}{rec:bV}{K:aU}{M ag an aI aV aZ}{v0 aC v1}(bX:v0=fun a b c=>BE a b M ag an c aI aV aZ)(cT:aC=J (!ai)
 (((0:Int)<=(0:Int)/\(0:Int)<(((len (nth M (Int.toNat F) (z.H (z.list z.int)))):Nat):Int)) /\
 J (ar (nth (nth M (Int.toNat F) (z.H (z.list z.int))) (Int.toNat 0) (z.H z.int)) 2)
 (((0:Int)<=(1:Int)/\(1:Int)<(((len (nth M (Int.toNat F) (z.H (z.list z.int)))):Nat):Int)) /\
 rec pS (v0 (U (F-1)) true (nth (nth M (Int.toNat F) (z.H (z.list z.int))) (Int.toNat 1) (z.H z.int))))
 (rec pS (v0 (U (F-1)) true aE)))
 (rec pS (v0 (U (F-1)) ai aE))) (b9:v1=J (ar (((len (nth M (Int.toNat F) (z.H (z.list z.int)))):Nat):Int) 2)
 (((0:Int)<=(0:Int)/\(0:Int)<(((len (nth M (Int.toNat F) (z.H (z.list z.int)))):Nat):Int)) /\
 J (ar (nth (nth M (Int.toNat F) (z.H (z.list z.int))) (Int.toNat 0) (z.H z.int)) 2)
 aC
 (((0:Int)<=(0:Int)/\(0:Int)<(((len (nth M (Int.toNat F) (z.H (z.list z.int)))):Nat):Int)) /\
 J (ar (nth (nth M (Int.toNat F) (z.H (z.list z.int))) (Int.toNat 0) (z.H z.int)) 3)
 aC
 (rec pS (v0 (U (F-1)) ai aE))))
 (rec pS (v0 (U (F-1)) ai aE))):b5 Cm tab Tryz.f71 0 K rec (cU pS) (v0 F ai aE)=(
 J (dh 0 F)
 (((0:Int)<=F/\F<(len M:Int)) /\
 J (ar (((len (nth M (Int.toNat F) (z.H (z.list z.int)))):Nat):Int) 3)
 (((0:Int)<=(0:Int)/\(0:Int)<(((len (nth M (Int.toNat F) (z.H (z.list z.int)))):Nat):Int)) /\
 J (ar (nth (nth M (Int.toNat F) (z.H (z.list z.int))) (Int.toNat 0) (z.H z.int)) 1)
 (((0:Int)<=(1:Int)/\(1:Int)<(((len (nth M (Int.toNat F) (z.H (z.list z.int)))):Nat):Int)) /\
 J (aL (nth (nth M (Int.toNat F) (z.H (z.list z.int))) (Int.toNat 1) (z.H z.int)) 2)
 (((0:Int)<=(1:Int)/\(1:Int)<(((len (nth M (Int.toNat F) (z.H (z.list z.int)))):Nat):Int)) /\
 ((0:Int)<=(2:Int)/\(2:Int)<(((len (nth M (Int.toNat F) (z.H (z.list z.int)))):Nat):Int)) /\
 K (.agg [A (nth (nth M (Int.toNat F) (z.H (z.list z.int))) (Int.toNat 1) (z.H z.int)),A (nth (nth M (Int.toNat F) (z.H (z.list z.int))) (Int.toNat 2) (z.H z.int)),A aE]) [])
 v1)
 v1)
 v1)
 (K (.agg [A ag,A an,A aE]) [])):=by subst_vars;kernel_rfl

theorem aaa{p q r:Bool}{gX bp T X:Prop}(tN:p=true->gX)(ab1:p=true->bp)(bI:p=true->q=true->r=true->T)(fV:¬(p=true/\q=true/\r=true)->X):J p (gX/\J q (bp/\J r T X) X) X:=by
 cases p
 ·exact fV (by simp)
 ·refine⟨tN rfl,?_⟩;cases q
  ·exact fV (by simp)
  ·refine⟨ab1 rfl,?_⟩;cases r
   ·exact fV (by simp)
   ·exact bI rfl rfl rfl
theorem T5(l:cj)(az:l.length<=1000)(K:aU)(aI aV aZ:Int)(D:K (.agg [A (hX l).slot,A (hX l).e2,A (hX l).ready]) []):∀(d:Nat) (told:Bool) (aE:Int),d<=l.length->(told=false->aE=0) ->
  (hX l=⟨(hX (l.take d)).slot,(hX (l.take d)).e2,if told then aE else(hX (l.take d)).ready⟩) ->
  co Cm tab Tryz.f71 0 K (d+1) pS (BE ((d:Int)-1) told l 0 0 aE aI aV aZ)
 |0,told,aE,bH,a2,hi=>by
  rw[bW (L:=pS),VN rfl rfl rfl];refine e7 (by rw[eL];omega) ?_;rw[hi]at D;have e:(if told then aE else(hX (l.take 0)).ready)=aE:=by
   cases told
   ·exact(a2 rfl).symm
   ·rfl
  rw[e]at D;exact D
 |d+1,told,aE,bH,a2,hi=>by
  rw[bW (L:=pS),VN rfl rfl rfl];rw[show(((d+1:Nat):Int)-1)=(d:Int)by omega,cM,cb (by omega) (by omega)];have es:hX (l.take (d+1))=hk (hX (l.take d)) (nth l d (z.H (z.list z.int))):=by
   rw[iz (by omega) (z.H (z.list z.int))];unfold hX;rw[List.foldl_append];rfl
  rw[es]at hi;obtain⟨e,bv⟩:∃e,nth l d (z.H (z.list z.int))=e:=⟨_,rfl⟩
  rw[bv]at hi |-;obtain⟨gE,c8⟩:∃gE,hX (l.take d)=gE:=⟨_,rfl⟩
  have go:∀(B7:Bool) (y:Int),(B7=false->y=0)->hX l=⟨gE.slot,gE.e2,if B7 then y else gE.ready⟩->co Cm tab Tryz.f71 0 K (d+1) pS (BE ((d:Int)-1) B7 l 0 0 y aI aV aZ):=fun B7 y I G =>
   T5 l az K aI aV aZ D d B7 y (by omega) I (by rw[c8];exact G)
  rw[c8]at hi;have dU:nth e 0 (z.H z.int)=e.getD 0 0:=rfl;have aN:nth e 1 (z.H z.int)=e.getD 1 0:=rfl;have aX:nth e 2 (z.H z.int)=e.getD 2 0:=rfl;rw[show Int.toNat (0:Int)=0 from rfl,show Int.toNat (1:Int)=1 from rfl,show Int.toNat (2:Int)=2 from rfl,dU,aN,aX];refine gk (by rw[fY];omega) ⟨⟨by omega,by simp only[len];omega⟩,aaa (fun h=>?_) (fun h=>?_) (fun I G Y=>?_) (fun aq=>?_)⟩
  ·rw[k1]at h;exact⟨by omega,by omega⟩
  ·rw[k1]at h;exact⟨by omega,by omega⟩
  ·rw[k1]at I G;rw[pK]at Y;refine⟨⟨by omega,by omega⟩,⟨by omega,by omega⟩,?_⟩;have Ak:hk gE e=⟨e.getD 1 0,e.getD 2 0,0⟩:=if_pos ⟨G,by simp only[len]at I;omega,by omega⟩;rw[Ak]at hi;rw[hi]at D;have eK:(if told then aE else(0:Int))=aE:=by
    cases told
    ·exact(a2 rfl).symm
    ·rfl
   simp only at D;rw[eK]at D;exact D
  ·have gD:¬(e.getD 0 0=1/\e.length=3/\e.getD 1 0<=1):=fun g=>aq ⟨k1.2 (by simp only[len];omega),k1.2 g.1,pK.2 (by omega)⟩
   have stay:¬(e.length=2/\(e.getD 0 0=2\/e.getD 0 0=3))->co Cm tab Tryz.f71 0 K (d+1) pS (BE ((d:Int)-1) told l 0 0 aE aI aV aZ):=fun iN=>by
    refine go told aE a2 ?_;have:hk gE e=gE:=by
     unfold hk;rw[if_neg gD,if_neg (fun g=>iN ⟨g.2,.inl g.1⟩),if_neg (fun g=>iN ⟨g.2,.inr g.1⟩)]
    rw[this]at hi;exact hi
   refine cI (fun I=>⟨⟨by omega,by omega⟩,cI (fun G=>?_) (fun G=>⟨⟨by omega,by omega⟩,cI (fun Y=>?_) (fun Y=>stay (fun g=>?_))⟩)⟩) (fun I=>stay (fun g=>I (by simp only[len];omega)))
   ·have Ak:hk gE e=⟨gE.slot,gE.e2,e.getD 1 0⟩:=by
     unfold hk;rw[if_neg gD,if_pos ⟨G,by simp only[len]at I;omega⟩]
    rw[Ak]at hi;cases told
    ·exact⟨⟨by omega,by omega⟩,k0 G ⟨⟨by omega,by omega⟩,go true _ (fun h=>by cases h) hi⟩⟩
    ·exact go true aE a2 hi
   ·have Ak:hk gE e=⟨gE.slot,gE.e2,0⟩:=by
     unfold hk;rw[if_neg gD,if_neg (fun g=>G g.1),if_pos ⟨Y,by simp only[len]at I;omega⟩]
    rw[Ak]at hi;cases told
    ·refine⟨⟨by omega,by omega⟩,iV G (go true aE (fun h=>by cases h) ?_)⟩;rw[hi,a2 rfl];rfl
    ·exact go true aE a2 hi
   ·rcases g.2 with g|g
    ·exact G g
    ·exact Y g
theorem Nl:bo 71 He:=b2 (Γ:=Cm) 0 (bn.f NA) Tryz.func71 (by kernel_rfl) fun vs au=>by
 unfold He;split;rotate_left;trivial;rename_i ws fu up bw bz;refine⟨by kernel_rfl,fun ad K D=>?_⟩;obtain⟨bL,b0,_⟩:=ow ad;obtain⟨bp,_,_,dq⟩:=jx bL;simp only at b0 bp dq;refine⟨(fA ws).length+2,?_⟩;refine cf (fun rec=>(by kernel_rfl:_=(
  (64<=len ws/\len ws<=192/\cC ws=true) /\
  rec pS (BE (U ((len (fA ws):Int)-(1:Int))) false (fA ws) 0 0 0 0 0 0)))) ?_
 have aB:=(MM ws).2;refine⟨⟨by simp only[len];omega,by have:=rQ bp;simp only[len];omega,dq⟩,?_⟩;rw[xS ad]at D;unfold zn at D;rw[cb (by simp only[len];omega) (by simp only[len];omega)];exact T5 (fA ws) (by omega) K 0 0 0 D (fA ws).length false 0 (Nat.le_refl _) (fun _=>rfl) (by rw[List.take_length];rfl)

def Hs:a7
 |[.agg [.E (.list .int) ws,.E .int fu,.E .bool up,.E .int al,.E (.list .int) ah,.E .int ak,.E .int aj,.E (.list .bool) aa,.E (.list .bool) ab],.agg [.E .int mk,.E .int ba,.E .int bb,.E .int bB,.E .int ch,.E (.list .int) bQ,.E .bool cz]],[]=>some (some (dG ⟨⟨ws,fu⟩,up,⟨⟨al,ah,ak⟩,aj⟩,aa,ab⟩=0/\0<=ba/\ba<(aa.length:Int)/\1<=bb/\bb<=8),.ao [.agg (jg (iJ ⟨⟨ws,fu⟩,up,⟨⟨al,ah,ak⟩,aj⟩,aa,ab⟩ ⟨mk,ba,bb,bB,ch,bQ,cz⟩).1),.one (bs (iJ ⟨⟨ws,fu⟩,up,⟨⟨al,ah,ak⟩,aj⟩,aa,ab⟩ ⟨mk,ba,bb,bB,ch,bQ,cz⟩).2)],[])
 |_,_=>none
def Ot:Ctx:=[(14,Hm),(69,w9),(124,G1),(122,Hp)]
theorem afN:fr Tryz.prog tab Ot:=((((bn.f Nq).f XT).f zm).f Np)
theorem ahv(ws:aK)(fu:Int)(up:Bool)(al:Int)(ah:aK)(ak aj:Int)(aa ab:da)(mk ba bb bB ch:Int)(bQ:aK)(cz:Bool)(rec:bV)(K:aU) v0 (bX:v0=dC ⟨ws,fu⟩) v1 (b9:v1=bN ⟨ws,fu⟩) aC (cT:aC=hasB false (setAt ab (Int.toNat ba) true)) v3 (ed:v3=dN ⟨⟨ws,fu⟩,up,⟨⟨al,ah,ak⟩,aj⟩,aa,setAt ab (Int.toNat ba) true⟩ ((4:Int)::v1.n::[])) v4 (e5:v4=hasB false (setAt aa (Int.toNat ba) true)) cn (hx:cn=dN ⟨⟨ws,fu⟩,up,⟨⟨al,ah,ak⟩,aj⟩,setAt aa (Int.toNat ba) true,ab⟩ ((2:Int)::v1.n::[])) v9 (jY:v9=K (.ao [.agg [af ws,A fu,ax up,A al,af ah,A ak,A aj,bh aa,bh ab],.one (bs [])]) []) ln (St:ln=J (!aC)
 ((v0=(0:Int)/\List.length ((4:Int)::v1.n::[])<=140737488355328/\len aa<=1000/\len (setAt ab (Int.toNat ba) true)<=1000) /\
 K (.ao [.agg (jg v3.fst),.one (bs [])]) [])
 (K (.ao [.agg [af ws,A fu,ax up,A al,af ah,A ak,A aj,bh aa,bh (setAt ab (Int.toNat ba) true)],.one (bs [])]) [])) s1 (Su:s1=K (.ao [.agg [af ws,A fu,ax up,A al,af ah,A ak,A aj,bh aa,bh ab],.one (bs ((⟨5,ba,bb,0,0,[],false⟩:fD)::[]))]) []) o5 (Ss:o5=J (ar v1.n bb)
 (J v1.dv
 (K (.ao [.agg [af ws,A fu,ax up,A al,af ah,A ak,A aj,bh aa,bh ab],.one (bs ((⟨4,ba,bb,0,0,[],false⟩:fD)::[]))]) [])
 s1)
 s1) v11 (oN:v11=J (ar mk 7)
 (J (!(!v1.ended))
 o5
 (J v1.abort
 o5
 (K (.ao [.agg [af ws,A fu,ax up,A al,af ah,A ak,A aj,bh aa,bh ab],.one (bs [])]) [])))
 (K (.ao [.agg [af ws,A fu,ax up,A al,af ah,A ak,A aj,bh aa,bh ab],.one (bs [])]) [])) dR (kG:dR=J (ar mk 6)
 (J (!v1.ended)
 (J v1.abort
 (((0:Int)<=ba/\ba<(len ab:Int)) /\
 Int.toNat ba<len ab /\
 len (setAt ab (Int.toNat ba) true)<=1000 /\
 ln)
 v11)
 v11)
 v11) hb (xG:hb=J (ar mk 7)
 (J (!(!v1.ended))
 o5
 o5)
 (K (.ao [.agg [af ws,A fu,ax up,A al,af ah,A ak,A aj,bh aa,bh ab],.one (bs [])]) [])) dy (iL:dy=J (ar mk 6)
 (J (!v1.ended)
 (((0:Int)<=ba/\ba<(len ab:Int)) /\
 Int.toNat ba<len ab /\
 len (setAt ab (Int.toNat ba) true)<=1000 /\
 ln)
 hb)
 hb) hc (sH:hc=J (ar mk 7)
 o5
 (K (.ao [.agg [af ws,A fu,ax up,A al,af ah,A ak,A aj,bh aa,bh ab],.one (bs [])]) [])) v10 (nf:v10=J (ar mk 6)
 hc
 hc) cR (kH:cR=J (!up)
 (K (.ao [.agg [af ws,A fu,ax up,A al,af ah,A ak,A aj,bh aa,bh ab],.one (bs [])]) [])
 (J (ar mk 3)
 v10
 v10)):b5 Ot tab Tryz.f72 0 K rec [.code (bR Tryz.f72)] (df [.agg [af ws,A fu,ax up,A al,af ah,A ak,A aj,bh aa,bh ab],.agg [A mk,A ba,A bb,A bB,A ch,af bQ,ax cz]] [])=(
 (len ws*8<=140737488355328/\len ah*8<=140737488355328/\len aa<=140737488355328/\len ab<=140737488355328) /\
 v0=(0:Int) /\
 J (ar v1.n bb)
 (J v1.dv
 (J (!up)
 v9
 (J (ar mk 3)
 (J (!v1.ended)
 dy
 dy)
 dy))
 (J (!up)
 v9
 (J (ar mk 3)
 (J (!v1.ended)
 (J (!v1.abort)
 (J cz
 (((0:Int)<=ba/\ba<(len aa:Int)) /\
 Int.toNat ba<len aa /\
 len (setAt aa (Int.toNat ba) true)<=1000 /\
 J (!v4)
 ((v0=(0:Int)/\List.length ((2:Int)::v1.n::[])<=140737488355328/\len (setAt aa (Int.toNat ba) true)<=1000/\len ab<=1000) /\
 K (.ao [.agg (jg cn.fst),.one (bs [])]) [])
 (K (.ao [.agg [af ws,A fu,ax up,A al,af ah,A ak,A aj,bh (setAt aa (Int.toNat ba) true),bh ab],.one (bs [])]) []))
 dR)
 dR)
 dR)
 dR)))
 (J v1.dv
 cR
 cR)):=by subst_vars;kernel_rfl

theorem aiL(ad:dG ⟨⟨ws,fu⟩,up,⟨⟨al,ah,ak⟩,aj⟩,aa,ab⟩=0/\0<=ba/\ba<(aa.length:Int)/\1<=bb/\bb<=8)(K:aU)(D:K (.ao [.agg (jg (iJ ⟨⟨ws,fu⟩,up,⟨⟨al,ah,ak⟩,aj⟩,aa,ab⟩ ⟨mk,ba,bb,bB,ch,bQ,cz⟩).1),.one (bs (iJ ⟨⟨ws,fu⟩,up,⟨⟨al,ah,ak⟩,aj⟩,aa,ab⟩ ⟨mk,ba,bb,bB,ch,bQ,cz⟩).2)]) []):∃m,co Ot tab Tryz.f72 0 K m [.code (bR Tryz.f72)] (df [.agg [af ws,A fu,ax up,A al,af ah,A ak,A aj,bh aa,bh ab],.agg [A mk,A ba,A bb,A bB,A ch,af bQ,ax cz]] []):=by
 obtain⟨aA,jb,gi,nq,cO⟩:=ad;have aA:dG ⟨⟨ws,fu⟩,up,⟨⟨al,ah,ak⟩,aj⟩,aa,ab⟩=0:=aA;obtain⟨ia,iP,kQ,pV⟩:=r7 aA;obtain⟨fy,v1,aC,v3,_⟩:=iH aA;simp only at fy v1 aC v3;refine⟨1,?_⟩;rw[eB,ahv _ _ _ _ _ _ _ _ _ _ _ _ _ _ _ _ _ _ _ rfl _ rfl _ rfl _ rfl _ rfl _ rfl _ rfl _ rfl _ rfl _ rfl _ rfl _ rfl _ rfl _ rfl _ rfl _ rfl _ rfl];have Be:len (setAt aa (Int.toNat ba) true)<=1000:=by simp only[len,uA];omega
 have Bd:len (setAt ab (Int.toNat ba) true)<=1000:=by simp only[len,uA];omega
 have Em:Int.toNat ba<len aa:=by simp only[len];omega
 have El:Int.toNat ba<len ab:=by simp only[len];omega
 have Pp:0<=ba/\ba<((len aa:Nat):Int):=⟨jb,gi⟩
 have Po:0<=ba/\ba<((len ab:Nat):Int):=⟨jb,by simp only[len];omega⟩
 refine⟨⟨ia,iP,by omega,by omega⟩,fy,?_⟩;unfold iJ at D;obtain⟨s,av⟩:∃s,bN ⟨ws,fu⟩=s:=⟨_,rfl⟩
 simp only[av]at D |-;have sr:(s.dv=true\/s.dv=false):=by cases s.dv<;>simp
 have AF:(s.abort=true\/s.abort=false):=by cases s.abort<;>simp
 have JN:(s.ended=true\/s.ended=false):=by cases s.ended<;>simp
 cases up
 ·rw[if_neg (by simp)]at D;refine b3 (fun _=>?_) (fun _=>?_)<;>rcases sr with aA|aA<;>rcases AF with bl|bl<;>simp only[aA,bl,J,Bool.not_false]<;>exact D
 rw[if_pos rfl]at D;obtain⟨g,bt⟩:∃g:uX,(⟨⟨ws,fu⟩,true,⟨⟨al,ah,ak⟩,aj⟩,aa,ab⟩:uX)=g:=⟨_,rfl⟩
 have nP:g8 g s ⟨mk,ba,bb,bB,ch,bQ,cz⟩=(g,[])->K (.ao [.agg [af ws,A fu,ax true,A al,af ah,A ak,A aj,bh aa,bh ab],.one (bs [])]) []:=fun e=>by rw[bt,e,<- bt]at D;exact D
 have sp:g8 g s ⟨mk,ba,bb,bB,ch,bQ,cz⟩=(g,[rf s ba bb])->K (.ao [.agg [af ws,A fu,ax true,A al,af ah,A ak,A aj,bh aa,bh ab],.one (bs [⟨nY s bb,ba,bb,0,0,[],false⟩])]) []:=fun e=>by rw[bt,e,<- bt]at D;exact D
 have JC:g8 g s ⟨mk,ba,bb,bB,ch,bQ,cz⟩=(p0 g ba,[])->K (.ao [.agg [af ws,A fu,ax true,A al,af ah,A ak,A aj,bh (setAt aa (Int.toNat ba) true),bh ab],.one (bs [])]) []:=fun e=>by rw[bt,e,<- bt]at D;exact D
 have JE:g8 g s ⟨mk,ba,bb,bB,ch,bQ,cz⟩=(pk g ba,[])->K (.ao [.agg [af ws,A fu,ax true,A al,af ah,A ak,A aj,bh aa,bh (setAt ab (Int.toNat ba) true)],.one (bs [])]) []:=fun e=>by rw[bt,e,<- bt]at D;exact D
 obtain⟨y,cv⟩:∃y,(dN ⟨⟨ws,fu⟩,true,⟨⟨al,ah,ak⟩,aj⟩,setAt aa (Int.toNat ba) true,ab⟩ [2,s.n]).1=y:=⟨_,rfl⟩
 obtain⟨bg,dK⟩:∃bg,(dN ⟨⟨ws,fu⟩,true,⟨⟨al,ah,ak⟩,aj⟩,aa,setAt ab (Int.toNat ba) true⟩ [4,s.n]).1=bg:=⟨_,rfl⟩
 have JD:g8 g s ⟨mk,ba,bb,bB,ch,bQ,cz⟩=(y,[])->K (.ao [.agg (jg y),.one (bs [])]) []:=fun e=>by rw[bt,e]at D;exact D
 have JF:g8 g s ⟨mk,ba,bb,bB,ch,bQ,cz⟩=(bg,[])->K (.ao [.agg (jg bg),.one (bs [])]) []:=fun e=>by rw[bt,e]at D;exact D
 clear D;have Dz:(p0 g ba).cH=setAt aa (Int.toNat ba) true:=by rw[<- bt];rfl
 have Dt:(pk g ba).did=setAt ab (Int.toNat ba) true:=by rw[<- bt];rfl
 have aet:(dN (p0 g ba) [2,s.n]).1=y:=by rw[<- bt,<- cv];rfl
 have A6:(dN (pk g ba) [4,s.n]).1=bg:=by rw[<- bt,<- dK];rfl
 simp only[cv,dK];have az:∀a b:Int,List.length [a,b]<=140737488355328:=fun a b=>by simp
 have Y:mk=3->g8 g s ⟨mk,ba,bb,bB,ch,bQ,cz⟩=if s.n≠bb\/s.ended=true\/s.dv=true\/s.abort=true\/cz=false then(g,[])else(s2 g s ba,[]):=fun e=>by unfold g8;rw[if_pos (by exact e)]
 have bK:mk=6->g8 g s ⟨mk,ba,bb,bB,ch,bQ,cz⟩=if s.n≠bb\/s.ended=true\/(s.dv=false/\s.abort=false)then(g,[])else(sb g s ba,[]):=fun e=>by unfold g8;rw[if_neg (by simp only;omega),if_pos (by exact e)]
 have c4:mk=7->g8 g s ⟨mk,ba,bb,bB,ch,bQ,cz⟩=if s.n≠bb\/s.ended=true\/s.dv=true\/s.abort=true then(g,[rf s ba bb])else(g,[]):=fun e=>by unfold g8;rw[if_neg (by simp only;omega),if_neg (by simp only;omega),if_pos (by exact e)]
 have a2:mk≠3->mk≠6->mk≠7->g8 g s ⟨mk,ba,bb,bB,ch,bQ,cz⟩=(g,[]):=fun a b c=>by unfold g8;rw[if_neg (by exact a),if_neg (by exact b),if_neg (by exact c)]
 have d4:nY s bb=if s.dv=true/\s.n=bb then 4 else 5:=rfl
 have cS:ar mk 3=true->mk=3:=k1.1;have Aj:ar mk 6=true->mk=6:=k1.1;have tn:ar mk 7=true->mk=7:=k1.1;have aen:s2 g s ba=if hasB false (setAt aa (Int.toNat ba) true)=true then p0 g ba else y:=by unfold s2;rw[Dz,aet]
 have RY:sb g s ba=if hasB false (setAt ab (Int.toNat ba) true)=true then pk g ba else bg:=by unfold sb;rw[Dt,A6]
 rw[aen]at Y;rw[RY]at bK;generalize hasB false (setAt aa (Int.toNat ba) true)=u9 at Y |-;generalize hasB false (setAt ab (Int.toNat ba) true)=u5 at bK |-;refine cI (fun aq=>?_) (fun aq=>?_)<;>rcases sr with aA|aA<;>rcases AF with bl|bl<;>rcases JN with bv|bv<;>simp only[aq,aA,bl,bv,ne_eq,not_true_eq_false,Bool.true_eq_false,Bool.false_eq_true,true_or,or_true,false_or,or_false,and_false,false_and,and_true,true_and,and_self,if_true,if_false,Bool.not_eq_false,not_false_eq_true,J,Bool.not_true,Bool.not_false]at Y bK c4 d4 sp |-<;>rw[d4]at sp
 all_goals
  refine cI (fun k=>?_) (fun dm=>cI (fun k=>?_) (fun jF=>cI (fun k=>?_) (fun l1=>nP (a2 dm jF l1))))
  all_goals subst k
  all_goals try simp only[show ar 3 6=false from rfl,show ar 3 7=false from rfl,show ar 6 7=false from rfl,show ar bb bb=true from k1.2 rfl,true_implies,J]at Y bK c4 sp |-
  all_goals try rw[pn.2 aq]
  all_goals first
   |exact nP Y
   |exact nP bK
   |exact nP c4
   |exact sp c4
   |(rw[d4]at sp;exact sp c4)
   |skip
  all_goals cases cz<;>cases u9<;>cases u5
  all_goals try simp only[Bool.true_eq_false,Bool.false_eq_true,if_true,if_false,Bool.not_true,Bool.not_false]at Y bK |-
  all_goals first
   |exact nP Y
   |exact⟨Pp,Em,Be,JC Y⟩
   |exact⟨Pp,Em,Be,⟨fy,az _ _,Be,by omega⟩,JD Y⟩
   |exact⟨Po,El,Bd,JE bK⟩
   |exact⟨Po,El,Bd,⟨fy,az _ _,by omega,Bd⟩,JF bK⟩
theorem akl:bo 72 Hs:=hj afN Tryz.func72 (by kernel_rfl) (by
 intro vs au p v du h ad;unfold Hs at h;split at h
 ·cases h;exact⟨by kernel_rfl,rfl,.inl (aiL _ _ _ _ _ _ _ _ _ _ _ _ _ _ _ _ ad.1 _ ⟨rfl,rfl⟩)⟩
 ·cases h)

def P2:a7
 |[.one (.E .int k),.one (.E .bool y),.one (.ptr 0 0),.one (.ptr 1 0)],[.box [.ptr 2 0],.box [.E .int mk,.E .int ba,.E .int bb,.E .int bB,.E .int ch,.E (.list .int) bQ,.E .bool cz],.box [.E (.list .int) ws,.E .int fu,.E .bool up,.E .int bw,.E .int bz,.E .bool av]]=>some (none,.ao [.agg [af ws,A fu,ax up,A bw,A bz],.one (bs (pd av ba bb k y))],[.box [.ptr 2 0],.box [A mk,A ba,A bb,A bB,A ch,af bQ,ax cz],.box [af ws,A fu,ax up,A bw,A bz,ax av]])
 |_,_=>none

theorem akb:bo 125 P2:=b2 3 bn Tryz.func125 (by kernel_rfl) fun vs au=>by
 unfold P2;split;rotate_left;trivial;rename_i k y mk ba bb bB ch bQ cz ws fu up bw bz av;refine⟨by kernel_rfl,fun K D=>?_⟩;refine⟨1,?_⟩;refine cf (fun rec=>(by kernel_rfl:_=(
  J av
  (K (.ao [.agg [af ws,A fu,ax up,A bw,A bz],.one (bs [])]) [.box [.ptr 2 0],.box [A mk,A ba,A bb,A bB,A ch,af bQ,ax cz],.box [af ws,A fu,ax up,A bw,A bz,ax av]])
  (K (.ao [.agg [af ws,A fu,ax up,A bw,A bz],.one (bs ((⟨k,ba,bb,0,0,[],y⟩:fD)::[]))]) [.box [.ptr 2 0],.box [A mk,A ba,A bb,A bB,A ch,af bQ,ax cz],.box [af ws,A fu,ax up,A bw,A bz,ax av]])))) ?_
 cases av
 ·exact D
 ·exact D

def P0:a7
 |[.one (.ptr 0 0),.agg [.E (.list .int) gs,.E .int mB],.one (.E .int e)],[.box [.E (.list .int) ws,.E .int fu,.E .bool up,.E .int bw,.E .int bz,.E .bool av]]=>some (none,.ao [],[.box [af (e8 ⟨⟨ws,fu⟩,up,bw,bz⟩ ⟨gs,mB⟩ e).1.f.words,A (e8 ⟨⟨ws,fu⟩,up,bw,bz⟩ ⟨gs,mB⟩ e).1.f.fuel,ax (e8 ⟨⟨ws,fu⟩,up,bw,bz⟩ ⟨gs,mB⟩ e).1.up,A (e8 ⟨⟨ws,fu⟩,up,bw,bz⟩ ⟨gs,mB⟩ e).1.n,A (e8 ⟨⟨ws,fu⟩,up,bw,bz⟩ ⟨gs,mB⟩ e).1.eG,ax (iy av e)]])
 |_,_=>none

theorem X0:bo 126 P0:=b2 1 bn Tryz.func126 (by kernel_rfl) fun vs au=>by
 unfold P0;split;rotate_left;trivial;rename_i gs mB e ws fu up bw bz av;refine⟨by kernel_rfl,fun K D=>?_⟩;refine⟨1,?_⟩;obtain⟨v0,bX⟩:∃v0,v0=J (ar e 7)
  (J av
  (K (.ao []) [.box [af gs,A mB,ax false,A (0:Int),A (0:Int),ax true]])
  (K (.ao []) [.box [af gs,A mB,ax false,A (0:Int),A (0:Int),ax (!(ar e 0))]]))
  (J av
  (K (.ao []) [.box [af gs,A mB,ax up,A bw,A bz,ax true]])
  (K (.ao []) [.box [af gs,A mB,ax up,A bw,A bz,ax (!(ar e 0))]])):=⟨_,rfl⟩
 refine cf (fun rec=>(by subst bX;kernel_rfl:_=(
  J (ar e 0)
  v0
  (J (ar e 7)
  v0
  (J (ar e 7)
  (J av
  (K (.ao []) [.box [af ws,A fu,ax false,A (0:Int),A (0:Int),ax true]])
  (K (.ao []) [.box [af ws,A fu,ax false,A (0:Int),A (0:Int),ax (!(ar e 0))]]))
  (J av
  (K (.ao []) [.box [af ws,A fu,ax up,A bw,A bz,ax true]])
  (K (.ao []) [.box [af ws,A fu,ax up,A bw,A bz,ax (!(ar e 0))]]))))))) ?_
 subst bX;unfold e8 iy at D
 by_cases h:e=0
 ·subst h;cases av
  ·exact D
  ·exact D
 ·have a2:ar e 0=false:=pn.2 h;rw[if_neg h]at D
  by_cases c4:e=7
  ·subst c4;cases av
   ·exact D
   ·exact D
  ·have I:ar e 7=false:=pn.2 c4;rw[if_neg c4]at D;rw[a2,I];rw[a2]at D;cases av
   ·exact D
   ·exact D

def Qr:a7
 |[.agg [.E (.list .int) ws,.E .int fu],.one (.E .int slot)],[]=>some (some (eX ⟨ws,fu⟩ slot=0),.ao [.agg [af (hv ⟨ws,fu⟩ slot).1.words,A (hv ⟨ws,fu⟩ slot).1.fuel],.one (A (hv ⟨ws,fu⟩ slot).2)],[])
 |_,_=>none

theorem ak2:bo 127 Qr:=b2 0 ((bn.f Nt).f Ys) Tryz.func127 (by kernel_rfl) fun vs au=>by
 unfold Qr;split;rotate_left;trivial;rename_i ws fu slot;refine⟨by kernel_rfl,fun ad K D=>?_⟩;refine⟨1,?_⟩;obtain⟨v0,bX⟩:∃v0,v0=eN (U ((2:Int)+U ((2:Int)*slot))):=⟨_,rfl⟩
 obtain⟨v1,b9⟩:∃v1,v1=eN (U ((3:Int)+U ((2:Int)*slot))):=⟨_,rfl⟩
 obtain⟨v3,ed⟩:∃v3,v3=cc (⟨ws,fu⟩:cp) (cat v0 v1):=⟨_,rfl⟩
 refine cf (fun rec=>(by subst ed b9 bX;kernel_rfl:_=(
  ((0:Int)<=U ((2:Int)+U ((2:Int)*slot))/\U ((2:Int)+U ((2:Int)*slot))<=10) /\
  ((0:Int)<=U ((3:Int)+U ((2:Int)*slot))/\U ((3:Int)+U ((2:Int)*slot))<=10) /\
  (len v0+len v1)*16<=140737488355328 /\
  (len ws<=192/\(-1)<=fu/\fu<=100000/\len (cat v0 v1)<=1000/\lF (List.length ws) (cat v0 v1)=true) /\
  K (.ao [.agg [af v3.fst.words,A v3.fst.fuel],.one (A (ko v3.snd))]) []))) ?_
 subst ed b9 bX;unfold hv at D;rw[if_pos ad]at D;obtain⟨I,G,Y⟩:=r9 ad;obtain⟨bp,bc,cq,dq⟩:=jx I;simp only at bc cq G;rw[cb (n:=2*slot) (by omega) (by omega),cb (n:=2+2*slot) (by omega) (by omega),cb (n:=3+2*slot) (by omega) (by omega)];have az:∀s:Int,(eN s).length=32:=fun s=>Cc _ _
 refine⟨by omega,by omega,by simp only[len,az];omega,⟨by simp only[len];omega,bc,cq,?_,?_⟩,D⟩
 ·simp only[len,cat,List.length_append,az];omega
 ·simp only[cat,lF,List.all_append,Bool.and_eq_true];exact⟨FP _ _ _ (by omega) (by omega),FP _ _ _ (by omega) (by omega)⟩

def Qo:a7
 |[.agg [.E (.list .int) ws,.E .int fu],.one (.E .int at_),.one (.E (.list .int) l)],[]=>some (some (e9 ⟨ws,fu⟩=0/\eW l),.ao [.agg [af (jr ⟨ws,fu⟩ at_ l).1.words,A (jr ⟨ws,fu⟩ at_ l).1.fuel],.one (A (jr ⟨ws,fu⟩ at_ l).2)],[])
 |_,_=>none

theorem Yu:bo 176 Qo:=b2 0 (((bn.f Yt).f Nt).f BX) Tryz.func176 (by kernel_rfl) fun vs au=>by
 unfold Qo;split;rotate_left;trivial;rename_i ws fu at_ l;dsimp only[z.den]at ws fu at_ l;refine⟨by kernel_rfl,fun ad K D=>?_⟩;obtain⟨aA,av⟩:=ad;obtain⟨bp,bc,cq,dq⟩:=jx aA;obtain⟨hE,gv⟩:=rQ bp;simp only at bc cq hE gv;refine⟨1,?_⟩;obtain⟨cn,hx⟩:∃cn,cn=K (.ao [.agg [af [],A (0:Int)],.one (A 5)]) []:=⟨_,rfl⟩
 refine cf (fun rec=>(by subst hx;kernel_rfl:_=(
  J (aL at_ 0)
  cn
  (J (aL (len ws:Int) at_)
  cn
  (J (aL (U ((len ws:Int)-at_)) (len l:Int))
  cn
  (List.length l<=140737488355328 /\
  J (!(cC l))
  (K (.ao [.agg [af [],A (0:Int)],.one (A 3)]) [])
  (((0:Int)<=at_/\at_<=1000/\len l<=1000) /\
  (len ws<=192/\(-1)<=fu/\fu<=100000/\len (cE at_ l)<=1000/\lF (List.length ws) (cE at_ l)=true) /\
  K (.ao [.agg [af (cc ⟨ws,fu⟩ (cE at_ l)).fst.words,A (cc ⟨ws,fu⟩ (cE at_ l)).fst.fuel],.one (A (ko (cc ⟨ws,fu⟩ (cE at_ l)).snd))]) []))))))) ?_
 subst hx;unfold jr at D;rw[if_pos aA]at D;have kB:¬(0<=at_/\at_<=(ws.length:Int)/\(l.length:Int)<=ws.length-at_)->K (.ao [.agg [af [],A 0],.one (A 5)]) []:=fun aq=>by
  rw[if_neg aq]at D;exact D
 simp only[len];refine bq (fun I=>kB (by omega)) (fun I=>bq (fun G=>kB (by omega)) (fun G=>?_));rw[cb (by omega) (by omega)];refine bq (fun Y=>kB (by omega)) (fun Y=>⟨av,ew (fun aS=>?_) (fun aS=>?_)⟩)
 ·rw[if_pos ⟨I,G,Y⟩,if_neg (by rw[aS];simp)]at D;exact D
 ·rw[if_pos ⟨I,G,Y⟩,if_pos aS]at D;exact⟨⟨I,by omega,by first|omega|(simp only[len];omega)⟩,⟨gv,bc,cq,by rw[mq];omega,w7 _ _ _ I (by omega)⟩,D⟩

def Qs:a7
 |[.agg [.E (.list .int) ws,.E .int fu],.one (.E .int slot),.one (.E .int at_),.one (.E (.list .int) l)],[]=>some (some (eX ⟨ws,fu⟩ slot=0/\eW l),.ao [.agg [af (fa ⟨ws,fu⟩ slot at_ l).1.words,A (fa ⟨ws,fu⟩ slot at_ l).1.fuel],.one (A (fa ⟨ws,fu⟩ slot at_ l).2)],[])
 |_,_=>none

theorem ak3:bo 128 Qs:=b2 0 (bn.f Yu) Tryz.func128 (by kernel_rfl) fun vs au=>by
 unfold Qs;split;rotate_left;trivial;rename_i ws fu slot at_ l;dsimp only[z.den]at ws fu slot at_ l;refine⟨by kernel_rfl,fun ad K D=>?_⟩;obtain⟨h,az⟩:=ad;refine⟨1,?_⟩;obtain⟨v1,b9⟩:∃v1,v1=jr (⟨ws,fu⟩:cp) (U (U (U ((64:Int)+U ((64:Int)*slot))+4)+at_)) l:=⟨_,rfl⟩
 obtain⟨aC,cT⟩:∃aC,aC=K (.ao [.agg [af [],A (0:Int)],.one (A 2)]) []:=⟨_,rfl⟩
 refine cf (fun rec=>(by subst cT b9;kernel_rfl:_=(
  J (aL at_ 0)
  aC
  (J (aL 40 at_)
  aC
  (J (aL (U ((40:Int)-at_)) (len l:Int))
  aC
  ((e9 (⟨ws,fu⟩:cp)=(0:Int)/\List.length l<=140737488355328) /\
  K (.ao [.agg [af v1.fst.words,A v1.fst.fuel],.one (A v1.snd)]) [])))))) ?_
 subst cT b9;unfold fa at D;rw[if_pos h]at D;obtain⟨I,G,Y⟩:=r9 h;simp only[len];refine bq (fun aS=>?_) (fun aS=>bq (fun bj=>?_) (fun bj=>?_))
 ·rw[if_neg (by omega)]at D;exact D
 ·rw[if_neg (by omega)]at D;exact D
 rw[cb (n:=40-at_) (by omega) (by omega)];refine bq (fun bK=>?_) (fun bK=>?_)
 ·rw[if_neg (by omega)]at D;exact D
 rw[cb (n:=64*slot) (by omega) (by omega),cb (n:=64+64*slot) (by omega) (by omega),cb (n:=64+64*slot+4) (by omega) (by omega),cb (by omega) (by omega),show 64+64*slot+4+at_=68+64*slot+at_ by omega];rw[if_pos (by omega)]at D;exact⟨⟨I,az⟩,D⟩

def Qt:a7
 |[.agg [.E (.list .int) ws,.E .int fu],.one (.E .int slot),.one (.E .int dr),.one (.E .int name)],[]=>some (some (eX ⟨ws,fu⟩ slot=0),.ao [.agg [af (gn ⟨ws,fu⟩ slot dr name).1.words,A (gn ⟨ws,fu⟩ slot dr name).1.fuel],.one (A (gn ⟨ws,fu⟩ slot dr name).2)],[])
 |_,_=>none

theorem ak4:bo 129 Qt:=b2 0 (bn.f Yu) Tryz.func129 (by kernel_rfl) fun vs au=>by
 unfold Qt;split;rotate_left;trivial;rename_i ws fu slot dr name;dsimp only[z.den]at ws fu slot dr name;refine⟨by kernel_rfl,fun ad K D=>?_⟩;refine⟨1,?_⟩;obtain⟨v1,b9⟩:∃v1,v1=jr (⟨ws,fu⟩:cp) (U ((64:Int)+U ((64:Int)*slot))) (dr::name::U ((65535:Int)-dr)::U ((65535:Int)-name)::[]):=⟨_,rfl⟩
 obtain⟨aC,cT⟩:∃aC,aC=K (.ao [.agg [af [],A (0:Int)],.one (A 3)]) []:=⟨_,rfl⟩
 refine cf (fun rec=>(by subst cT b9;kernel_rfl:_=(
  J (aL dr 1)
  aC
  (J (aL 40 dr)
  aC
  (J (aL name 1)
  aC
  (J (aL 60 name)
  aC
  ((e9 (⟨ws,fu⟩:cp)=(0:Int)/\List.length (dr::name::U ((65535:Int)-dr)::U ((65535:Int)-name)::[])<=140737488355328) /\
  K (.ao [.agg [af v1.fst.words,A v1.fst.fuel],.one (A v1.snd)]) []))))))) ?_
 subst cT b9;unfold gn at D;rw[if_pos ad]at D;obtain⟨I,G,Y⟩:=r9 ad;have three:¬(1<=dr/\dr<=40/\1<=name/\name<=60)->K (.ao [.agg [af [],A 0],.one (A 3)]) []:=fun aq=>by
  rw[if_neg (by simp only[lI,Bool.and_eq_true,decide_eq_true_eq];omega)]at D;exact D
 refine bq (fun aS=>three (by omega)) (fun aS=>bq (fun bj=>three (by omega)) (fun bj=>bq (fun bK=>three (by omega)) (fun bK=>bq (fun c4=>three (by omega)) (fun c4=>?_))));rw[if_pos (by simp only[lI,Bool.and_eq_true,decide_eq_true_eq];omega)]at D;rw[cb (n:=65535-dr) (by omega) (by omega),cb (n:=65535-name) (by omega) (by omega),cb (n:=64*slot) (by omega) (by omega),cb (n:=64+64*slot) (by omega) (by omega)];exact⟨⟨I,by simp only[List.length_cons,List.length_nil];omega⟩,D⟩

def Qu:a7
 |[.agg [.E (.list .int) ws,.E .int fu],.one (.E .int slot)],[]=>some (some (eX ⟨ws,fu⟩ slot=0),.ao [.one (af (ni ws slot).1),.one (A (ni ws slot).2)],[])
 |_,_=>none

theorem ak5:bo 130 Qu:=b2 0 bn Tryz.func130 (by kernel_rfl) fun vs au=>by
 unfold Qu;split;rotate_left;trivial;rename_i ws fu slot;dsimp only[z.den]at ws fu slot;refine⟨by kernel_rfl,fun ad K D=>?_⟩;refine⟨1,?_⟩;refine cf (fun rec=>(by kernel_rfl:_=(
  ((0:Int)<=U ((64:Int)+U ((64:Int)*slot))/\U ((64:Int)+U ((64:Int)*slot))<=(len ws:Int)/\(len ws:Int)<=(len ws:Int)) /\
  ((0:Int)<=(0:Int)/\(0:Int)<(((len (aW ws (Int.toNat (U ((64:Int)+U ((64:Int)*slot)))) (Int.toNat (len ws:Int)))):Nat):Int)) /\
  ((0:Int)<=(1:Int)/\(1:Int)<(((len (aW ws (Int.toNat (U ((64:Int)+U ((64:Int)*slot)))) (Int.toNat (len ws:Int)))):Nat):Int)) /\
  J (aL (nth (aW ws (Int.toNat (U ((64:Int)+U ((64:Int)*slot)))) (Int.toNat (len ws:Int))) (Int.toNat 0) (z.H z.int)) 1)
  (K (.ao [.one (af []),.one (A 0)]) [])
  (J (aL 40 (nth (aW ws (Int.toNat (U ((64:Int)+U ((64:Int)*slot)))) (Int.toNat (len ws:Int))) (Int.toNat 0) (z.H z.int)))
  (K (.ao [.one (af []),.one (A 0)]) [])
  (J (aL (nth (aW ws (Int.toNat (U ((64:Int)+U ((64:Int)*slot)))) (Int.toNat (len ws:Int))) (Int.toNat 1) (z.H z.int)) 1)
  (K (.ao [.one (af []),.one (A 0)]) [])
  (J (aL 60 (nth (aW ws (Int.toNat (U ((64:Int)+U ((64:Int)*slot)))) (Int.toNat (len ws:Int))) (Int.toNat 1) (z.H z.int)))
  (K (.ao [.one (af []),.one (A 0)]) [])
  (((0:Int)<=(2:Int)/\(2:Int)<(((len (aW ws (Int.toNat (U ((64:Int)+U ((64:Int)*slot)))) (Int.toNat (len ws:Int)))):Nat):Int)) /\
  J (!(ar (U (nth (aW ws (Int.toNat (U ((64:Int)+U ((64:Int)*slot)))) (Int.toNat (len ws:Int))) (Int.toNat 0) (z.H z.int)+nth (aW ws (Int.toNat (U ((64:Int)+U ((64:Int)*slot)))) (Int.toNat (len ws:Int))) (Int.toNat 2) (z.H z.int))) 65535))
  (K (.ao [.one (af []),.one (A 0)]) [])
  (((0:Int)<=(3:Int)/\(3:Int)<(((len (aW ws (Int.toNat (U ((64:Int)+U ((64:Int)*slot)))) (Int.toNat (len ws:Int)))):Nat):Int)) /\
  J (!(ar (U (nth (aW ws (Int.toNat (U ((64:Int)+U ((64:Int)*slot)))) (Int.toNat (len ws:Int))) (Int.toNat 1) (z.H z.int)+nth (aW ws (Int.toNat (U ((64:Int)+U ((64:Int)*slot)))) (Int.toNat (len ws:Int))) (Int.toNat 3) (z.H z.int))) 65535))
  (K (.ao [.one (af []),.one (A 0)]) [])
  (((0:Int)<=(4:Int)/\(4:Int)<=U ((4:Int)+nth (aW ws (Int.toNat (U ((64:Int)+U ((64:Int)*slot)))) (Int.toNat (len ws:Int))) (Int.toNat 0) (z.H z.int))/\U ((4:Int)+nth (aW ws (Int.toNat (U ((64:Int)+U ((64:Int)*slot)))) (Int.toNat (len ws:Int))) (Int.toNat 0) (z.H z.int))<=(((len (aW ws (Int.toNat (U ((64:Int)+U ((64:Int)*slot)))) (Int.toNat (len ws:Int)))):Nat):Int)) /\
  K (.ao [.one (af (aW (aW ws (Int.toNat (U ((64:Int)+U ((64:Int)*slot)))) (Int.toNat (len ws:Int))) (Int.toNat 4) (Int.toNat (U ((4:Int)+nth (aW ws (Int.toNat (U ((64:Int)+U ((64:Int)*slot)))) (Int.toNat (len ws:Int))) (Int.toNat 0) (z.H z.int)))))),.one (A (nth (aW ws (Int.toNat (U ((64:Int)+U ((64:Int)*slot)))) (Int.toNat (len ws:Int))) (Int.toNat 1) (z.H z.int)))]) []))))))))) ?_
 obtain⟨I,G,Y⟩:=r9 ad;obtain⟨_,_,_,dq⟩:=jx I;simp only at G dq;obtain⟨b,ay⟩:∃b,kW slot=b:=⟨_,rfl⟩
 have gC:(64+64*slot)=(b:Int):=by unfold kW at ay;omega
 rw[cb (n:=64*slot) (by omega) (by omega),cb (n:=64+64*slot) (by omega) (by omega),gC,show Int.toNat (((len ws):Nat):Int)=ws.length from rfl,cM];have hlen:(aW ws b ws.length).length=192-b:=by simp[aW];omega
 have fe:nth (aW ws b ws.length) (Int.toNat (0:Int)) (z.H z.int)=ws.getD b 0:=oa ws b ws.length 0 (by omega);have a1:nth (aW ws b ws.length) (Int.toNat (1:Int)) (z.H z.int)=ws.getD (b+1) 0:=oa ws b ws.length 1 (by omega);have bf:nth (aW ws b ws.length) (Int.toNat (2:Int)) (z.H z.int)=ws.getD (b+2) 0:=oa ws b ws.length 2 (by omega);have ck:nth (aW ws b ws.length) (Int.toNat (3:Int)) (z.H z.int)=ws.getD (b+3) 0:=oa ws b ws.length 3 (by omega);rw[fe,a1,bf,ck];simp only[len,hlen];unfold ni at D;simp only[ay]at D;have afp:=vV (nn dq b (by omega));have Bs:=vV (nn dq (b+1) (by omega));have Ev:=vV (nn dq (b+2) (by omega));have UT:=vV (nn dq (b+3) (by omega));have four:¬(lI (ws.getD b 0) (ws.getD (b+1) 0)=true/\ws.getD (b+2) 0=65535-ws.getD b 0/\ws.getD (b+3) 0=65535-ws.getD (b+1) 0)->K (.ao [.one (af []),.one (A 0)]) []:=fun aq=>by
  have:nt ws b=false:=by
   unfold nt;cases dd:lI (ws.getD b 0) (ws.getD (b+1) 0)
   ·rfl
   ·simp only[Bool.true_and,Bool.and_eq_false_iff,decide_eq_false_iff_not]
    by_cases c:ws.getD (b+2) 0=65535-ws.getD b 0
    ·exact .inr fun bc=>aq ⟨dd,c,bc⟩
    ·exact .inl c
  rw[this]at D;exact D
 have bH:lI (ws.getD b 0) (ws.getD (b+1) 0)=true↔(1<=ws.getD b 0/\ws.getD b 0<=40/\1<=ws.getD (b+1) 0/\ws.getD (b+1) 0<=60):=by
  simp only[lI,Bool.and_eq_true,decide_eq_true_eq];omega
 rw[bH]at four;refine⟨by omega,by omega,by omega,bq (fun aS=>four (by omega)) (fun aS=>bq (fun bj=>four (by omega)) (fun bj=>bq (fun bK=>four (by omega)) (fun bK=>bq (fun c4=>four (by omega)) (fun c4=>⟨by omega,?_⟩))))⟩;rw[cb (n:=ws.getD b 0+ws.getD (b+2) 0) (by omega) (by omega),cb (n:=ws.getD (b+1) 0+ws.getD (b+3) 0) (by omega) (by omega)];refine bG (fun dJ=>four (by omega)) (fun dJ=>⟨by omega,bG (fun hd=>four (by omega)) (fun hd=>?_)⟩);rw[cb (by omega) (by omega),show Int.toNat (4+ws.getD b 0)=4+(ws.getD b 0).toNat by omega,show Int.toNat (4:Int)=4 from rfl];have av:nt ws b=true:=by
  unfold nt;rw[bH.2 (by omega)];simp only[Bool.true_and,Bool.and_eq_true,decide_eq_true_eq];exact⟨by omega,by omega⟩
 rw[av]at D;rw[ajp _ _ _ _ _ (by omega),<- Nat.add_assoc];exact⟨by omega,D⟩

def P1:a7
 |[.one (.ptr 0 0),.one (.E (.list .int) r)],[.box [.E (.list .int) ws,.E .int fu,.E .bool up,.E .int bw,.E .int bz,.E .bool av]]=>some (some (dC ⟨ws,fu⟩=0/\eW r),.ao [],[.box [af (ff ⟨⟨ws,fu⟩,up,bw,bz⟩ r).1.f.words,A (ff ⟨⟨ws,fu⟩,up,bw,bz⟩ r).1.f.fuel,ax (ff ⟨⟨ws,fu⟩,up,bw,bz⟩ r).1.up,A (ff ⟨⟨ws,fu⟩,up,bw,bz⟩ r).1.n,A (ff ⟨⟨ws,fu⟩,up,bw,bz⟩ r).1.eG,ax (iy av (vU ⟨⟨ws,fu⟩,up,bw,bz⟩ r))]])
 |_,_=>none

theorem aka:bo 131 P1:=b2 1 (((bn.f X0).f YB).f Nl) Tryz.func131 (by kernel_rfl) fun vs au=>by
 unfold P1;split;rotate_left;trivial;rename_i r ws fu up bw bz av;refine⟨by kernel_rfl,fun ad K D=>?_⟩;refine⟨1,?_⟩;obtain⟨v1,b9⟩:∃v1,v1=c5 ⟨ws,fu⟩:=⟨_,rfl⟩
 obtain⟨v3,ed⟩:∃v3,v3=fE ⟨ws,fu⟩ r (cat (((1:Int)::v1.slot::v1.e2::[])::[]) (((2:Int)::v1.ready::[])::[])):=⟨_,rfl⟩
 obtain⟨v4,e5⟩:∃v4,v4=e8 ⟨⟨ws,fu⟩,up,bw,bz⟩ v3.fst v3.snd:=⟨_,rfl⟩
 obtain⟨dy,iL⟩:∃dy,dy=fE ⟨ws,fu⟩ r (((1:Int)::v1.slot::v1.e2::[])::[]):=⟨_,rfl⟩
 obtain⟨cR,kH⟩:∃cR,cR=e8 ⟨⟨ws,fu⟩,up,bw,bz⟩ dy.fst dy.snd:=⟨_,rfl⟩
 refine cf (fun rec=>(by subst kH iL e5 ed b9;kernel_rfl:_=(
  dC ⟨ws,fu⟩=(0:Int) /\
  J (!(ar v1.ready 0))
  ((len (((1:Int)::v1.slot::v1.e2::[])::[])+len (((2:Int)::v1.ready::[])::[]))*24<=140737488355328 /\
  (dC ⟨ws,fu⟩=(0:Int)/\List.length r<=140737488355328/\len (cat (((1:Int)::v1.slot::v1.e2::[])::[]) (((2:Int)::v1.ready::[])::[]))*24<=140737488351232/\hB (cat (((1:Int)::v1.slot::v1.e2::[])::[]) (((2:Int)::v1.ready::[])::[]))=true) /\
  K (.ao []) [.box [af v4.fst.f.words,A v4.fst.f.fuel,ax v4.fst.up,A v4.fst.n,A v4.fst.eG,ax (iy av v3.snd)]])
  ((dC ⟨ws,fu⟩=(0:Int)/\List.length r<=140737488355328/\len (((1:Int)::v1.slot::v1.e2::[])::[])*24<=140737488351232/\hB (((1:Int)::v1.slot::v1.e2::[])::[])=true) /\
  K (.ao []) [.box [af cR.fst.f.words,A cR.fst.f.fuel,ax cR.fst.up,A cR.fst.n,A cR.fst.eG,ax (iy av dy.snd)]])))) ?_
 subst kH iL e5 ed b9;obtain⟨e0,fj⟩:=ad;obtain⟨⟨ia,iP⟩,⟨jf,kf⟩,gm,hH⟩:=xT ⟨ws,fu⟩;unfold ff vU oO at D;simp only at D;refine⟨e0,bG (fun h=>⟨by simp[len],⟨e0,fj,by simp[len,cat],rfl⟩,?_⟩) (fun h=>⟨⟨e0,fj,by simp[len],rfl⟩,?_⟩)⟩
 ·rw[if_pos (by omega)]at D;exact D
 ·rw[if_neg (by omega)]at D;exact D
end
end Go.Proofs.YtlbppjmekiemiabGreatDoor
