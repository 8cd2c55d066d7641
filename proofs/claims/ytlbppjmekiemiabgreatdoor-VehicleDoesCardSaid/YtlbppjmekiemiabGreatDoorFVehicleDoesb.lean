/- What the functions of VehicleDoes compute (part 2 of 5). No condition. -/
import Derived.Test.YtlbppjmekiemiabGreatDoorFVehicleDoesa
import Derived.KernelRfl
namespace Go.Proofs.YtlbppjmekiemiabGreatDoor
noncomputable section
open bF
set_option maxHeartbeats 4000000
variable (cz up:Bool) (fu i j k bB ch mk bb ba n now fT slot dk fQ aj ak al bz bw x:Int) (b aJ:cD) (ab aa:da) (l bQ ah ws:aK) (cs:c3) (W:cF) (vs:cG) (us:cZ)
def G0:a7
 |[.one (.E (.list .int) l),.one (.fn f [])],[]=>(match Nat.beq f 188 with|true=>some (some (eW l),.one (A (mz l)),[])|false=>none)
 |_,_=>none
def Ck:Ctx:=[(188,CR)]
theorem afH:fr Tryz.prog tab Ck:=(bn.f Nf)
def yj:List cu:=[.inLoop [8,7,4,0,1] (cy vk [1,0,1,0,0]),.inBlock 0,.code (cy vk [1,1])]
def LJ(F ai M:Int)(ag:aK):bO:=⟨[(8,.one (A F)),(7,.one (A ai)),(4,.one (A M)),(0,.one (af ag)),(1,.one (.fn 188 []))],[],0⟩
theorem ahk(l:aK)(rec:bV)(K:aU):b5 Ck tab vk 0 K rec [.code (bR vk)] (df [.one (af l),.one (.fn 188 [])] [])=(
 rec yj (LJ 0 (len l:Int) 0 l)):=by kernel_rfl
theorem VK{F:Int}{rec:bV}{K:aU}{ai M ag}{v1 v0}(b9:v1=fun a=>LJ a ai M ag)(bX:v0=eR (nth ag (Int.toNat F) (z.H z.int))):b5 Ck tab vk 0 K rec (cU yj) (v1 F)=(
 J (aL F ai)
 (((0:Int)<=F/\F<(len ag:Int)) /\
 J (!v0)
 (K (.one (A F)) [])
 (rec yj (v1 (U (F+1)))))
 (K (.one (A (-1))) [])):=by subst_vars;kernel_rfl

theorem T2(l:aK)(av:eW l)(K:aU):∀(d k:Nat),k+d=l.length->K (.one (A (mA k (l.drop k)))) [] ->
  co Ck tab vk 0 K (d+1) yj (LJ (k:Int) (((len l):Nat):Int) 0 l)
 |0,k,ae,D=>by
  rw[bW (L:=yj),VK rfl rfl];refine ci (by simp only[len];omega) ?_;rw[List.drop_of_length_le (by omega)]at D;exact D
 |d+1,k,ae,D=>by
  have oJ:=av;unfold eW at oJ;rw[bW (L:=yj),VK rfl rfl];rw[ee (by omega) (z.H z.int)]at D;simp only[mA]at D;refine cV (by simp only[len];omega) ⟨⟨by omega,by simp only[len];omega⟩,ew (fun h=>?_) (fun h=>?_)⟩
  ·rw[cM]at h;rw[if_neg (by rw[h];simp)]at D;exact D
  ·rw[cM]at h;rw[if_pos h]at D;rw[di (by omega)];exact T2 l av K d (k+1) (by omega) D
theorem aiD(ad:eW l)(K:aU)(D:K (.one (A (mz l))) []):ku Ck vk 0 K [.one (af l),.one (.fn 188 [])] []:=by
 refine⟨l.length+2,?_⟩;rw[eB,ahk _ _ _];exact T2 l ad K l.length 0 (by omega) D
theorem ajW:bo 210 G0:=hj afH Tryz.func210 (by kernel_rfl) (by
 intro vs au p v du h ad;unfold G0 at h;split at h
 ·split at h
  ·rename_i dW;have dW:=Nat.eq_of_beq_eq_true dW;subst dW;cases h;exact⟨by kernel_rfl,rfl,.inl (aiD _ ad.1 _ ⟨rfl,rfl⟩)⟩
  ·cases h
 ·cases h)

def PW:a7
 |[.one (.E (.list .int) l),.one (.fn f [])],[]=>(match Nat.beq f 188 with|true=>some (some (eW l),.one (ax (!cC l)),[])|false=>none)
 |_,_=>none
def Ol:Ctx:=[(210,G0),(188,CR)]
theorem afJ:fr Tryz.prog tab Ol:=((bn.f Nf).f ajW)
theorem ahq(l:aK)(rec:bV)(K:aU) v0 (bX:v0=mz l):b5 Ol tab Tryz.f187 0 K rec [.code (bR Tryz.f187)] (df [.one (af l),.one (.fn 188 [])] [])=(
 List.length l<=140737488355328 /\
 K (.one (ax (dh 0 v0))) []):=by subst_vars;kernel_rfl

theorem Rs:∀(l:aK) (k:Int),0<=k->dh 0 (mA k l)=!cC l
 |[],k,ae=>by simp[mA,cC,dh]
 |w::l,k,ae=>by
  simp only[mA,cC,List.all_cons];cases h:eR w with
  |true=>simpa[cC]using Rs l (k+1) (by omega)
  |false=>simp[dh,ae]
theorem aiI(ad:eW l)(K:aU)(D:K (.one (ax (!cC l))) []):∃m,co Ol tab Tryz.f187 0 K m [.code (bR Tryz.f187)] (df [.one (af l),.one (.fn 188 [])] []):=by
 refine⟨1,?_⟩;rw[eB,ahq _ _ _ _ rfl];refine⟨ad,?_⟩;rw[show dh 0 (mz l)=!cC l from Rs l 0 (by omega)];exact D
theorem aj3:bo 187 PW:=hj afJ Tryz.func187 (by kernel_rfl) (by
 intro vs au p v du h ad;unfold PW at h;split at h
 ·split at h
  ·rename_i dW;have dW:=Nat.eq_of_beq_eq_true dW;subst dW;cases h;exact⟨by kernel_rfl,rfl,.inl (aiI _ ad.1 _ ⟨rfl,rfl⟩)⟩
  ·cases h
 ·cases h)

def Ib:a7
 |[.one (.E (.list .int) l)],[]=>some (some (eW l),.one (A (gw l)),[])
 |_,_=>none

theorem ak7:bo 152 Ib:=b2 0 ((bn.f Nf).f aj3) Tryz.func152 (by kernel_rfl) fun vs au=>by
 unfold Ib;split;rotate_left;trivial;rename_i l;refine⟨by kernel_rfl,fun ad K D=>?_⟩;refine⟨1,?_⟩;refine cf (fun rec=>(by kernel_rfl:_=(
  J (ar (len l:Int) 0)
  (K (.one (A 2)) [])
  (J (aL 4 (len l:Int))
  (K (.one (A 2)) [])
  (List.length l<=140737488355328 /\
  J (!(cC l))
  (K (.one (A 3)) [])
  (K (.one (A 0)) [])))))) ?_
 unfold gw at D;refine cI (fun h=>?_) (fun h=>bq (fun G=>?_) (fun G=>⟨ad,ew (fun Y=>?_) (fun Y=>?_)⟩))
 ·rw[if_neg (by simp only[len]at h;omega)]at D;exact D
 ·rw[if_neg (by simp only[len]at G;omega)]at D;exact D
 ·rw[if_pos (by simp only[len]at h G;omega),if_neg (by rw[Y];simp)]at D;exact D
 ·rw[if_pos (by simp only[len]at h G;omega),if_pos Y]at D;exact D

def H7:a7
 |[.one (.E (.list (.list .int)) l)],[]=>some (some (len l*24<=140737488355328),.one (.own 0),[.arr (.list .int) l])
 |_,_=>none

theorem akZ:bo 153 H7:=mW 0 bn Tryz.func153 (by kernel_rfl) fun vs au=>by
 unfold H7;split;rotate_left;trivial;rename_i l;refine⟨by kernel_rfl,fun ad K D=>?_⟩;refine⟨1,?_⟩;refine k4 (fun rec=>(by kernel_rfl:_=(
  (∀fF:Bool,(fF=true->len l=0)->J fF
  (K (.one (.own 0)) [.arr (z.list z.int) []])
  ((0+len l)*24<=140737488355328 /\
  K (.one (.own 0)) [.arr (z.list z.int) (cat [] l)]))))) ?_
 intro fF ay;refine b3 (fun h=>?_) (fun h=>⟨by simp only[len]at ad |-; omega,D⟩);have:l=[]:=List.length_eq_zero_iff.1 (ay h);subst this;exact D

def Qv:a7
 |[.one (.E .int n)],[]=>some (some (0<=n/\n<=255),.one (A (42240+n)),[])
 |_,_=>none

theorem ak6:bo 189 Qv:=b2 0 bn Tryz.func189 (by kernel_rfl) fun vs au=>by
 unfold Qv;split;rotate_left;trivial;rename_i n;refine⟨by kernel_rfl,fun ad K D=>?_⟩;refine⟨1,?_⟩;refine cf (fun rec=>(by kernel_rfl:_=(
  K (.one (A (Bz 42240 n))) []))) ?_
 rw[agK ad.1 ad.2];exact D

def Ic:a7
 |[.one (.E (.list .int) l)],[]=>some (some (len l<=255),.one (af (mU l)),[])
 |_,_=>none

theorem ak8:bo 154 Ic:=b2 0 (bn.f ak6) Tryz.func154 (by kernel_rfl) fun vs au=>by
 unfold Ic;split;rotate_left;trivial;rename_i l;refine⟨by kernel_rfl,fun ad K D=>?_⟩;refine⟨1,?_⟩;refine cf (fun rec=>(by kernel_rfl:_=(
  ((0:Int)<=(len l:Int)/\(len l:Int)<=(255:Int)) /\
  (len (((42240:Int)+(len l:Int))::[])+len l)*8<=140737488355328 /\
  K (.one (af (cat (((42240:Int)+(len l:Int))::[]) l))) []))) ?_
 exact⟨⟨by omega,by omega⟩,by simp only[len,List.length_cons,List.length_nil]at ad |-; omega,D⟩

def Aa:a7
 |[.one (.ptr 0 0)],[.box [.own 1,.E .int fu],.arr .int ws]=>some (some (fu<=100000),.one (ax (!ar fu 0)),[.box [.own 1,A (kX fu)],.arr .int ws])
 |_,_=>none
def OI:Ctx:=[]
theorem af2:fr Tryz.prog tab OI:=bn
theorem ah4(ws:aK)(fu:Int)(rec:bV)(K:aU):b5 OI tab Tryz.f184 2 K rec [.code (bR Tryz.f184)] (df [.one (.ptr 0 0)] [.box [.own 1,A fu],.arr z.int ws])=(
 J (ar fu 0)
 (K (.one (ax false)) [.box [.own 1,A fu],.arr z.int ws])
 (J (aL 0 fu)
 (K (.one (ax true)) [.box [.own 1,A (U (fu-1))],.arr z.int ws])
 (K (.one (ax true)) [.box [.own 1,A fu],.arr z.int ws]))):=by kernel_rfl

theorem ai3(ad:fu<=100000)(K:aU)(D:K (.one (ax (!ar fu 0))) [.box [.own 1,A (kX fu)],.arr .int ws]):∃m,co OI tab Tryz.f184 2 K m [.code (bR Tryz.f184)] (df [.one (.ptr 0 0)] [.box [.own 1,A fu],.arr .int ws]):=by
 refine⟨1,?_⟩;rw[eB,ah4 _ _ _ _];refine cI (fun h=>?_) (fun h=>bq (fun G=>?_) (fun G=>?_))
 ·rw[show(!ar fu 0)=false from by simp[ar,h],show kX fu=fu from by simp[kX,h]]at D;exact D
 ·rw[show(!ar fu 0)=true from by simp[ar,h],show kX fu=fu-1 from by simp[kX,G]]at D;rw[cb (by omega) (by omega)];exact D
 ·rw[show(!ar fu 0)=true from by simp[ar,h],show kX fu=fu from by simp only[kX];rw[if_neg (by omega)]]at D;exact D
theorem Nu:bo 184 Aa:=hj af2 Tryz.func184 (by kernel_rfl) (by
 intro vs au p v du h ad;unfold Aa at h;split at h
 ·cases h;exact⟨by kernel_rfl,rfl,.inl (ai3 _ _ ad.1 _ ⟨rfl,rfl⟩)⟩
 ·cases h)

def Is:a7
 |[.one (.ptr 0 0),.one (.E .int at_),.one (.own 1)],[.box [.own 2,.E .int fu],.arr .int l,.arr .int ws]=>some (some (-1<=fu/\fu<=100000/\0<=at_/\at_+(len l:Nat)<=(len ws:Nat)/\len ws<=192),.one (ax (cc ⟨ws,fu⟩ (cE at_ l)).2),[.box [.own 2,A (cc ⟨ws,fu⟩ (cE at_ l)).1.fuel],.arr .int l,.arr .int (cc ⟨ws,fu⟩ (cE at_ l)).1.words])
 |_,_=>none
def F7:Ctx:=[(184,Aa)]
def za:List cu:=[.inLoop [11,10,9,6,0,1] (cy pq [1,0,1,0,0]),.inBlock 0,.code (cy pq [1,1])]
def MJ(F ai:Int)(M:Bool)(ag an:Int)(aE aI:aK):bO:=⟨[(11,.one (A F)),(10,.one (A ai)),(9,.one (.own 1)),(6,.one (ax M)),(0,.one (.ptr 0 0)),(1,.one (A ag))],[(0,.box [.own 2,A an]),(1,.arr z.int aE),(2,.arr z.int aI)],3⟩
theorem aif(ws:aK)(fu at_:Int)(l:aK)(rec:bV)(K:aU):b5 F7 tab pq 3 K rec [.code (bR pq)] (df [.one (.ptr 0 0),.one (A at_),.one (.own 1)] [.box [.own 2,A fu],.arr z.int l,.arr z.int ws])=(
 rec za (MJ 0 (len l:Int) false at_ fu l ws)):=by kernel_rfl
theorem WV{F an:Int}{aI:aK}{rec:bV}{K:aU}{ai M ag aE}{v1 v0}(b9:v1=fun a b c=>MJ a ai M ag b aE c)(bX:v0=kX an):b5 F7 tab pq 3 K rec (cU za) (v1 F an aI)=(
 J (aL F ai)
 (((0:Int)<=F/\F<(len aE:Int)) /\
 Int.toNat F<len aE /\
 an<=100000 /\
 J (!(!(ar an 0)))
 (K (.one (ax false)) [.box [.own 2,A v0],.arr z.int aE,.arr z.int aI])
 (((0:Int)<=U (ag+F)/\U (ag+F)<(len aI:Int)) /\
 Int.toNat (U (ag+F))<len aI /\
 ((0:Int)<=U (ag+F)/\U (ag+F)<(len aI:Int)) /\
 Int.toNat (U (ag+F))<len aI /\
 rec za (v1 (U (F+1)) v0 (setAt aI (Int.toNat (U (ag+F))) (q4 (nth aI (Int.toNat (U (ag+F))) (z.H z.int)) (nth aE (Int.toNat F) (z.H z.int)))))))
 (K (.one (ax true)) [.box [.own 2,A an],.arr z.int aE,.arr z.int aI])):=by subst_vars;kernel_rfl

theorem Uy(at_:Int)(av:0<=at_)(l:aK)(K:aU):∀(n:Nat) (k:Nat) (ws:aK) (fu:Int),k+n=l.length->-1<=fu->fu<=100000->at_+(l.length:Nat)<=(ws.length:Nat)->ws.length<=192 ->
  K (.one (ax (cc ⟨ws,fu⟩ (cE (at_+k) (l.drop k))).2)) [.box [.own 2,A (cc ⟨ws,fu⟩ (cE (at_+k) (l.drop k))).1.fuel],.arr .int l,.arr .int (cc ⟨ws,fu⟩ (cE (at_+k) (l.drop k))).1.words] ->
  co F7 tab pq 3 K (n+1) za (MJ (k:Int) (((len l):Nat):Int) false at_ fu l ws)
 |0,k,ws,fu,ae,I,G,Y,aS,D=>by
  rw[bW (L:=za),WV rfl rfl];refine ci (by simp only[len];omega) ?_;rw[List.drop_of_length_le (by omega)]at D;simp only[cE,IV]at D;exact D
 |n+1,k,ws,fu,ae,I,G,Y,aS,D=>by
  rw[bW (L:=za),WV rfl rfl];rw[cb (n:=at_+k) (by omega) (by omega)];rw[ee (by omega) (z.H z.int)]at D;simp only[cE,IQ]at D;refine cV (by simp only[len];omega) ⟨⟨by omega,by simp only[len];omega⟩,by simp only[len];omega,G,?_⟩
  by_cases a2:fu=0
  ·subst a2;refine gk (by simp[ar]) ?_;simp only[if_true]at D;exact D
  ·rw[if_neg a2]at D;refine e7 (by simp[ar,a2]) ⟨⟨by omega,by simp only[len];omega⟩,by simp only[len];omega,⟨by omega,by simp only[len];omega⟩,by simp only[len];omega,?_⟩;rw[di (by omega)];refine Uy at_ av l K n (k+1) _ _ (by omega) ?_ ?_ (by simpa[setAt]using Y) (by simpa[setAt]using aS) ?_
   ·unfold kX;split<;>omega
   ·unfold kX;split<;>omega
   ·rw[show at_+((k+1:Nat):Int)=at_+k+1 by omega];exact D
theorem ND:bo 147 Is:=b2 (Γ:=F7) 3 (bn.f Nu) Tryz.func147 (by kernel_rfl) fun vs au=>by
 unfold Is;split;rotate_left;trivial;rename_i at_ fu l ws;refine⟨by kernel_rfl,fun ad K D=>?_⟩;obtain⟨I,G,Y,aS,bj⟩:=ad;refine⟨l.length+2,?_⟩;rw[eB,aif _ _ _ _ _ _];exact Uy at_ Y l K l.length 0 ws fu (by omega) I G aS bj (by simpa using D)

def GG:a7
 |[.one (.ptr 0 0),.one (.E .int at_),.one (.E (.list .int) l)],[.box [.own 1,.E .int fu],.arr .int ws]=>some (some (-1<=fu/\fu<=100000/\0<=at_/\at_+(len l:Nat)<=(len ws:Nat)/\len ws<=192),.one (ax (cc ⟨ws,fu⟩ (cE at_ l)).2),[.box [.own 1,A (cc ⟨ws,fu⟩ (cE at_ l)).1.fuel],.arr .int (cc ⟨ws,fu⟩ (cE at_ l)).1.words])
 |_,_=>none
def FT:Ctx:=[(184,Aa)]
def x5:List cu:=[.inLoop [11,10,9,6,0,1] (cy pq [1,0,1,0,0]),.inBlock 0,.code (cy pq [1,1])]
def Lt(F ai:Int)(M:aK)(ag:Bool)(an aE:Int)(aI:aK):bO:=⟨[(11,.one (A F)),(10,.one (A ai)),(9,.one (af M)),(6,.one (ax ag)),(0,.one (.ptr 0 0)),(1,.one (A an))],[(0,.box [.own 1,A aE]),(1,.arr z.int aI)],2⟩
theorem ag1(ws:aK)(fu at_:Int)(l:aK)(rec:bV)(K:aU):b5 FT tab pq 2 K rec [.code (bR pq)] (df [.one (.ptr 0 0),.one (A at_),.one (af l)] [.box [.own 1,A fu],.arr z.int ws])=(
 rec x5 (Lt 0 (len l:Int) l false at_ fu ws)):=by kernel_rfl
theorem Vu{F aE:Int}{aI:aK}{rec:bV}{K:aU}{ai M ag an}{v1 v0}(b9:v1=fun a b c=>Lt a ai M ag an b c)(bX:v0=kX aE):b5 FT tab pq 2 K rec (cU x5) (v1 F aE aI)=(
 J (aL F ai)
 (((0:Int)<=F/\F<(len M:Int)) /\
 aE<=100000 /\
 J (!(!(ar aE 0)))
 (K (.one (ax false)) [.box [.own 1,A v0],.arr z.int aI])
 (((0:Int)<=U (an+F)/\U (an+F)<(len aI:Int)) /\
 Int.toNat (U (an+F))<len aI /\
 ((0:Int)<=U (an+F)/\U (an+F)<(len aI:Int)) /\
 Int.toNat (U (an+F))<len aI /\
 rec x5 (v1 (U (F+1)) v0 (setAt aI (Int.toNat (U (an+F))) (q4 (nth aI (Int.toNat (U (an+F))) (z.H z.int)) (nth M (Int.toNat F) (z.H z.int)))))))
 (K (.one (ax true)) [.box [.own 1,A aE],.arr z.int aI])):=by subst_vars;kernel_rfl

theorem TK(at_:Int)(av:0<=at_)(l:aK)(K:aU):∀(n:Nat) (k:Nat) (ws:aK) (fu:Int),k+n=l.length->-1<=fu->fu<=100000->at_+(l.length:Nat)<=(ws.length:Nat)->ws.length<=192 ->
  K (.one (ax (cc ⟨ws,fu⟩ (cE (at_+k) (l.drop k))).2)) [.box [.own 1,A (cc ⟨ws,fu⟩ (cE (at_+k) (l.drop k))).1.fuel],.arr .int (cc ⟨ws,fu⟩ (cE (at_+k) (l.drop k))).1.words] ->
  co FT tab pq 2 K (n+1) x5 (Lt (k:Int) (((len l):Nat):Int) l false at_ fu ws)
 |0,k,ws,fu,ae,I,G,Y,aS,D=>by
  rw[bW (L:=x5),Vu rfl rfl];refine ci (by simp only[len];omega) ?_;rw[List.drop_of_length_le (by omega)]at D;simp only[cE,IV]at D;exact D
 |n+1,k,ws,fu,ae,I,G,Y,aS,D=>by
  rw[bW (L:=x5),Vu rfl rfl];rw[cb (n:=at_+k) (by omega) (by omega)];rw[ee (by omega) (z.H z.int)]at D;simp only[cE,IQ]at D;refine cV (by simp only[len];omega) ⟨⟨by omega,by simp only[len];omega⟩,G,?_⟩
  by_cases a2:fu=0
  ·subst a2;refine gk (by simp[ar]) ?_;simp only[if_true]at D;exact D
  ·rw[if_neg a2]at D;refine e7 (by simp[ar,a2]) ⟨⟨by omega,by simp only[len];omega⟩,by simp only[len];omega,⟨by omega,by simp only[len];omega⟩,by simp only[len];omega,?_⟩;rw[di (by omega)];refine TK at_ av l K n (k+1) _ _ (by omega) ?_ ?_ (by simpa[setAt]using Y) (by simpa[setAt]using aS) ?_
   ·unfold kX;split<;>omega
   ·unfold kX;split<;>omega
   ·rw[show at_+((k+1:Nat):Int)=at_+k+1 by omega];exact D
theorem M5:bo 147 GG:=b2 (Γ:=FT) 2 (bn.f Nu) Tryz.func147 (by kernel_rfl) fun vs au=>by
 unfold GG;split;rotate_left;trivial;rename_i at_ l fu ws;refine⟨by kernel_rfl,fun ad K D=>?_⟩;obtain⟨I,G,Y,aS,bj⟩:=ad;refine⟨l.length+2,?_⟩;rw[eB,ag1 _ _ _ _ _ _];exact TK at_ Y l K l.length 0 ws fu (by omega) I G aS bj (by simpa using D)

def Im:a7
 |[.one (.ptr 0 0),.one (.E .int dL)],[.box [.own 1,.E .int fu],.arr .int ws]=>some (some (-1<=fu/\fu<=100000/\0<=dL/\(dL+1)*32<=(len ws:Nat)/\len ws<=192),.one (ax (cc ⟨ws,fu⟩ (eN dL)).2),[.box [.own 1,A (cc ⟨ws,fu⟩ (eN dL)).1.fuel],.arr .int (cc ⟨ws,fu⟩ (eN dL)).1.words])
 |_,_=>none
def F5:Ctx:=[(184,Aa)]
def y5:List cu:=[.inLoop [6,4,0,1] (Code.sub (bR Tryz.f146) [1,0,1,0,0]),.inBlock 0,.code (Code.sub (bR Tryz.f146) [1,1])]
def ME(F:Int)(ai:Bool)(M ag:Int)(an:aK):bO:=⟨[(6,.one (A F)),(4,.one (ax ai)),(0,.one (.ptr 0 0)),(1,.one (A M))],[(0,.box [.own 1,A ag]),(1,.arr z.int an)],2⟩
theorem ah9(ws:aK)(fu dL:Int)(rec:bV)(K:aU):b5 F5 tab Tryz.f146 2 K rec [.code (bR Tryz.f146)] (df [.one (.ptr 0 0),.one (A dL)] [.box [.own 1,A fu],.arr z.int ws])=(
 rec y5 (ME 0 false dL fu ws)):=by kernel_rfl
theorem WN{F ag:Int}{an:aK}{rec:bV}{K:aU}{ai M}{v1 v0}(b9:v1=fun a b c=>ME a ai M b c)(bX:v0=kX ag):b5 F5 tab Tryz.f146 2 K rec (cU y5) (v1 F ag an)=(
 J (aL F 32)
 (ag<=100000 /\
 J (!(!(ar ag 0)))
 (K (.one (ax false)) [.box [.own 1,A v0],.arr z.int an])
 (((0:Int)<=U (U (M*32)+F)/\U (U (M*32)+F)<(len an:Int)) /\
 Int.toNat (U (U (M*32)+F))<len an /\
 rec y5 (v1 (U (F+1)) v0 (setAt an (Int.toNat (U (U (M*32)+F))) (65535:Int)))))
 (K (.one (ax true)) [.box [.own 1,A ag],.arr z.int an])):=by subst_vars;kernel_rfl

theorem Ut(dL:Int)(av:0<=dL)(K:aU):∀(n:Nat) (ws:aK) (fu:Int),n<=32->-1<=fu->fu<=100000->(dL+1)*32<=(ws.length:Nat)->ws.length<=192 ->
  K (.one (ax (cc ⟨ws,fu⟩ (hn (32*dL+(32-n)) n)).2)) [.box [.own 1,A (cc ⟨ws,fu⟩ (hn (32*dL+(32-n)) n)).1.fuel],.arr .int (cc ⟨ws,fu⟩ (hn (32*dL+(32-n)) n)).1.words] ->
  co F5 tab Tryz.f146 2 K (n+1) y5 (ME (32-n) false dL fu ws)
 |0,ws,fu,aq,I,G,Y,aS,D=>by
  rw[bW (L:=y5),WN rfl rfl];refine ci (by omega) ?_;simp only[hn,IV]at D;exact D
 |n+1,ws,fu,aq,I,G,Y,aS,D=>by
  rw[bW (L:=y5),WN rfl rfl];have aN:U ((U (dL*32))+(32-((n+1:Nat):Int)))=32*dL+(32-((n+1:Nat):Int)):=by
   rw[cb (n:=dL*32) (by omega) (by omega),cb (by omega) (by omega)];omega
  rw[aN];simp only[hn,IQ]at D;refine cV (by omega) ⟨G,?_⟩
  by_cases a2:fu=0
  ·subst a2;refine gk (by simp[ar]) ?_;simp only[if_true]at D;exact D
  ·rw[if_neg a2]at D;refine e7 (by simp[ar,a2]) ⟨⟨by omega,by simp only[len];omega⟩,by simp only[len];omega,?_⟩;rw[cb (by omega) (by omega),show(32-((n+1:Nat):Int))+1=32-(n:Int)by omega];refine Ut dL av K n _ _ (by omega) ?_ ?_ (by simp[setAt];omega) (by simpa[setAt]using aS) ?_
   ·unfold kX;split<;>omega
   ·unfold kX;split<;>omega
   ·rw[show(32*dL+(32-((n+1:Nat):Int)))+1=32*dL+(32-(n:Int))by omega]at D;exact D
theorem Nz:bo 146 Im:=b2 (Γ:=F5) 2 (bn.f Nu) Tryz.func146 (by kernel_rfl) fun vs au=>by
 unfold Im;split;rotate_left;trivial;rename_i dL fu ws;refine⟨by kernel_rfl,fun ad K D=>?_⟩;obtain⟨I,G,Y,aS,bj⟩:=ad;refine⟨34,?_⟩;rw[eB,ah9 _ _ _ _ _];exact Ut dL Y K 32 ws fu (by omega) I G (by simpa[len]using aS) bj (by simpa[eN]using D)

def C8:a7
 |[.agg [.E (.list .int) ws,.E .int fu],.one (.E (.list .int) r),.one (.E (.list (.list .int)) b4)],[]=>some (some (eW r/\len b4*24<=140737488351232/\hB b4=true),.ao [.agg [af (fE ⟨ws,fu⟩ r b4).1.words,A (fE ⟨ws,fu⟩ r b4).1.fuel],.one (A (fE ⟨ws,fu⟩ r b4).2)],[])
 |_,_=>none
def F4:Ctx:=[(110,Ih),(152,Ib),(153,H7),(154,Ic),(155,Ie),(132,Ij),(156,(Cb Ig)),(147,(EF GG Is)),(146,Im)]
def wg:List cu:=[.inLoop [40,39,38,10,7,6,3,1] (Code.sub (bR Tryz.f97) [1,1,1,1,0,1,0,0]),.inBlock 0,.code (Code.sub (bR Tryz.f97) [1,1,1,1,1])]
def EY(F ai M:Int)(ag:aK)(an:cj)(aE:aK)(aI:Int)(aV:aK)(aZ:Int)(bd:aK):bO:=⟨[(40,.one (A F)),(39,.one (A ai)),(38,.one (.own 0)),(10,.one (.own 1)),(7,.one (A M)),(6,.one (.ptr 2 0)),(3,.one (.ptr 3 0)),(1,.one (af ag))],[(0,.arr (z.list z.int) an),(1,.arr z.int aE),(2,.box [.own 4,A aI]),(3,.box [af aV,A aZ]),(4,.arr z.int bd)],5⟩
theorem WD{F:Int}{aE:aK}{rec:bV}{K:aU}{ai M ag an aI aV aZ bd}{zu v0 v1 aC v3 v4 cn dR dy cR v9 v10 v11 hb hc o5 ln s1 qW v20 uI}(ael:zu=fun a b=>EY a ai M ag an b aI aV aZ bd)(bX:v0=gw (nth an (Int.toNat F) (z.H (z.list z.int))))(b9:v1=mU (nth an (Int.toNat F) (z.H (z.list z.int))))(cT:aC=cC aV)(ed:v3=eg aV)(e5:v4=ib aV (Int.toNat ((v3:Nat):Int)))(hx:cn=oV (Int.toNat ((v3:Nat):Int)) v4.snd)(kG:dR=mU ag)(iL:dy=cE (U (cn+1)) ag)(kH:cR=cc (⟨aV,aZ⟩:cp) dy)(jY:v9=cE cn (nth dR (Int.toNat 0) (z.H z.int)::[]))(nf:v10=cc (cR.fst:cp) v9)(oN:v11=eZ aV)(xG:hb=eN (U ((1:Int)-((v3:Nat):Int))))(sH:hc=cc (⟨aV,aZ⟩:cp) hb)(Ss:o5=cE (U (U (U ((1:Int)-((v3:Nat):Int))*32)+1)) aE)(St:ln=cc (hc.fst:cp) o5)(Su:s1=cE (U (U ((1:Int)-((v3:Nat):Int))*32)) (U (v11+1)::[]))(aek:qW=cc (ln.fst:cp) s1)(Ec:v20=K (.ao [.agg [af [],A (0:Int)],.one (A 8)]) [])(aem:uI=J (ar v11 60000)
 v20
 (((-1)<=aZ/\aZ<=100000/\(0:Int)<=U ((1:Int)-((v3:Nat):Int))/\(U ((1:Int)-((v3:Nat):Int))+1)*32<=(len aV:Int)/\len aV<=192) /\
 J (!hc.snd)
 (K (.ao [.agg [af hc.fst.words,A hc.fst.fuel],.one (A 7)]) [])
 (((-1)<=hc.fst.fuel/\hc.fst.fuel<=100000/\(0:Int)<=U (U (U ((1:Int)-((v3:Nat):Int))*32)+1)/\U (U (U ((1:Int)-((v3:Nat):Int))*32)+1)+(len aE:Int)<=(len hc.fst.words:Int)/\len hc.fst.words<=192) /\
 J (!ln.snd)
 (K (.ao [.agg [af ln.fst.words,A ln.fst.fuel],.one (A 7)]) [])
 (((-1)<=ln.fst.fuel/\ln.fst.fuel<=100000/\(0:Int)<=U (U ((1:Int)-((v3:Nat):Int))*32)/\U (U ((1:Int)-((v3:Nat):Int))*32)+(((len (U (v11+1)::[])):Nat):Int)<=(len ln.fst.words:Int)/\len ln.fst.words<=192) /\
 J (!qW.snd)
 (K (.ao [.agg [af qW.fst.words,A qW.fst.fuel],.one (A 7)]) [])
 (K (.ao [.agg [af qW.fst.words,A qW.fst.fuel],.one (A 0)]) []))))):b5 F4 tab Tryz.f97 0 K rec (cU wg) (zu F aE)=(
 J (aL F ai)
 (((0:Int)<=F/\F<(len an:Int)) /\
 Int.toNat F<len an /\
 List.length (nth an (Int.toNat F) (z.H (z.list z.int)))<=140737488355328 /\
 J (!(ar v0 0))
 (K (.ao [.agg [af [],A (0:Int)],.one (A v0)]) [])
 (len (nth an (Int.toNat F) (z.H (z.list z.int)))<=255 /\
 (len aE+len v1)*8<=140737488355328 /\
 J (aL 31 (len (cat aE v1):Int))
 v20
 (rec wg (zu (U (F+1)) (cat aE v1)))))
 ((64<=len aV/\aC=true) /\
 len aV*8<=140737488355328 /\
 len ag<=255 /\
 ((0:Int)<=((v3:Nat):Int)/\((v3:Nat):Int)<=(1:Int)/\64<=len aV/\len aV<=192/\aC=true) /\
 J (dh 0 cn)
 (J (dh (U (cn+(len dR:Int))) (U (U (((v3:Nat):Int)+(1:Int))*32)))
 (((-1)<=aZ/\aZ<=100000/\(0:Int)<=U (cn+1)/\U (cn+1)+(len ag:Int)<=(len aV:Int)/\len aV<=192) /\
 J (!cR.snd)
 (K (.ao [.agg [af cR.fst.words,A cR.fst.fuel],.one (A 7)]) [])
 (((0:Int)<=(0:Int)/\(0:Int)<(len dR:Int)) /\
 ((-1)<=cR.fst.fuel/\cR.fst.fuel<=100000/\(0:Int)<=cn/\cn+(((len (nth dR (Int.toNat 0) (z.H z.int)::[])):Nat):Int)<=(len cR.fst.words:Int)/\len cR.fst.words<=192) /\
 J (!v10.snd)
 (K (.ao [.agg [af v10.fst.words,A v10.fst.fuel],.one (A 7)]) [])
 (K (.ao [.agg [af v10.fst.words,A v10.fst.fuel],.one (A 0)]) [])))
 uI)
 uI)):=by subst_vars;kernel_rfl

theorem Us(ws r:aK)(fu:Int)(rs:cj)(az:rs.length<=5864062014806)(av:hB rs=true)(K:aU)
  (tJ:∀e,e≠0->kC 0 rs=e->K (.ao [.agg [af [],A 0],.one (A e)]) [])
  (qu:∀gz,kC 0 rs=0->(dx rs).length<=31->co F4 tab Tryz.f97 0 K (gz+1) wg (EY (rs.length:Int) (((len rs):Nat):Int) 0 r rs (dx rs) 0 ws fu [])) :
  ∀(d k:Nat),rs.length<=k+d->k<=rs.length->(dx (rs.take k)).length<=31->kC 0 rs=kC (dx (rs.take k)).length (rs.drop k) ->
  co F4 tab Tryz.f97 0 K (d+1) wg (EY (k:Int) (((len rs):Nat):Int) 0 r rs (dx (rs.take k)) 0 ws fu [])
 |0,k,ae,jW,bl,bt=>by
  have:k=rs.length:=by omega
  subst this;rw[List.take_length]at bl bt |-;rw[List.drop_length]at bt;exact qu 0 bt bl
 |d+1,k,ae,jW,bl,bt=>by
  by_cases c:k=rs.length
  ·subst c;rw[List.take_length]at bl bt |-;rw[List.drop_length]at bt;exact qu (d+1) bt bl
  have bm:=iz (l:=rs) (k:=k) (by omega) (z.H (.list .int));rw[ee (by omega) (z.H (.list .int))]at bt;have aB:nth rs k (z.H (.list .int))∈rs:=by
   have:k<rs.length:=by omega
   simp[nth,List.getD_eq_getElem?_getD,this]
  have oK:=List.all_eq_true.1 av _ aB;simp only[decide_eq_true_eq]at oK;rw[bW (L:=wg),WD rfl rfl rfl rfl rfl rfl rfl rfl rfl rfl rfl rfl rfl rfl rfl rfl rfl rfl rfl rfl rfl,cM];obtain⟨x,aG⟩:∃x,nth rs k (z.H (.list .int))=x:=⟨_,rfl⟩
  rw[aG]at bm bt oK |-;simp only[kC]at bt;refine cV (by simp only[len];omega) ⟨⟨by omega,by simp only[len];omega⟩,by simp only[len];omega,oK,bG (fun I=>?_) (fun I=>?_)⟩
  ·rw[if_neg I]at bt;exact tJ _ I bt
  ·rw[if_pos I]at bt;obtain⟨gm,hH,hW⟩:=qg I;refine⟨by simp only[len];omega,by simp only[len,zb];omega,bq (fun G=>?_) (fun G=>?_)⟩
   ·simp only[len,cat,List.length_append,zb]at G;rw[if_neg (by omega)]at bt;exact tJ 8 (by decide) bt
   ·simp only[len,cat,List.length_append,zb]at G;rw[if_pos (by omega)]at bt;rw[di (by omega)];have e:cat (dx (rs.take k)) (mU x)=dx (rs.take (k+1)):=by rw[bm,Cy];rfl
    have nF:(dx (rs.take (k+1))).length=(dx (rs.take k)).length+1+x.length:=by rw[bm,Cy,List.length_append,zb];omega
    rw[e];exact Us ws r fu rs az av K tJ qu d (k+1) (by omega) (by omega) (by rw[nF];omega) (by rw[bt,nF])
theorem alC(ws uZ:aK)(fu g:Int)(s:Nat)(av:s<=1)(Jz:64<=ws.length)(am6:ws.length<=192)(f1:-1<=fu)(f2:fu<=100000)(R8:0<=g)(xy:g<=65535)(lT:uZ.length<=31)(P:cp×Int->Prop)
  (nQ:P (gh (cc ⟨ws,fu⟩ (eN ((1-s:Nat):Int)++cE (32*((1-s:Nat):Int)+1) uZ++cE (32*((1-s:Nat):Int)) [g+1])))) :
  let o:=U (1-(s:Int))
  let a:=cc ⟨ws,fu⟩ (eN o)
  let b:=cc ⟨a.1.words,a.1.fuel⟩ (cE (U (U (o*32)+1)) uZ)
  let c:=cc ⟨b.1.words,b.1.fuel⟩ (cE (U (o*32)) [U (g+1)])
  (0<=o/\(o+1)*32<=(ws.length:Int)) /\
  (a.2=false->P (a.1,7))/\((-1<=a.1.fuel/\a.1.fuel<=100000/\0<=U (U (o*32)+1)/\U (U (o*32)+1)+(uZ.length:Int)<=(a.1.words.length:Int)/\a.1.words.length<=192) /\
  (a.2=true->b.2=false->P (b.1,7))/\((-1<=b.1.fuel/\b.1.fuel<=100000/\0<=U (o*32)/\U (o*32)+1<=(b.1.words.length:Int)/\b.1.words.length<=192) /\
  (a.2=true->b.2=true->P (c.1,ko c.2)))):=by
 intro o a b c;have Q4:o=((1-s:Nat):Int):=by show U (1-(s:Int))=_;rw[cb (by omega) (by omega)];omega
 have aN:U (o*32)=32*((1-s:Nat):Int):=by rw[Q4,cb (by omega) (by omega)];omega
 have aX:U (U (o*32)+1)=32*((1-s:Nat):Int)+1:=by rw[aN,cb (by omega) (by omega)]
 have cS:U (g+1)=g+1:=cb (by omega) (by omega);have vj:=sa ⟨ws,fu⟩ (eN o) f1 f2;have KA:a.1.words.length=ws.length:=tl ⟨ws,fu⟩ (eN o);have Rl:=sa a.1 (cE (U (U (o*32)+1)) uZ) vj.1 vj.2;have anv:b.1.words.length=a.1.words.length:=tl a.1 (cE (U (U (o*32)+1)) uZ);rw[xi,xi]at nQ;have aaQ:cc ⟨ws,fu⟩ (eN ((1-s:Nat):Int))=a:=by rw[<- Q4]
 have aaR:cc a.1 (cE (32*((1-s:Nat):Int)+1) uZ)=b:=by rw[<- aX]
 have m9:cc b.1 (cE (32*((1-s:Nat):Int)) [g+1])=c:=by rw[<- aN,<- cS]
 rw[aaQ,aaR]at nQ;refine⟨by omega,fun h=>?_,⟨vj.1,vj.2,by omega,by omega,by omega⟩,fun h eu=>?_,⟨Rl.1,Rl.2,by omega,by omega,by omega⟩,fun h eu=>?_⟩
 ·rw[if_neg (by simp[h]),if_neg (by simp[h])]at nQ;simpa[gh,h,ko]using nQ
 ·rw[if_pos h,if_neg (by simp[eu])]at nQ;simpa[gh,eu,ko]using nQ
 ·rw[if_pos h,if_pos eu,m9]at nQ;exact nQ
theorem Nx:bo 97 C8:=b2 (Γ:=F4) 0 (((((((((bn.f Nz).f (kV.or M5 ND)).f (kV.zx Yy)).f B1).f Nv).f ak8).f akZ).f ak7).f Fw) Tryz.func97 (by kernel_rfl) fun vs au=>by
 unfold C8;split;rotate_left;trivial;rename_i ws fu r b4;refine⟨by kernel_rfl,fun ad K D=>?_⟩;obtain⟨aw,ae,oK⟩:=ad;refine⟨(b4++[r]).length+1+1,?_⟩;refine cf (fun rec=>(by kernel_rfl:_=(
  J (!(ar (dC (⟨ws,fu⟩:cp)) 0))
  (K (.ao [.agg [af [],A (0:Int)],.one (A (dC (⟨ws,fu⟩:cp)))]) [])
  (List.length r<=140737488355328 /\
  J (!(ar (gw r) 0))
  (K (.ao [.agg [af [],A (0:Int)],.one (A (gw r))]) [])
  (len b4*24<=140737488355328 /\
  (len b4+len (r::[]))*24<=140737488355328 /\
  rec wg (EY 0 (len (cat b4 (r::[])):Int) 0 r (cat b4 (r::[])) [] 0 ws fu [])))))) ?_
 unfold fE kv at D;simp only[len]at ae;refine bG (fun h=>?_) (fun h=>?_)
 ·rw[if_neg h,if_neg h]at D;exact D
 rw[if_pos h]at D;refine⟨aw,bG (fun G=>?_) (fun G=>?_)⟩
 ·rw[if_neg G,if_neg G]at D;exact D
 rw[if_pos G]at D;obtain⟨bL,b0,dm,e3⟩:=ow h;obtain⟨bp,bc,cq,dq⟩:=jx bL;obtain⟨hE,gv⟩:=rQ bp;simp only at b0 dm e3 bc cq dq hE gv;obtain⟨gm,hH,hW⟩:=qg G;have hlen:(b4++[r]).length=b4.length+1:=by simp
 obtain⟨rs,pI⟩:∃rs,b4++[r]=rs:=⟨_,rfl⟩
 have ad9:hB rs=true:=by
  rw[<- pI];unfold hB at oK |-; rw[List.all_append,oK];simp only[List.all_cons,List.all_nil,Bool.and_true,Bool.true_and,decide_eq_true_eq];omega
 rw[pI]at hlen |-;refine⟨by simp only[len];omega,by simp only[len,List.length_cons,List.length_nil];omega,?_⟩;rw[show cat b4 [r]=rs from pI];rw[pI]at D;have dU:dx (rs.take 0)=[]:=by simp[dx]
 have l0:(dx (rs.take 0)).length=0:=by rw[dU];rfl
 refine Us ws r fu rs (by omega) ad9 K (fun e bv bt=>?_) (fun gz bt lT=>?_) rs.length 0 (by omega) (by omega) (by omega) (by rw[l0,List.drop_zero])
 ·rw[bt,if_neg bv]at D;exact D
 rw[bt,if_pos rfl]at D;rw[bW (L:=wg),WD rfl rfl rfl rfl rfl rfl rfl rfl rfl rfl rfl rfl rfl rfl rfl rfl rfl rfl rfl rfl rfl,cM];unfold qe at D;have qx:=ub ws;have JS:=xt dq (eg ws);have xy:eZ ws=eU ws (eg ws):=rfl;have es:∀s:Nat,Int.toNat (s:Int)=s:=fun _=>rfl
 simp only[pI]at D;obtain⟨s,av⟩:∃s,eg ws=s:=⟨_,rfl⟩
 rw[av]at D qx |-;obtain⟨g,JR⟩:∃g,eZ ws=g:=⟨_,rfl⟩
 rw[JR]at D xy dm e3 |-;rw[cb (n:=(s:Int)+1) (by omega) (by omega),cb (n:=((s:Int)+1)*32) (by omega) (by omega)];have Aj:(((len (mU r)):Nat):Int)=(r.length:Int)+1:=by simp only[len,zb];omega
 have tn:nth (mU r) (Int.toNat (0:Int)) (z.H z.int)=42240+(r.length:Int):=rfl;rw[Aj,tn,es s];simp only[len];have Sq:=fun(nQ:K (.ao [.agg [af (gh (cc ⟨ws,fu⟩ (hl (1-s) rs (g+1)))).1.words,A (gh (cc ⟨ws,fu⟩ (hl (1-s) rs (g+1)))).1.fuel],.one (A (gh (cc ⟨ws,fu⟩ (hl (1-s) rs (g+1)))).2)]) []) =>
  alC ws (dx rs) fu g s qx b0 gv bc cq (by omega) (by omega) lT (fun x=>K (.ao [.agg [af x.1.words,A x.1.fuel],.one (A x.2)]) []) nQ
 refine ci (by omega) ⟨⟨b0,dq⟩,by omega,by omega,⟨by omega,by omega,b0,gv,dq⟩,?_⟩;cases iq:(ib ws s).2 with
 |none =>
  rw[iq]at D;simp only[room,Bool.false_eq_true,if_false]at D;simp only[oV];refine e7 (eL.2 (by omega)) (cI (fun bj=>?_) (fun bj=>?_))
  ·rw[if_pos bj]at D;exact D
  ·rw[if_neg bj]at D;obtain⟨t1,t2,t3,t4,t5,t6⟩:=Sq D;refine⟨⟨bc,cq,t1.1,t1.2,gv⟩,ew t2 (fun cO=>⟨t3,ew (t4 cO) (fun cL=>⟨t5,ew (fun eH=>?_) (fun eH=>?_)⟩)⟩)⟩
   ·have:=t6 cO cL;rw[eH]at this;exact this
   ·have:=t6 cO cL;rw[eH]at this;exact this
 |some a =>
  have bl:=Xr (by omega) iq;rw[iq]at D;simp only[oV];rw[cb (n:=32*(s:Int)+1+a+((r.length:Int)+1)) (by omega) (by omega),cb (n:=32*(s:Int)+1+a+1) (by omega) (by omega)];refine gk (fY.2 (by omega)) (b3 (fun bj=>?_) (fun bj=>?_))
  ·rw[fY]at bj;rw[if_pos (show room r.length (some a)=true from by simp only[room,decide_eq_true_eq];omega)]at D;simp only[Option.getD_some,oH]at D;rw[show((32*s+1+a:Nat):Int)=32*(s:Int)+1+a by omega,xi]at D;obtain⟨f1,f2⟩:=sa ⟨ws,fu⟩ (cE (32*(s:Int)+1+a+1) r) bc cq;have dY:=tl ⟨ws,fu⟩ (cE (32*(s:Int)+1+a+1) r);simp only at dY;refine⟨⟨bc,cq,by omega,by omega,gv⟩,ew (fun cO=>?_) (fun cO=>⟨⟨by omega,by omega⟩,⟨f1,f2,by omega,by simp only[List.length_cons,List.length_nil];omega,by omega⟩,ew (fun cL=>?_) (fun cL=>?_)⟩)⟩
   ·rw[if_neg (by simp[cO])]at D;simpa only[gh,cO,ko]using D
   ·rw[if_pos cO]at D;simp only[gh]at D;rw[show(cc (cc ⟨ws,fu⟩ (cE (32*(s:Int)+1+a+1) r)).1 (cE (32*(s:Int)+1+a) [42240+(r.length:Int)])).2=false from cL]at D;exact D
   ·rw[if_pos cO]at D;simp only[gh]at D;rw[show(cc (cc ⟨ws,fu⟩ (cE (32*(s:Int)+1+a+1) r)).1 (cE (32*(s:Int)+1+a) [42240+(r.length:Int)])).2=true from cL]at D;exact D
  ·rw[eL]at bj;rw[if_neg (show ¬room r.length (some a)=true from by simp only[room,decide_eq_true_eq];omega)]at D;refine cI (fun bj=>?_) (fun bj=>?_)
   ·rw[if_pos bj]at D;exact D
   ·rw[if_neg bj]at D;obtain⟨t1,t2,t3,t4,t5,t6⟩:=Sq D;refine⟨⟨bc,cq,t1.1,t1.2,gv⟩,ew t2 (fun cO=>⟨t3,ew (t4 cO) (fun cL=>⟨t5,ew (fun eH=>?_) (fun eH=>?_)⟩)⟩)⟩
    ·have:=t6 cO cL;rw[eH]at this;exact this
    ·have:=t6 cO cL;rw[eH]at this;exact this

def G7:a7
 |[.one (.ptr 0 0)],[.box [.E (.list .int) ws,.E .int fu,.E .bool up,.E .int al,.E (.list .int) ah,.E .int ak,.E .int aj,.own 1,.own 2],.arr .bool aa,.arr .bool ab]=>some (none,.ao [],[.box [af (sl ⟨⟨ws,fu⟩,up,⟨⟨al,ah,ak⟩,aj⟩,aa,ab⟩).f.words,A (sl ⟨⟨ws,fu⟩,up,⟨⟨al,ah,ak⟩,aj⟩,aa,ab⟩).f.fuel,ax (sl ⟨⟨ws,fu⟩,up,⟨⟨al,ah,ak⟩,aj⟩,aa,ab⟩).up,A (sl ⟨⟨ws,fu⟩,up,⟨⟨al,ah,ak⟩,aj⟩,aa,ab⟩).t.r.version,af (sl ⟨⟨ws,fu⟩,up,⟨⟨al,ah,ak⟩,aj⟩,aa,ab⟩).t.r.keys,A (sl ⟨⟨ws,fu⟩,up,⟨⟨al,ah,ak⟩,aj⟩,aa,ab⟩).t.r.dV,A (sl ⟨⟨ws,fu⟩,up,⟨⟨al,ah,ak⟩,aj⟩,aa,ab⟩).t.version,.own 1,.own 2],.arr .bool (sl ⟨⟨ws,fu⟩,up,⟨⟨al,ah,ak⟩,aj⟩,aa,ab⟩).cH,.arr .bool (sl ⟨⟨ws,fu⟩,up,⟨⟨al,ah,ak⟩,aj⟩,aa,ab⟩).did])
 |_,_=>none

theorem Ni:bo 178 G7:=b2 3 bn Tryz.func178 (by kernel_rfl) fun vs au=>by
 unfold G7;split;rotate_left;trivial;rename_i ws fu up al ah ak aj aa ab;refine⟨by kernel_rfl,fun K D=>?_⟩;refine⟨1,?_⟩;refine cf (fun rec=>(by kernel_rfl:_=(
  K (.ao []) [.box [af ws,A fu,ax up,A al,af ah,A ak,A aj,.own 1,.own 2],.arr z.bool (bZ (len aa) (z.H z.bool)),.arr z.bool (bZ (len ab) (z.H z.bool))]))) ?_
 exact D

def PT:a7
 |[.one (.ptr 0 0),.one (.E (.list .int) r)],[.box [.E (.list .int) ws,.E .int fu,.E .bool up,.E .int al,.E (.list .int) ah,.E .int ak,.E .int aj,.own 1,.own 2],.arr .bool aa,.arr .bool ab]=>some (some (eW r),.one (ax (dN ⟨⟨ws,fu⟩,up,⟨⟨al,ah,ak⟩,aj⟩,aa,ab⟩ r).2),[.box [af (dN ⟨⟨ws,fu⟩,up,⟨⟨al,ah,ak⟩,aj⟩,aa,ab⟩ r).1.f.words,A (dN ⟨⟨ws,fu⟩,up,⟨⟨al,ah,ak⟩,aj⟩,aa,ab⟩ r).1.f.fuel,ax (dN ⟨⟨ws,fu⟩,up,⟨⟨al,ah,ak⟩,aj⟩,aa,ab⟩ r).1.up,A (dN ⟨⟨ws,fu⟩,up,⟨⟨al,ah,ak⟩,aj⟩,aa,ab⟩ r).1.t.r.version,af (dN ⟨⟨ws,fu⟩,up,⟨⟨al,ah,ak⟩,aj⟩,aa,ab⟩ r).1.t.r.keys,A (dN ⟨⟨ws,fu⟩,up,⟨⟨al,ah,ak⟩,aj⟩,aa,ab⟩ r).1.t.r.dV,A (dN ⟨⟨ws,fu⟩,up,⟨⟨al,ah,ak⟩,aj⟩,aa,ab⟩ r).1.t.version,.own 1,.own 2],.arr .bool (dN ⟨⟨ws,fu⟩,up,⟨⟨al,ah,ak⟩,aj⟩,aa,ab⟩ r).1.cH,.arr .bool (dN ⟨⟨ws,fu⟩,up,⟨⟨al,ah,ak⟩,aj⟩,aa,ab⟩ r).1.did])
 |_,_=>none
def Zl:Ctx:=[(109,G3),(182,G8),(97,C8),(178,G7)]
theorem ahl(ws:aK)(fu:Int)(up:Bool)(al:Int)(ah:aK)(ak aj:Int)(aa ab:da)(r:aK)(rec:bV)(K:aU) v0 (bX:v0=bN ⟨ws,fu⟩) v1 (b9:v1=mM ⟨v0.n,v0.version,v0.dv,v0.abort,v0.ended⟩) aC (cT:aC=hB v1) v3 (ed:v3=fE ⟨ws,fu⟩ r v1) v4 (e5:v4=J (ar v3.snd 7)
 (K (.one (ax (ar v3.snd 0))) [.box [af v3.fst.words,A v3.fst.fuel,ax false,A al,af ah,A ak,A aj,.own 1,.own 2],.arr z.bool (bZ (List.length aa) false),.arr z.bool (bZ (List.length ab) false)])
 (K (.one (ax (ar v3.snd 0))) [.box [af v3.fst.words,A v3.fst.fuel,ax up,A al,af ah,A ak,A aj,.own 1,.own 2],.arr z.bool aa,.arr z.bool ab])):b5 Zl tab Tryz.f142 3 K rec [.code (bR Tryz.f142)] (df [.one (.ptr 0 0),.one (af r)] [.box [af ws,A fu,ax up,A al,af ah,A ak,A aj,.own 1,.own 2],.arr z.bool aa,.arr z.bool ab])=(
 (List.length r<=140737488355328/\len v1*24<=140737488351232/\aC=true) /\
 J (!(ar v3.snd 0))
 (J (!(ar v3.snd 7))
 (K (.one (ax false)) [.box [af ws,A fu,ax up,A al,af ah,A ak,A aj,.own 1,.own 2],.arr z.bool aa,.arr z.bool ab])
 v4)
 v4):=by subst_vars;kernel_rfl

theorem Nj:bo 142 PT:=b2 (Γ:=Zl) 3 ((((bn.f Ni).f Nx).f ajZ).f XW) Tryz.func142 (by kernel_rfl) fun vs au=>by
 unfold PT;split;rotate_left;trivial;rename_i r ws fu up al ah ak aj aa ab;refine⟨by kernel_rfl,fun ad K D=>?_⟩;refine⟨1,?_⟩;rw[eB,ahl _ _ _ _ _ _ _ _ _ _ _ _ _ rfl _ rfl _ rfl _ rfl _ rfl];unfold dN xc at D;simp only at D;have dU:(⟨(bN ⟨ws,fu⟩).n,(bN ⟨ws,fu⟩).version,(bN ⟨ws,fu⟩).dv,(bN ⟨ws,fu⟩).abort,(bN ⟨ws,fu⟩).ended⟩:bF.ie)=bN ⟨ws,fu⟩:=rfl;rw[dU];obtain⟨bL,b0⟩:=S5 (bN ⟨ws,fu⟩);refine⟨⟨ad,by simp only[len];omega,bL⟩,?_⟩;obtain⟨fo,aw⟩:∃fo,fE ⟨ws,fu⟩ r (mM (bN ⟨ws,fu⟩))=fo:=⟨_,rfl⟩
 rw[aw]at D |-;refine bG (fun h=>?_) (fun h=>?_)
 ·rw[if_neg h]at D;refine bG (fun G=>?_) (fun G=>?_)
  ·rw[if_neg G]at D;exact D
  ·rw[if_pos G]at D;refine k0 G ?_;rw[show ar fo.2 0=false from pn.2 h];exact D
 ·rw[if_pos h]at D;refine iV (by omega) ?_;rw[show ar fo.2 0=true from k1.2 h];exact D

def Hc:a7
 |[.agg [.E (.list .str) b],.one (.E (.list .signed) l),.agg [.E (.list .int) ws,.E .int fu,.E .bool up,.E .int al,.E (.list .int) ah,.E .int ak,.E .int aj,.E (.list .bool) aa,.E (.list .bool) ab],.agg [.E (.list .root) rs,.E (.list (.list .int)) rg,.E .int bE,.E .int bY,.E (.list .target) ts,.E (.list .int) a5,.E (.list (.list .int)) a8],.one (.E .int now)],[]=>some (some (b.length<=140737488355328),.ao [.agg (jg (iU b l ⟨⟨ws,fu⟩,up,⟨⟨al,ah,ak⟩,aj⟩,aa,ab⟩ ⟨rs,rg,⟨bE,bY,ts⟩,a5,a8⟩ now).1),.one (A (iU b l ⟨⟨ws,fu⟩,up,⟨⟨al,ah,ak⟩,aj⟩,aa,ab⟩ ⟨rs,rg,⟨bE,bY,ts⟩,a5,a8⟩ now).2.1),.one (A (iU b l ⟨⟨ws,fu⟩,up,⟨⟨al,ah,ak⟩,aj⟩,aa,ab⟩ ⟨rs,rg,⟨bE,bY,ts⟩,a5,a8⟩ now).2.2)],[])
 |_,_=>none

theorem aj4:bo 135 Hc:=b2 0 ((((((bn.f Ni).f Nj).f Fs).f ajG).f Fq).f Nk) Tryz.func135 (by kernel_rfl) fun vs au=>by
 unfold Hc;split;rotate_left;trivial;rename_i b l ws fu up al ah ak aj aa ab rs rg bE bY ts a5 a8 now;refine⟨by kernel_rfl,fun ad K D=>?_⟩;refine⟨1,?_⟩;obtain⟨aC,cT⟩:∃aC,aC=ha b l ⟨⟨al,ah,ak⟩,aj⟩ ⟨rs,rg,⟨bE,bY,ts⟩,a5,a8⟩ now (len aa:Int):=⟨_,rfl⟩
 obtain⟨v3,ed⟩:∃v3,v3=dN ⟨⟨ws,fu⟩,up,⟨⟨al,ah,ak⟩,aj⟩,aa,ab⟩ ((1:Int)::U ((bN ⟨ws,fu⟩).n+1)::bE::[]):=⟨_,rfl⟩
 obtain⟨v4,e5⟩:∃v4,v4=J (ar (bN ⟨ws,fu⟩).n 8)
  (K (.ao [.agg [af [],A (0:Int),ax false,A (0:Int),af [],A (0:Int),A (0:Int),bh [],bh []],.one (A 0),.one (A 8)]) [])
  (List.length b<=140737488355328 /\
  J (!(ar aC.snd 0))
  (K (.ao [.agg [af [],A (0:Int),ax false,A (0:Int),af [],A (0:Int),A (0:Int),bh [],bh []],.one (A 0),.one (A aC.snd)]) [])
  ((len ws*8<=140737488355328/\len ah*8<=140737488355328/\len aa<=1000/\len ab<=1000) /\
  List.length ((1:Int)::U ((bN ⟨ws,fu⟩).n+1)::bE::[])<=140737488355328 /\
  J (!v3.snd)
  (K (.ao [.agg (jg v3.fst),.one (A 0),.one (A 0)]) [])
  (K (.ao [.agg [af v3.fst.f.words,A v3.fst.f.fuel,ax v3.fst.up,A aC.fst.r.version,af aC.fst.r.keys,A aC.fst.r.dV,A aC.fst.version,bh (bZ (List.length v3.fst.cH) false),bh (bZ (List.length v3.fst.did) false)],.one (A (U ((bN ⟨ws,fu⟩).n+1))),.one (A 0)]) []))):=⟨_,rfl⟩
 refine cf (fun rec=>(by subst e5 ed cT;kernel_rfl:_=(
  J (!(ar (hY ⟨⟨ws,fu⟩,up,⟨⟨al,ah,ak⟩,aj⟩,aa,ab⟩) 0))
  (K (.ao [.agg [af [],A (0:Int),ax false,A (0:Int),af [],A (0:Int),A (0:Int),bh [],bh []],.one (A 0),.one (A (hY ⟨⟨ws,fu⟩,up,⟨⟨al,ah,ak⟩,aj⟩,aa,ab⟩))]) [])
  (J (aL 0 (bN ⟨ws,fu⟩).n)
  (J (!(bN ⟨ws,fu⟩).ended)
  (K (.ao [.agg [af [],A (0:Int),ax false,A (0:Int),af [],A (0:Int),A (0:Int),bh [],bh []],.one (A 0),.one (A 12)]) [])
  v4)
  v4)))) ?_
 subst e5 ed cT;unfold iU q5 pe at D;simp only at D;have bX:=rP ⟨ws,fu⟩;obtain⟨s,av⟩:∃s,bN ⟨ws,fu⟩=s:=⟨_,rfl⟩
 rw[av]at D bX |-;obtain⟨t,bm⟩:∃t,ha b l ⟨⟨al,ah,ak⟩,aj⟩ ⟨rs,rg,⟨bE,bY,ts⟩,a5,a8⟩ now (aa.length:Int)=t:=⟨_,rfl⟩
 rw[show((len aa:Nat):Int)=(aa.length:Int)from rfl];rw[bm]at D |-;have nj:=bX.nj;have oS:=bX.oS;have Am:U (s.n+1)=s.n+1:=cb (by omega) (by omega);rw[Am];refine bG (fun h=>?_) (fun h=>?_)
 ·rw[if_neg h,if_neg h]at D;exact D
 have aA:dG ⟨⟨ws,fu⟩,up,⟨⟨al,ah,ak⟩,aj⟩,aa,ab⟩=0:=wE h;obtain⟨ia,iP,kQ,pV⟩:=r7 aA;obtain⟨_,_,dY,gI,_⟩:=rO (r:=[1,s.n+1,bE]) (iH aA).1;rw[if_pos h]at D
 by_cases c:0<s.n/\s.ended=false
 ·rw[if_pos c,if_neg (by omega)]at D;exact cV c.1 (K3 c.2 D)
 rw[if_neg c]at D;have key:J (ar s.n 8) (K (.ao [.agg [af [],A (0:Int),ax false,A (0:Int),af [],A (0:Int),A (0:Int),bh [],bh []],.one (A (0:Int)),.one (A (8:Int))]) []) (((List.length b)<=140737488355328) /\
   (J (!(ar t.2 (0:Int)))
    (K (.ao [.agg [af [],A (0:Int),ax false,A (0:Int),af [],A (0:Int),A (0:Int),bh [],bh []],.one (A (0:Int)),.one (A t.2)]) [])
    (((((len ws)*8)<=140737488355328)/\((((len ah)*8)<=140737488355328)/\(((len aa)<=1000)/\((len ab)<=1000)))) /\
     (((List.length ((1:Int)::(s.n+1)::(bE::[])))<=140737488355328) /\
     (J (!(dN ⟨⟨ws,fu⟩,up,⟨⟨al,ah,ak⟩,aj⟩,aa,ab⟩ [1,s.n+1,bE]).2)
      (K (.ao [.agg [af (((dN ⟨⟨ws,fu⟩,up,⟨⟨al,ah,ak⟩,aj⟩,aa,ab⟩ [1,s.n+1,bE]).1).f).words,A (((dN ⟨⟨ws,fu⟩,up,⟨⟨al,ah,ak⟩,aj⟩,aa,ab⟩ [1,s.n+1,bE]).1).f).fuel,ax ((dN ⟨⟨ws,fu⟩,up,⟨⟨al,ah,ak⟩,aj⟩,aa,ab⟩ [1,s.n+1,bE]).1).up,A ((((dN ⟨⟨ws,fu⟩,up,⟨⟨al,ah,ak⟩,aj⟩,aa,ab⟩ [1,s.n+1,bE]).1).t).r).version,af ((((dN ⟨⟨ws,fu⟩,up,⟨⟨al,ah,ak⟩,aj⟩,aa,ab⟩ [1,s.n+1,bE]).1).t).r).keys,A ((((dN ⟨⟨ws,fu⟩,up,⟨⟨al,ah,ak⟩,aj⟩,aa,ab⟩ [1,s.n+1,bE]).1).t).r).dV,A (((dN ⟨⟨ws,fu⟩,up,⟨⟨al,ah,ak⟩,aj⟩,aa,ab⟩ [1,s.n+1,bE]).1).t).version,bh ((dN ⟨⟨ws,fu⟩,up,⟨⟨al,ah,ak⟩,aj⟩,aa,ab⟩ [1,s.n+1,bE]).1).cH,bh ((dN ⟨⟨ws,fu⟩,up,⟨⟨al,ah,ak⟩,aj⟩,aa,ab⟩ [1,s.n+1,bE]).1).did],.one (A (0:Int)),.one (A (0:Int))]) [])
      (K (.ao [.agg [af (((dN ⟨⟨ws,fu⟩,up,⟨⟨al,ah,ak⟩,aj⟩,aa,ab⟩ [1,s.n+1,bE]).1).f).words,A (((dN ⟨⟨ws,fu⟩,up,⟨⟨al,ah,ak⟩,aj⟩,aa,ab⟩ [1,s.n+1,bE]).1).f).fuel,ax ((dN ⟨⟨ws,fu⟩,up,⟨⟨al,ah,ak⟩,aj⟩,aa,ab⟩ [1,s.n+1,bE]).1).up,A ((t.fst).r).version,af ((t.fst).r).keys,A ((t.fst).r).dV,A (t.fst).version,bh (bZ (List.length ((dN ⟨⟨ws,fu⟩,up,⟨⟨al,ah,ak⟩,aj⟩,aa,ab⟩ [1,s.n+1,bE]).1).cH) false),bh (bZ (List.length ((dN ⟨⟨ws,fu⟩,up,⟨⟨al,ah,ak⟩,aj⟩,aa,ab⟩ [1,s.n+1,bE]).1).did) false)],.one (A (s.n+1)),.one (A (0:Int))]) [])))))):=by
  refine cI (fun bc=>?_) (fun bc=>?_)
  ·rw[if_pos bc,if_neg (by omega)]at D;exact D
  rw[if_neg bc]at D;refine⟨ad,bG (fun cq=>?_) (fun cq=>⟨⟨ia,iP,kQ,pV⟩,by simp,?_⟩)⟩
  ·rw[if_neg cq]at D;exact D
  rw[if_pos cq]at D;rw[dY,gI];refine ew (fun dq=>?_) (fun dq=>?_)
  ·rw[if_neg (by rw[dq];simp)]at D;exact D
  ·rw[if_pos dq]at D;exact D
 refine bq (fun bp=>ew (fun bc=>absurd ⟨bp,bc⟩ c) (fun _=>key)) (fun _=>key)

def P6:a7
 |[.one (.ptr 0 0),.agg [.E (.list .root) rs,.E (.list (.list .int)) rg,.E .int bE,.E .int bY,.E (.list .target) ts,.E (.list .int) a5,.E (.list (.list .int)) a8]],[.box [.E (.list .str) aJ,.E (.list .signed) vs,.E (.list .int) ws,.E .int fu,.E .bool up,.E .int al,.E (.list .int) ah,.E .int ak,.E .int aj,.E (.list .bool) aa,.E (.list .bool) ab,.own 1,.own 2,.own 3,.E .int now],.arr .aO us,.arr .aP cs,.arr .message W]=>some (some (okW ⟨aJ,vs,⟨⟨ws,fu⟩,up,⟨⟨al,ah,ak⟩,aj⟩,aa,ab⟩,us,cs,W,now⟩=true),.one (A (lK ⟨aJ,vs,⟨⟨ws,fu⟩,up,⟨⟨al,ah,ak⟩,aj⟩,aa,ab⟩,us,cs,W,now⟩ ⟨rs,rg,⟨bE,bY,ts⟩,a5,a8⟩).2),[.box (lv (lK ⟨aJ,vs,⟨⟨ws,fu⟩,up,⟨⟨al,ah,ak⟩,aj⟩,aa,ab⟩,us,cs,W,now⟩ ⟨rs,rg,⟨bE,bY,ts⟩,a5,a8⟩).1 (.own 4) (.own 5) (.own 6)),.dead,.dead,.dead,.arr .aO (lK ⟨aJ,vs,⟨⟨ws,fu⟩,up,⟨⟨al,ah,ak⟩,aj⟩,aa,ab⟩,us,cs,W,now⟩ ⟨rs,rg,⟨bE,bY,ts⟩,a5,a8⟩).1.units,.arr .aP (lK ⟨aJ,vs,⟨⟨ws,fu⟩,up,⟨⟨al,ah,ak⟩,aj⟩,aa,ab⟩,us,cs,W,now⟩ ⟨rs,rg,⟨bE,bY,ts⟩,a5,a8⟩).1.cr,.arr .message (lK ⟨aJ,vs,⟨⟨ws,fu⟩,up,⟨⟨al,ah,ak⟩,aj⟩,aa,ab⟩,us,cs,W,now⟩ ⟨rs,rg,⟨bE,bY,ts⟩,a5,a8⟩).1.W])
 |_,_=>none
def Zm:Ctx:=[(135,Hc),(80,CZ),(79,CY)]
theorem ahz(aJ:cD)(vs:cG)(ws:aK)(fu:Int)(up:Bool)(al:Int)(ah:aK)(ak aj:Int)(aa ab:da)(us:cZ)(cs:c3)(W:cF)(now:Int)(rs:hs)(rg:cj)(bE bY:Int)(ts:LT)(a5:aK)(a8:cj)(rec:bV)(K:aU) v0 (bX:v0=iU aJ vs ⟨⟨ws,fu⟩,up,⟨⟨al,ah,ak⟩,aj⟩,aa,ab⟩ ⟨rs,rg,⟨bE,bY,ts⟩,a5,a8⟩ now) v1 (b9:v1=wx a8):js Zm tab Tryz.f83 4 K rec [.code (bR Tryz.f83)] (rG [.one (.ptr 0 0),.agg [.E (z.list z.root) rs,ct rg,A bE,A bY,.E (z.list z.target) ts,af a5,ct a8]] [.box (et aJ vs ws fu up al ah ak aj aa ab (.own 1) (.own 2) (.own 3) now),.arr z.aO us,.arr z.aP cs,.arr z.message W])=(
 List.length aJ<=140737488355328 /\
 J (!(ar v0.snd.snd 0))
 (K (.one (A v0.snd.snd)) [.box (et aJ vs ws fu up al ah ak aj aa ab (.own 4) (.own 5) (.own 6) now),.dead,.dead,.dead,.arr z.aO us,.arr z.aP cs,.arr z.message W])
 (J (aL 0 v0.snd.fst)
 ((len a8<=1000/\v1=true) /\
 len ts*24<=140737488355328 /\
 ((0:Int)<=(0:Int)/\(0:Int)<=min (U (v0.snd.fst-1)) (len cs:Int)/\min (U (v0.snd.fst-1)) (len cs:Int)<=(len cs:Int)) /\
 (Int.toNat (min (U (v0.snd.fst-1)) (len cs:Int)-0)<=len cs/\(Int.toNat (min (U (v0.snd.fst-1)) (len cs:Int)-0)+len ((⟨v0.snd.fst,⟨bE,bY,ts⟩,a8⟩:og)::[]))*72<=140737488355328) /\
 K (.one (A 0)) [.box [.E (z.list z.str) aJ,.E (z.list z.signed) vs,af v0.fst.f.words,A v0.fst.f.fuel,ax v0.fst.up,A v0.fst.t.r.version,af v0.fst.t.r.keys,A v0.fst.t.r.dV,A v0.fst.t.version,bh v0.fst.cH,bh v0.fst.did,.own 4,.own 5,.own 6,A now],.dead,.dead,.dead,.arr z.aO us,.arr z.aP (cat (aW cs 0 (Int.toNat (min (U (v0.snd.fst-1)) (len cs:Int)-0))) ((⟨v0.snd.fst,⟨bE,bY,ts⟩,a8⟩:og)::[])),.arr z.message W])
 (K (.one (A 0)) [.box [.E (z.list z.str) aJ,.E (z.list z.signed) vs,af v0.fst.f.words,A v0.fst.f.fuel,ax v0.fst.up,A v0.fst.t.r.version,af v0.fst.t.r.keys,A v0.fst.t.r.dV,A v0.fst.t.version,bh v0.fst.cH,bh v0.fst.did,.own 4,.own 5,.own 6,A now],.dead,.dead,.dead,.arr z.aO us,.arr z.aP cs,.arr z.message W]))):=by subst_vars;kernel_rfl

theorem akv:bo 83 P6:=sY (Γ:=Zm) 4 (((bn.f X6).f X7).f aj4) Tryz.func83 (by kernel_rfl) fun vs au=>by
 unfold P6;split;rotate_left;trivial;rename_i rs rg bE bY ts a5 a8 aJ vs ws fu up al ah ak aj aa ab now us cs W;refine⟨by kernel_rfl,fun ad K D=>?_⟩;refine⟨1,?_⟩;rw[qn,ahz _ _ _ _ _ _ _ _ _ _ _ _ _ _ _ _ _ _ _ _ _ _ _ _ _ rfl _ rfl];have aQ:=oW.1 ad;have ay:=pg aQ.b;have dJ:=aQ.m6;obtain⟨gi,iR⟩:=aQ.o4;have aq:=aQ.n;simp only at ay dJ iR aq;have DP:nB ⟨aJ,vs,⟨⟨ws,fu⟩,up,⟨⟨al,ah,ak⟩,aj⟩,aa,ab⟩,us,cs,W,now⟩ ⟨rs,rg,⟨bE,bY,ts⟩,a5,a8⟩=iU aJ vs ⟨⟨ws,fu⟩,up,⟨⟨al,ah,ak⟩,aj⟩,aa,ab⟩ ⟨rs,rg,⟨bE,bY,ts⟩,a5,a8⟩ now:=rfl;have jU:=Gx (v:=⟨aJ,vs,⟨⟨ws,fu⟩,up,⟨⟨al,ah,ak⟩,aj⟩,aa,ab⟩,us,cs,W,now⟩) (o:=⟨rs,rg,⟨bE,bY,ts⟩,a5,a8⟩);have AD:=Gw (b:=aJ) (l:=vs) (g:=⟨⟨ws,fu⟩,up,⟨⟨al,ah,ak⟩,aj⟩,aa,ab⟩) (o:=⟨rs,rg,⟨bE,bY,ts⟩,a5,a8⟩) (now:=now);unfold lK at D;rw[DP]at D jU;obtain⟨B,bA⟩:∃B,iU aJ vs ⟨⟨ws,fu⟩,up,⟨⟨al,ah,ak⟩,aj⟩,aa,ab⟩ ⟨rs,rg,⟨bE,bY,ts⟩,a5,a8⟩ now=B:=⟨_,rfl⟩
 rw[bA]at D jU AD |-;refine⟨by omega,bG (fun h=>?_) (fun h=>bq (fun G=>?_) (fun G=>?_))⟩
 ·rw[if_neg h]at D;exact D
 ·rw[if_pos h]at D;obtain⟨_,_,_,_,bm,_⟩:=AD h;obtain⟨gm,hH,hW,qS,_⟩:=YT bm;simp only at hH hW qS;rcases jU h with e|⟨_,aN,aX⟩
  ·omega
  have I1:min (U (B.2.1-1)) (((len cs):Nat):Int)=((min (B.2.1-1).toNat cs.length:Nat):Int):=by
   rw[cb (by omega) (by omega)];simp only[len];omega
  rw[I1,show Int.toNat (((min (B.2.1-1).toNat cs.length:Nat):Int)-0)=min (B.2.1-1).toNat cs.length by omega,Fj,alB];refine⟨⟨by simp only[len];omega,XF qS⟩,by simp only[len];omega,⟨by omega,by omega,by simp only[len];omega⟩,⟨by simp only[len];omega,by simp only[len,List.length_cons,List.length_nil];omega⟩,?_⟩;unfold q7 at D;simp only[if_pos G]at D;exact D
 ·rw[if_pos h]at D;unfold q7 at D;simp only[if_neg (show ¬0<B.2.1 by omega)]at D;exact D

def HA:a7
 |[.one (.own 0),.one (.E .int i),.one (.E .int j)],[.arr .message l]=>some (some (0<=i/\i<(l.length:Int)/\j=i+1/\l.length<=1000),.one (.view 0 0 (l.length-1)),[.arr .message (put (put l i.toNat (aW l j.toNat l.length)) (l.length-1) (bZ 1 (z.H z.message)))])
 |_,_=>none
def Ov:Ctx:=[]
theorem afO:fr Tryz.prog tab Ov:=bn
theorem ahw(l:cF)(i j:Int)(rec:bV)(K:aU):js Ov tab Jk 1 K rec [.code (bR Jk)] (df [.one (.own 0),.one (A i),.one (A j)] [.arr z.message l])=(
 ((0:Int)<=i/\i<=j/\j<=(len l:Int)/\(len l:Int)=(len l:Int)) /\
 J (ar i j)
 (K (.one (.own 0)) [.arr z.message l])
 (((0:Int)<=(0:Int)/\(0:Int)<=i/\i<=(len l:Int)) /\
 ((0:Int)<=j/\j<=(len l:Int)/\(len l:Int)<=(len l:Int)) /\
 (Int.toNat j+Int.toNat ((len l:Int)-j)<=len l/\Int.toNat (i-0)+len (aW l (Int.toNat j) (Int.toNat j+Int.toNat ((len l:Int)-j)))<=len l) /\
 ((0:Int)<=(((Int.toNat (i-0)+len (aW l (Int.toNat j) (Int.toNat j+Int.toNat ((len l:Int)-j)))):Nat):Int)/\(((Int.toNat (i-0)+len (aW l (Int.toNat j) (Int.toNat j+Int.toNat ((len l:Int)-j)))):Nat):Int)<=(len l:Int)/\(len l:Int)<=(((len (put l (Int.toNat (i-0)) (aW l (Int.toNat j) (Int.toNat j+Int.toNat ((len l:Int)-j))))):Nat):Int)) /\
 Int.toNat (((Int.toNat (i-0)+len (aW l (Int.toNat j) (Int.toNat j+Int.toNat ((len l:Int)-j)))):Nat):Int)+Int.toNat ((len l:Int)-(((Int.toNat (i-0)+len (aW l (Int.toNat j) (Int.toNat j+Int.toNat ((len l:Int)-j)))):Nat):Int))<=len (put l (Int.toNat (i-0)) (aW l (Int.toNat j) (Int.toNat j+Int.toNat ((len l:Int)-j)))) /\
 K (.one (.view 0 0 (Int.toNat (i-0)+len (aW l (Int.toNat j) (Int.toNat j+Int.toNat ((len l:Int)-j)))))) [.arr z.message (put (put l (Int.toNat (i-0)) (aW l (Int.toNat j) (Int.toNat j+Int.toNat ((len l:Int)-j)))) (Int.toNat (((Int.toNat (i-0)+len (aW l (Int.toNat j) (Int.toNat j+Int.toNat ((len l:Int)-j)))):Nat):Int)) (bZ (Int.toNat ((len l:Int)-(((Int.toNat (i-0)+len (aW l (Int.toNat j) (Int.toNat j+Int.toNat ((len l:Int)-j)))):Nat):Int))) (z.H z.message)))])):=by kernel_rfl

theorem aiM(l:cF)(ad:0<=i/\i<(l.length:Int)/\j=i+1/\l.length<=1000)(K:aU)(D:K (.one (.view 0 0 (l.length-1))) [.arr .message (put (put l i.toNat (aW l j.toNat l.length)) (l.length-1) (bZ 1 (z.H z.message)))]):OR Ov Jk 1 K [.one (.own 0),.one (A i),.one (A j)] [.arr .message l]:=by
 obtain⟨e0,fj,g2,pP⟩:=ad;obtain⟨k,ae⟩:∃k:Nat,i=k:=⟨i.toNat,by omega⟩
 subst ae;subst g2;refine⟨1,?_⟩;rw[qn,ahw _ _ _ _ _];have aN:((k:Int)-0).toNat=k:=by omega
 have aX:((k:Int)+1).toNat=k+1:=by omega
 have cS:(((len l:Nat):Int)-((k:Int)+1)).toNat=l.length-(k+1):=by simp only[len];omega
 have lz:k+1+(l.length-(k+1))=l.length:=by omega
 have m8:len (aW l (k+1) l.length)=l.length-(k+1):=sZ l (k+1) l.length (Nat.le_refl _);have Aj:k+(l.length-(k+1))=l.length-1:=by omega
 have tn:len (put l k (aW l (k+1) l.length))=l.length:=EJ l _ k (by have:(aW l (k+1) l.length).length=l.length-(k+1):=m8;omega);have Q2:(((l.length-1:Nat):Int)).toNat=l.length-1:=by omega
 have aaM:(((len l:Nat):Int)-((l.length-1:Nat):Int)).toNat=1:=by simp only[len];omega
 have dU:((k:Int)).toNat=k:=by omega
 rw[aN,aX,cS,lz,m8,Aj,tn,Q2,aaM];rw[dU,aX]at D;exact⟨⟨by omega,by omega,by simp only[len];omega,rfl⟩,iV (by omega) ⟨⟨by omega,by omega,by simp only[len];omega⟩,⟨by omega,by simp only[len];omega,Int.le_refl _⟩,⟨by simp only[len];omega,by simp only[len];omega⟩,⟨by omega,by simp only[len];omega,Int.le_refl _⟩,by omega,D⟩⟩
theorem akt:bo 137 HA:=hj afO Tryz.func137 (by kernel_rfl) (by
 intro vs au p v du h ad;unfold HA at h;split at h
 ·cases h;exact⟨by kernel_rfl,rfl,.inr (.inl (aiM _ _ _ ad.1 _ ⟨rfl,rfl⟩))⟩
 ·cases h)

def HB:a7
 |[.one (.own 0),.one (.E .int i),.one (.E .int j)],[.arr .message l]=>some (some (0<=i/\i<(l.length:Int)/\j=i+1/\l.length<=1000),.one (.own 1),[.dead,.arr .message (l.eraseIdx i.toNat)])
 |_,_=>none
theorem aaG{α:Type}(l:List α)(k:Nat)(h:k<l.length)(d:List α):aW (put (put l k (aW l (k+1) l.length)) (l.length-1) d) 0 (l.length-1)=l.eraseIdx k:=by
 have m8:(aW l (k+1) l.length)=l.drop (k+1):=by simp[aW]
 have aN:put l k (aW l (k+1) l.length)=l.take k++l.drop (k+1)++l.drop (k+(l.length-(k+1))):=by simp[put,m8]
 have hlen:(l.take k++l.drop (k+1)).length=l.length-1:=by simp;omega
 rw[aN,List.eraseIdx_eq_take_drop_succ];simp only[aW,put,List.drop_zero];rw[List.take_append_of_le_length (by simp;omega),List.take_append_of_le_length (by simp;omega),List.take_append_of_le_length (by rw[hlen];exact Nat.le_refl _),<- hlen,List.take_length];rw[hlen,List.take_of_length_le (by rw[hlen];exact Nat.le_refl _)]
theorem ZT(l:cF)(i j:Int)(ad:0<=i/\i<(l.length:Int)/\j=i+1/\l.length<=1000):AC Tryz.prog tab 137 [.one (.own 0),.one (A i),.one (A j)] [.arr .message l] (.one (.own 1)) [.dead,.arr .message (l.eraseIdx i.toNat)]:=by
 obtain⟨e0,fj,g2,pP⟩:=ad;obtain⟨k,ae⟩:∃k:Nat,i=k:=⟨i.toNat,by omega⟩
 subst ae;subst g2;have dU:((k:Int)).toNat=k:=by omega
 have aX:((k:Int)+1).toNat=k+1:=by omega
 have e:=aaG l k (by omega) (bZ 1 (z.H z.message));rw[dU,<- e];refine ajw akt.s [.one (.own 0),.one (A (k:Int)),.one (A ((k:Int)+1))] [.arr .message l] (some (both (some (0<=(k:Int)/\(k:Int)<(l.length:Int)/\(k:Int)+1=(k:Int)+1/\l.length<=1000)) (l.length-1<=len (put (put l k (aW l (k+1) l.length)) (l.length-1) (bZ 1 (z.H z.message)))))) _ _ ?_ ⟨⟨⟨e0,fj,rfl,pP⟩,?_⟩,trivial⟩
 ·have q:HA [.one (.own 0),.one (A (k:Int)),.one (A ((k:Int)+1))] [.arr .message l]=some (some (0<=(k:Int)/\(k:Int)<(l.length:Int)/\(k:Int)+1=(k:Int)+1/\l.length<=1000),.one (.view 0 0 (l.length-1)),[.arr .message (put (put l k (aW l (k+1) l.length)) (l.length-1) (bZ 1 (z.H z.message)))]):=rfl;simp only[NY,q]
 ·simp only[len];have bj:(aW l (k+1) l.length).length=l.length-(k+1):=sZ l (k+1) l.length (Nat.le_refl _);have c4:=EJ l (aW l (k+1) l.length) k (by omega);have dJ:=EJ (put l k (aW l (k+1) l.length)) (bZ 1 (z.H z.message)) (l.length-1) (by
   have dK:(bZ 1 (z.H z.message)).length=1:=by simp[bZ]
   omega)
  omega
theorem X8:jv Tryz.prog tab 137 HB:=by
 intro vs au p v du h ad;unfold HB at h;split at h
 ·cases h;exact ZT _ _ _ ad.1
 ·cases h

def PN:a7
 |[.one (.own 0),.one (.E .bool x)],[.arr .bool l]=>some (some (len l<=1000),.one (A (xJ x 0 l)),[.arr .bool l])
 |_,_=>none
def FY:Ctx:=[]
def yg:List cu:=[.inLoop [8,7,4,0,1] (cy xq [1,0,1,0,0]),.inBlock 0,.code (cy xq [1,1])]
def LH(F ai M:Int)(ag:Bool)(an:da):bO:=⟨[(8,.one (A F)),(7,.one (A ai)),(4,.one (A M)),(0,.one (.own 0)),(1,.one (ax ag))],[(0,.arr z.bool an)],1⟩
theorem ahi(l:da)(x:Bool)(rec:bV)(K:aU):b5 FY tab xq 1 K rec [.code (bR xq)] (df [.one (.own 0),.one (ax x)] [.arr z.bool l])=(
 rec yg (LH 0 (len l:Int) 0 x l)):=by kernel_rfl
theorem VH{F:Int}{rec:bV}{K:aU}{ai M ag an}{v0}(bX:v0=fun a=>LH a ai M ag an):b5 FY tab xq 1 K rec (cU yg) (v0 F)=(
 J (aL F ai)
 (((0:Int)<=F/\F<(len an:Int)) /\
 Int.toNat F<len an /\
 J (h3 ag (nth an (Int.toNat F) (z.H z.bool)))
 (K (.one (A F)) [.arr z.bool an])
 (rec yg (v0 (U (F+1)))))
 (K (.one (A (-1))) [.arr z.bool an])):=by subst_vars;kernel_rfl

theorem TZ(l:da)(s:Bool)(az:l.length<=1000)(K:aU):∀(d k:Nat),k+d=l.length->K (.one (A (xJ s k (l.drop k)))) [.arr .bool l] ->
  co FY tab xq 1 K (d+1) yg (LH (k:Int) (((len l):Nat):Int) 0 s l)
 |0,k,ae,D=>by
  rw[bW (L:=yg),VH rfl];rw[List.drop_of_length_le (by omega)]at D;exact ci (by simp only[len];omega) D
 |d+1,k,ae,D=>by
  rw[bW (L:=yg),VH rfl,cM];rw[ee (by omega) (z.H z.bool)]at D;simp only[xJ]at D;refine cV (by simp only[len];omega) ⟨⟨by omega,by simp only[len];omega⟩,by simp only[len];omega,b3 (fun h=>?_) (fun h=>?_)⟩
  ·rw[if_pos (of_decide_eq_true h).symm]at D;exact D
  ·rw[if_neg (fun e=>of_decide_eq_false h e.symm)]at D;rw[di (by omega)];exact TZ l s az K d (k+1) (by omega) D
theorem ajX:bo 173 PN:=b2 (Γ:=FY) 1 bn Tryz.func173 (by kernel_rfl) fun vs au=>by
 unfold PN;split;rotate_left;trivial;rename_i x l;refine⟨by kernel_rfl,fun ad K D=>?_⟩;refine⟨l.length+2,?_⟩;rw[eB,ahi _ _ _ _];exact TZ l x ad K l.length 0 (by omega) D

def G1:a7
 |[.one (.own 0),.one (.E .bool x)],[.arr .bool l]=>some (some (len l<=1000),.one (ax (hasB x l)),[.arr .bool l])
 |_,_=>none

theorem XT:bo 124 G1:=b2 1 (bn.f ajX) Tryz.func124 (by kernel_rfl) fun vs au=>by
 unfold G1;split;rotate_left;trivial;rename_i x l;refine⟨by kernel_rfl,fun ad K D=>?_⟩;refine⟨1,?_⟩;refine cf (fun rec=>(by kernel_rfl:_=(
  len l<=1000 /\
  K (.one (ax (dh 0 (xJ x 0 l)))) [.arr z.bool l]))) ?_
 exact⟨ad,D⟩

def Ha:a7
 |[.agg [.E .int eV,.E .int kD,.E .bool gc,.E .bool tD,.E .bool ge],.one (.E .int u),.one (.E .int n)],[]=>some (none,.agg [A (nY ⟨eV,kD,gc,tD,ge⟩ n),A u,A n,A 0,A 0,af [],ax false],[])
 |_,_=>none

theorem XY:bo 183 Ha:=b2 0 bn Tryz.func183 (by kernel_rfl) fun vs au=>by
 unfold Ha;split;rotate_left;trivial;rename_i eV kD gc tD ge u n;refine⟨by kernel_rfl,fun K D=>?_⟩;refine⟨1,?_⟩;obtain⟨v0,bX⟩:∃v0,v0=K (.agg [A (5:Int),A u,A n,A (0:Int),A (0:Int),af [],ax false]) []:=⟨_,rfl⟩
 refine cf (fun rec=>(by subst bX;kernel_rfl:_=(
  J gc
  (J (ar eV n)
  (K (.agg [A (4:Int),A u,A n,A (0:Int),A (0:Int),af [],ax false]) [])
  v0)
  v0))) ?_
 subst bX;unfold nY at D;cases gc
 ·rw[if_neg (by simp)]at D;exact e7 rfl D
 ·refine gk rfl (cI (fun h=>?_) (fun h=>?_))
  ·rw[if_pos ⟨rfl,h⟩]at D;exact D
  ·rw[if_neg (fun q=>h q.2)]at D;exact D

def Hb:a7
 |[.agg [.E (.list .int) ws,.E .int fu,.E .bool up,.E .int al,.E (.list .int) ah,.E .int ak,.E .int aj,.E (.list .bool) aa,.E (.list .bool) ab],.agg [.E .int mk,.E .int ba,.E .int bb,.E .int bB,.E .int ch,.E (.list .int) bQ,.E .bool cz]],[]=>some (none,.ao [.agg (jg (hS ⟨⟨ws,fu⟩,up,⟨⟨al,ah,ak⟩,aj⟩,aa,ab⟩ ⟨mk,ba,bb,bB,ch,bQ,cz⟩).1.1),.one (bs (hS ⟨⟨ws,fu⟩,up,⟨⟨al,ah,ak⟩,aj⟩,aa,ab⟩ ⟨mk,ba,bb,bB,ch,bQ,cz⟩).1.2),.one (A (hS ⟨⟨ws,fu⟩,up,⟨⟨al,ah,ak⟩,aj⟩,aa,ab⟩ ⟨mk,ba,bb,bB,ch,bQ,cz⟩).2)],[])
 |_,_=>none

theorem aj1:bo 179 Hb:=b2 0 ((((((bn.f XY).f Nj).f XT).f XW).f Fs).f zl) Tryz.func179 (by kernel_rfl) fun vs au=>by
 unfold Hb;split;rotate_left;trivial;rename_i ws fu up al ah ak aj aa ab mk ba bb bB ch bQ cz;dsimp only[z.den]at ws fu up al ah ak aj aa ab mk ba bb bB ch bQ cz;refine⟨by kernel_rfl,fun K D=>?_⟩;refine⟨1,?_⟩;obtain⟨v1,b9⟩:∃v1,v1=bN ⟨ws,fu⟩:=⟨_,rfl⟩
 obtain⟨dy,iL⟩:∃dy,dy=J (ar mk 3)
  (K (.ao [.agg [af ws,A fu,ax up,A al,af ah,A ak,A aj,bh aa,bh ab],.one (bs []),.one (A 0)]) [])
  (J (ar mk 6)
  (K (.ao [.agg [af ws,A fu,ax up,A al,af ah,A ak,A aj,bh aa,bh ab],.one (bs []),.one (A 0)]) [])
  (J (ar mk 7)
  (K (.ao [.agg [af ws,A fu,ax up,A al,af ah,A ak,A aj,bh aa,bh ab],.one (bs ((⟨nY ⟨v1.n,v1.version,v1.dv,v1.abort,v1.ended⟩ bb,ba,bb,0,0,[],false⟩:fD)::[])),.one (A 0)]) [])
  (K (.ao [.agg [af ws,A fu,ax up,A al,af ah,A ak,A aj,bh aa,bh ab],.one (bs []),.one (A 0)]) []))):=⟨_,rfl⟩
 obtain⟨cR,kH⟩:∃cR,cR=J (!(hasB false (setAt ab (Int.toNat ba) true)))
  (List.length ((4:Int)::v1.n::[])<=140737488355328 /\
  K (.ao [.agg (jg (dN ⟨⟨ws,fu⟩,up,⟨⟨al,ah,ak⟩,aj⟩,aa,setAt ab (Int.toNat ba) true⟩ ((4:Int)::v1.n::[])).fst),.one (bs []),.one (A 0)]) [])
  (K (.ao [.agg [af ws,A fu,ax up,A al,af ah,A ak,A aj,bh aa,bh (setAt ab (Int.toNat ba) true)],.one (bs []),.one (A 0)]) []):=⟨_,rfl⟩
 obtain⟨v9,jY⟩:∃v9,v9=K (.ao [.agg [af ws,A fu,ax up,A al,af ah,A ak,A aj,bh aa,bh ab],.one (bs ((⟨nY ⟨v1.n,v1.version,v1.dv,v1.abort,v1.ended⟩ bb,ba,bb,0,0,[],false⟩:fD)::[])),.one (A 0)]) []:=⟨_,rfl⟩
 obtain⟨v10,nf⟩:∃v10,v10=K (.ao [.agg [af [],A (0:Int),ax false,A (0:Int),af [],A (0:Int),A (0:Int),bh [],bh []],.one (bs []),.one (A 3)]) []:=⟨_,rfl⟩
 obtain⟨v11,oN⟩:∃v11,v11=K (.ao [.agg [af ws,A fu,ax up,A al,af ah,A ak,A aj,bh aa,bh ab],.one (bs []),.one (A 0)]) []:=⟨_,rfl⟩
 refine cf (fun rec=>(by subst oN nf jY kH iL b9;kernel_rfl:_=(
  J (!(ar (dG ⟨⟨ws,fu⟩,up,⟨⟨al,ah,ak⟩,aj⟩,aa,ab⟩) 0))
  (K (.ao [.agg [af [],A (0:Int),ax false,A (0:Int),af [],A (0:Int),A (0:Int),bh [],bh []],.one (bs []),.one (A (dG ⟨⟨ws,fu⟩,up,⟨⟨al,ah,ak⟩,aj⟩,aa,ab⟩))]) [])
  (J (aL ba 0)
  v10
  (J (dh (len aa:Int) ba)
  v10
  (J (aL bb 1)
  v10
  (J (aL 8 bb)
  v10
  ((len ws*8<=140737488355328/\len ah*8<=140737488355328/\len aa<=1000/\len ab<=1000) /\
  J (!up)
  v11
  (J (ar v1.n bb)
  (J v1.dv
  (J (ar mk 3)
  (J (!(!v1.ended))
  v11
  v11)
  (J (ar mk 6)
  (J (!(!v1.ended))
  v11
  (((0:Int)<=ba/\ba<(len ab:Int)) /\
  Int.toNat ba<len ab /\
  len (setAt ab (Int.toNat ba) true)<=1000 /\
  cR))
  (J (ar mk 7)
  (J (!(!v1.ended))
  v9
  v9)
  v11)))
  (J (ar mk 3)
  (J (!(!v1.ended))
  v11
  (J v1.abort
  v11
  (J (!cz)
  v11
  (((0:Int)<=ba/\ba<(len aa:Int)) /\
  Int.toNat ba<len aa /\
  len (setAt aa (Int.toNat ba) true)<=1000 /\
  J (!(hasB false (setAt aa (Int.toNat ba) true)))
  (List.length ((2:Int)::v1.n::[])<=140737488355328 /\
  K (.ao [.agg (jg (dN ⟨⟨ws,fu⟩,up,⟨⟨al,ah,ak⟩,aj⟩,setAt aa (Int.toNat ba) true,ab⟩ ((2:Int)::v1.n::[])).fst),.one (bs []),.one (A 0)]) [])
  (K (.ao [.agg [af ws,A fu,ax up,A al,af ah,A ak,A aj,bh (setAt aa (Int.toNat ba) true),bh ab],.one (bs []),.one (A 0)]) [])))))
  (J (ar mk 6)
  (J (!(!v1.ended))
  v11
  (J (!v1.abort)
  v11
  (((0:Int)<=ba/\ba<(len ab:Int)) /\
  Int.toNat ba<len ab /\
  len (setAt ab (Int.toNat ba) true)<=1000 /\
  cR)))
  (J (ar mk 7)
  (J (!(!v1.ended))
  v9
  (J v1.abort
  v9
  v11))
  v11))))
  (J v1.dv
  dy
  dy)))))))))) ?_
 subst oN nf jY kH iL b9;refine bG (fun h=>?_) (fun h=>?_)
 ·rw[show hS ⟨⟨ws,fu⟩,up,⟨⟨al,ah,ak⟩,aj⟩,aa,ab⟩ ⟨mk,ba,bb,bB,ch,bQ,cz⟩=((kK,[]),dG ⟨⟨ws,fu⟩,up,⟨⟨al,ah,ak⟩,aj⟩,aa,ab⟩)from by unfold hS sv;rw[if_neg h,if_neg h]]at D;exact D
 have ud:((len aa:Nat):Int)=(aa.length:Int):=rfl;have oP:((len ab:Nat):Int)=(ab.length:Int):=rfl;rw[ud,oP]
 by_cases c:ba<0\/(aa.length:Int)<=ba\/bb<1\/8<bb
 ·rw[show hS ⟨⟨ws,fu⟩,up,⟨⟨al,ah,ak⟩,aj⟩,aa,ab⟩ ⟨mk,ba,bb,bB,ch,bQ,cz⟩=((kK,[]),3)from by
   have e:sv ⟨⟨ws,fu⟩,up,⟨⟨al,ah,ak⟩,aj⟩,aa,ab⟩ ⟨mk,ba,bb,bB,ch,bQ,cz⟩=3:=by unfold sv;rw[if_pos h,if_pos (by exact c)]
   unfold hS;rw[e,if_neg (by decide)]]at D
  exact bq (fun _=>D) (fun _=>b3 (fun _=>D) (fun G=>bq (fun _=>D) (fun _=>cV (by rw[eL]at G;omega) D)))
 obtain⟨ia,iP,kQ,pV⟩:=r7 h;obtain⟨_,v1,aC,v3,_⟩:=iH h;simp only at v1 aC v3;refine ci (by omega) (e7 (eL.2 (by omega)) (ci (by omega) (ci (by omega) ⟨⟨ia,iP,kQ,pV⟩,?_⟩)));rw[R0 h (by simp only;omega)]at D;have Be:len (setAt aa (Int.toNat ba) true)<=1000:=by simp only[len,uA];omega
 have Bd:len (setAt ab (Int.toNat ba) true)<=1000:=by simp only[len,uA];omega
 have Em:Int.toNat ba<len aa:=by simp only[len];omega
 have El:Int.toNat ba<len ab:=by simp only[len];omega
 unfold iJ at D;cases up
 ·rw[if_neg (by simp)]at D;exact K3 rfl D
 rw[if_pos rfl]at D;refine sP rfl ?_;obtain⟨s,av⟩:∃s,bN ⟨ws,fu⟩=s:=⟨_,rfl⟩
 simp only[av]at D |-;rw[show(⟨s.n,s.version,s.dv,s.abort,s.ended⟩:bF.ie)=s from rfl];obtain⟨g,bt⟩:∃g:uX,(⟨⟨ws,fu⟩,true,⟨⟨al,ah,ak⟩,aj⟩,aa,ab⟩:uX)=g:=⟨_,rfl⟩
 have nP:g8 g s ⟨mk,ba,bb,bB,ch,bQ,cz⟩=(g,[])->K (.ao [.agg [af ws,A fu,ax true,A al,af ah,A ak,A aj,bh aa,bh ab],.one (bs []),.one (A (0:Int))]) []:=fun e=>by rw[bt,e,<- bt]at D;exact D
 have sp:g8 g s ⟨mk,ba,bb,bB,ch,bQ,cz⟩=(g,[rf s ba bb])->K (.ao [.agg [af ws,A fu,ax true,A al,af ah,A ak,A aj,bh aa,bh ab],.one (bs [⟨nY s bb,ba,bb,0,0,[],false⟩]),.one (A (0:Int))]) []:=fun e=>by rw[bt,e,<- bt]at D;exact D
 have JC:g8 g s ⟨mk,ba,bb,bB,ch,bQ,cz⟩=(p0 g ba,[])->K (.ao [.agg [af ws,A fu,ax true,A al,af ah,A ak,A aj,bh (setAt aa (Int.toNat ba) true),bh ab],.one (bs []),.one (A (0:Int))]) []:=fun e=>by rw[bt,e,<- bt]at D;exact D
 have JE:g8 g s ⟨mk,ba,bb,bB,ch,bQ,cz⟩=(pk g ba,[])->K (.ao [.agg [af ws,A fu,ax true,A al,af ah,A ak,A aj,bh aa,bh (setAt ab (Int.toNat ba) true)],.one (bs []),.one (A (0:Int))]) []:=fun e=>by rw[bt,e,<- bt]at D;exact D
 have JD:g8 g s ⟨mk,ba,bb,bB,ch,bQ,cz⟩=((dN (p0 g ba) [2,s.n]).1,[])->K (.ao [.agg (jg (dN ⟨⟨ws,fu⟩,true,⟨⟨al,ah,ak⟩,aj⟩,setAt aa (Int.toNat ba) true,ab⟩ [2,s.n]).1),.one (bs []),.one (A (0:Int))]) []:=fun e=>by rw[bt,e,<- bt]at D;exact D
 have JF:g8 g s ⟨mk,ba,bb,bB,ch,bQ,cz⟩=((dN (pk g ba) [4,s.n]).1,[])->K (.ao [.agg (jg (dN ⟨⟨ws,fu⟩,true,⟨⟨al,ah,ak⟩,aj⟩,aa,setAt ab (Int.toNat ba) true⟩ [4,s.n]).1),.one (bs []),.one (A (0:Int))]) []:=fun e=>by rw[bt,e,<- bt]at D;exact D
 clear D;have Dz:(p0 g ba).cH=setAt aa (Int.toNat ba) true:=by rw[<- bt];rfl
 have Dt:(pk g ba).did=setAt ab (Int.toNat ba) true:=by rw[<- bt];rfl
 have Y:mk=3->g8 g s ⟨mk,ba,bb,bB,ch,bQ,cz⟩=if s.n≠bb\/s.ended=true\/s.dv=true\/s.abort=true\/cz=false then(g,[])else(s2 g s ba,[]):=fun e=>by unfold g8;rw[if_pos (by exact e)]
 have bK:mk=6->g8 g s ⟨mk,ba,bb,bB,ch,bQ,cz⟩=if s.n≠bb\/s.ended=true\/(s.dv=false/\s.abort=false)then(g,[])else(sb g s ba,[]):=fun e=>by unfold g8;rw[if_neg (by simp only;omega),if_pos (by exact e)]
 have c4:mk=7->g8 g s ⟨mk,ba,bb,bB,ch,bQ,cz⟩=if s.n≠bb\/s.ended=true\/s.dv=true\/s.abort=true then(g,[rf s ba bb])else(g,[]):=fun e=>by unfold g8;rw[if_neg (by simp only;omega),if_neg (by simp only;omega),if_pos (by exact e)]
 have a2:mk≠3->mk≠6->mk≠7->g8 g s ⟨mk,ba,bb,bB,ch,bQ,cz⟩=(g,[]):=fun a b c=>by unfold g8;rw[if_neg (by exact a),if_neg (by exact b),if_neg (by exact c)]
 have sr:(s.dv=true\/s.dv=false):=by cases s.dv<;>simp
 have AF:(s.abort=true\/s.abort=false):=by cases s.abort<;>simp
 have JN:(s.ended=true\/s.ended=false):=by cases s.ended<;>simp
 by_cases aq:s.n=bb
 ·refine k0 aq ?_;rcases sr with aA|aA<;>rcases AF with bl|bl<;>rcases JN with bv|bv<;>rw[aA,bv]<;>rw[aA,bl,bv,aq]at Y bK c4<;>simp only[ne_eq,not_true_eq_false,Bool.true_eq_false,Bool.false_eq_true,true_or,or_true,false_or,or_false,and_false,false_and,and_true,true_and,and_self,if_true,if_false,Bool.not_eq_false]at Y bK c4
  all_goals
   try rw[bl]
   try simp only[J,Bool.not_true,Bool.not_false]
   refine cI (fun k=>?_) (fun dm=>cI (fun k=>?_) (fun jF=>cI (fun k=>?_) (fun l1=>nP (a2 dm jF l1))))
   ·first
     |exact nP (Y k)
     |(refine ew (fun q=>nP (by rw[Y k,if_pos q])) (fun q=>⟨⟨by omega,by omega⟩,Em,Be,?_⟩)
       refine ew (fun cL=>⟨by simp,JD (by rw[Y k,if_neg (by rw[q];simp)];unfold s2;rw[Dz,cL];rfl)⟩) (fun cL=>JC (by rw[Y k,if_neg (by rw[q];simp)];unfold s2;rw[Dz,cL];rfl)))
   ·first
     |exact nP (bK k)
     |(refine⟨⟨by omega,by omega⟩,El,Bd,ew (fun cL=>⟨by simp,JF (by rw[bK k];unfold sb;rw[Dt,cL];rfl)⟩) (fun cL=>JE (by rw[bK k];unfold sb;rw[Dt,cL];rfl))⟩)
   ·first
     |exact sp (c4 k)
     |exact nP (c4 k)
 ·refine iV aq ?_;rw[if_pos (.inl aq)]at Y bK c4;refine b3 (fun _=>?_) (fun _=>?_)<;>exact cI (fun k=>nP (Y k)) (fun dm=>cI (fun k=>nP (bK k)) (fun jF=>cI (fun k=>sp (c4 k)) (fun l1=>nP (a2 dm jF l1))))

def PB:a7
 |[.one (.E (.list (.list .int)) l)],[]=>some (some (len l<=1000/\uk l=true),.agg [A (hX l).slot,A (hX l).e2,A (hX l).ready],[])
 |_,_=>none
def Cj:Ctx:=[]
def qO:List cu:=[.inLoop [8,7,6,3,2] (Code.sub (bR Tryz.f164) [1,1,0,1,0,0]),.inBlock 0,.code (Code.sub (bR Tryz.f164) [1,1,1])]
def EM(F ai:Int)(M:cj)(ag an aE aI aV aZ:Int):bO:=⟨[(8,.one (A F)),(7,.one (A ai)),(6,.one (ct M)),(3,.one (.ptr 0 0)),(2,.one (.ptr 1 0))],[(0,.box [A ag,A an,A aE]),(1,.box [A aI,A aV,A aZ])],2⟩
theorem ag8(l:cj)(rec:bV)(K:aU):b5 Cj tab Tryz.f164 0 K rec [.code (bR Tryz.f164)] (df [.one (ct l)] [])=(
 rec qO (EM 0 (len l:Int) l 0 0 0 0 0 0)):=by kernel_rfl
theorem VB{F ag an aE:Int}{rec:bV}{K:aU}{ai M aI aV aZ}{v0 aC v1}(bX:v0=fun a b c d=>EM a ai M b c d aI aV aZ)(cT:aC=J (ar (nth (nth M (Int.toNat F) (z.H (z.list z.int))) (Int.toNat 0) (z.H z.int)) 3)
 (J (ar (((len (nth M (Int.toNat F) (z.H (z.list z.int)))):Nat):Int) 2)
 (rec qO (v0 (U (F+1)) ag an 0))
 (rec qO (v0 (U (F+1)) ag an aE)))
 (rec qO (v0 (U (F+1)) ag an aE))) (b9:v1=J (ar (nth (nth M (Int.toNat F) (z.H (z.list z.int))) (Int.toNat 0) (z.H z.int)) 2)
 (J (ar (((len (nth M (Int.toNat F) (z.H (z.list z.int)))):Nat):Int) 2)
 (((0:Int)<=(1:Int)/\(1:Int)<(((len (nth M (Int.toNat F) (z.H (z.list z.int)))):Nat):Int)) /\
 rec qO (v0 (U (F+1)) ag an (nth (nth M (Int.toNat F) (z.H (z.list z.int))) (Int.toNat 1) (z.H z.int))))
 (((0:Int)<=(0:Int)/\(0:Int)<(((len (nth M (Int.toNat F) (z.H (z.list z.int)))):Nat):Int)) /\
 aC))
 (((0:Int)<=(0:Int)/\(0:Int)<(((len (nth M (Int.toNat F) (z.H (z.list z.int)))):Nat):Int)) /\
 aC)):b5 Cj tab Tryz.f164 0 K rec (cU qO) (v0 F ag an aE)=(
 J (aL F ai)
 (((0:Int)<=F/\F<(len M:Int)) /\
 ((0:Int)<=(0:Int)/\(0:Int)<(((len (nth M (Int.toNat F) (z.H (z.list z.int)))):Nat):Int)) /\
 J (ar (nth (nth M (Int.toNat F) (z.H (z.list z.int))) (Int.toNat 0) (z.H z.int)) 1)
 (J (ar (((len (nth M (Int.toNat F) (z.H (z.list z.int)))):Nat):Int) 3)
 (((0:Int)<=(1:Int)/\(1:Int)<(((len (nth M (Int.toNat F) (z.H (z.list z.int)))):Nat):Int)) /\
 J (dh (nth (nth M (Int.toNat F) (z.H (z.list z.int))) (Int.toNat 1) (z.H z.int)) 1)
 (((0:Int)<=(1:Int)/\(1:Int)<(((len (nth M (Int.toNat F) (z.H (z.list z.int)))):Nat):Int)) /\
 ((0:Int)<=(2:Int)/\(2:Int)<(((len (nth M (Int.toNat F) (z.H (z.list z.int)))):Nat):Int)) /\
 rec qO (v0 (U (F+1)) (nth (nth M (Int.toNat F) (z.H (z.list z.int))) (Int.toNat 1) (z.H z.int)) (nth (nth M (Int.toNat F) (z.H (z.list z.int))) (Int.toNat 2) (z.H z.int)) 0))
 (((0:Int)<=(0:Int)/\(0:Int)<(((len (nth M (Int.toNat F) (z.H (z.list z.int)))):Nat):Int)) /\
 v1))
 (((0:Int)<=(0:Int)/\(0:Int)<(((len (nth M (Int.toNat F) (z.H (z.list z.int)))):Nat):Int)) /\
 v1))
 (((0:Int)<=(0:Int)/\(0:Int)<(((len (nth M (Int.toNat F) (z.H (z.list z.int)))):Nat):Int)) /\
 v1))
 (K (.agg [A ag,A an,A aE]) [])):=by subst_vars;kernel_rfl

theorem TT(l:cj)(az:l.length<=1000)(aq:uk l=true)(K:aU)(aI aV aZ:Int):∀(d k:Nat) (a b c:Int),k+d=l.length->K (.agg [A ((l.drop k).foldl hk ⟨a,b,c⟩).slot,A ((l.drop k).foldl hk ⟨a,b,c⟩).e2,A ((l.drop k).foldl hk ⟨a,b,c⟩).ready]) [] ->
  co Cj tab Tryz.f164 0 K (d+1) qO (EM (k:Int) (((len l):Nat):Int) l a b c aI aV aZ)
 |0,k,a,b,c,ae,D=>by
  rw[bW (L:=qO),VB rfl rfl rfl];rw[List.drop_of_length_le (by omega)]at D;exact ci (by simp only[len];omega) D
 |d+1,k,a,b,c,ae,D=>by
  rw[bW (L:=qO),VB rfl rfl rfl,cM];have aB:nth l k (z.H (z.list z.int))∈l:=by
   have:k<l.length:=by omega
   simp[nth,List.getD_eq_getElem?_getD,this]
  have a2:0<(nth l k (z.H (z.list z.int))).length:=by simpa using List.all_eq_true.1 aq _ aB
  rw[ee (by omega) (z.H (z.list z.int))]at D;obtain⟨r,aw⟩:∃r,nth l k (z.H (z.list z.int))=r:=⟨_,rfl⟩
  rw[aw]at D a2 |-;rw[List.foldl_cons]at D;have hF:U ((k:Int)+1)=((k+1:Nat):Int):=di (by omega);rw[hF];have kL:∀ey ft fN:Int,hk ⟨a,b,c⟩ r=⟨ey,ft,fN⟩->co Cj tab Tryz.f164 0 K (d+1) qO (EM ((k+1:Nat):Int) (((len l):Nat):Int) l ey ft fN aI aV aZ):=fun ey ft fN e=>by
   rw[e]at D;exact TT l az aq K aI aV aZ d (k+1) ey ft fN (by omega) D
  obtain⟨jb,dU⟩:∃jb,r.getD 0 0=jb:=⟨_,rfl⟩
  obtain⟨gi,aN⟩:∃gi,r.getD 1 0=gi:=⟨_,rfl⟩
  obtain⟨jc,aX⟩:∃jc,r.getD 2 0=jc:=⟨_,rfl⟩
  have es:hk ⟨a,b,c⟩ r=if jb=1/\r.length=3/\gi<=1 then⟨gi,jc,0⟩else if jb=2/\r.length=2 then⟨a,b,gi⟩else if jb=3/\r.length=2 then⟨a,b,0⟩else⟨a,b,c⟩:=by
   unfold hk;rw[dU,aN,aX]
  rw[show nth r (Int.toNat 0) (z.H z.int)=jb from dU,show nth r (Int.toNat 1) (z.H z.int)=gi from aN,show nth r (Int.toNat 2) (z.H z.int)=jc from aX];have hlen:len r=r.length:=rfl;rw[hlen];rw[es]at kL;clear D es;refine cV (by simp only[len];omega) ⟨⟨by omega,by simp only[len];omega⟩,⟨by omega,by omega⟩,?_⟩
  by_cases bp:jb=1
  ·refine k0 bp (cI (fun G=>⟨⟨by omega,by omega⟩,b3 (fun Y=>?_) (fun Y=>?_)⟩) (fun G=>?_))
   ·rw[fY]at Y;exact⟨⟨by omega,by omega⟩,⟨by omega,by omega⟩,kL _ _ _ (if_pos ⟨bp,by omega,Y⟩)⟩
   ·rw[eL]at Y;exact⟨⟨by omega,by omega⟩,iV (by omega) ⟨⟨by omega,by omega⟩,iV (by omega) (kL _ _ _ (by rw[if_neg (by omega),if_neg (by omega),if_neg (by omega)]))⟩⟩
   ·exact⟨⟨by omega,by omega⟩,iV (by omega) ⟨⟨by omega,by omega⟩,iV (by omega) (kL _ _ _ (by rw[if_neg (by omega),if_neg (by omega),if_neg (by omega)]))⟩⟩
  ·refine iV bp ⟨⟨by omega,by omega⟩,?_⟩
   by_cases bc:jb=2
   ·refine k0 bc (cI (fun G=>⟨⟨by omega,by omega⟩,kL _ _ _ (by rw[if_neg (by omega),if_pos (by omega)])⟩) (fun G=>⟨⟨by omega,by omega⟩,iV (by omega) (kL _ _ _ (by rw[if_neg (by omega),if_neg (by omega),if_neg (by omega)]))⟩))
   ·refine iV bc ⟨⟨by omega,by omega⟩,cI (fun Y=>cI (fun aS=>kL _ _ _ (by rw[if_neg (by omega),if_neg (by omega),if_pos (by omega)])) (fun aS=>kL _ _ _ (by rw[if_neg (by omega),if_neg (by omega),if_neg (by omega)]))) (fun Y=>kL _ _ _ (by rw[if_neg (by omega),if_neg (by omega),if_neg (by omega)]))⟩
theorem ajJ:bo 164 PB:=b2 (Γ:=Cj) 0 bn Tryz.func164 (by kernel_rfl) fun vs au=>by
 unfold PB;split;rotate_left;trivial;rename_i l;refine⟨by kernel_rfl,fun ad K D=>?_⟩;refine⟨l.length+2,?_⟩;rw[eB,ag8 _ _ _];exact TT l ad.1 ad.2 K 0 0 0 l.length 0 0 0 0 (by omega) D

def PC:a7
 |[.agg [.E (.list .int) ws,.E .int fu,.E .bool _,.E .int _,.E .int _]],[]=>some (none,.agg [A (c5 ⟨ws,fu⟩).slot,A (c5 ⟨ws,fu⟩).e2,A (c5 ⟨ws,fu⟩).ready],[])
 |_,_=>none

theorem Fp:bo 108 PC:=b2 0 ((bn.f ajJ).f Nw) Tryz.func108 (by kernel_rfl) fun vs au=>by
 unfold PC;split;rotate_left;trivial;rename_i ws fu up bw bz;refine⟨by kernel_rfl,fun K D=>?_⟩;refine⟨1,?_⟩;refine cf (fun rec=>(by kernel_rfl:_=(
  (len (kp ⟨ws,fu⟩).fst<=1000/\uk (kp ⟨ws,fu⟩).fst=true) /\
  K (.agg [A (hX (kp ⟨ws,fu⟩).fst).slot,A (hX (kp ⟨ws,fu⟩).fst).e2,A (hX (kp ⟨ws,fu⟩).fst).ready]) []))) ?_
 have h:=BJ ⟨ws,fu⟩;exact⟨⟨by simp only[len];omega,K2 h.2⟩,D⟩

def Qq:a7
 |[.agg [.E (.list .int) ws,.E .int fu],.one (.E .int slot)],[]=>some (none,.one (A (eX ⟨ws,fu⟩ slot)),[])
 |_,_=>none

theorem BZ:bo 149 Qq:=b2 0 (bn.f B0) Tryz.func149 (by kernel_rfl) fun vs au=>by
 unfold Qq;split;rotate_left;trivial;rename_i ws fu slot;refine⟨by kernel_rfl,fun K D=>?_⟩;refine⟨1,?_⟩;refine cf (fun rec=>(by kernel_rfl:_=(
  J (!(ar (e9 (⟨ws,fu⟩:cp)) 0))
  (K (.one (A (e9 (⟨ws,fu⟩:cp)))) [])
  (J (!(ar (len ws:Int) 192))
  (K (.one (A 4)) [])
  (J (!(ar slot 0))
  (J (!(ar slot 1))
  (K (.one (A 5)) [])
  (K (.one (A 0)) []))
  (K (.one (A 0)) [])))))) ?_
 unfold eX at D;refine bG (fun h=>?_) (fun h=>?_)
 ·rw[if_neg h]at D;exact D
 rw[if_pos h]at D;refine bG (fun G=>?_) (fun G=>?_)
 ·rw[if_neg (by simp only[len]at G |-; omega)]at D;exact D
 rw[if_pos (by simp only[len]at G |-; omega)]at D;refine bG (fun Y=>bG (fun aS=>?_) (fun aS=>?_)) (fun Y=>?_)
 ·rw[if_neg (by omega)]at D;exact D
 ·rw[if_pos (by omega)]at D;exact D
 ·rw[if_pos (by omega)]at D;exact D

def H8:a7
 |[.agg [.E (.list .int) ws,.E .int fu],.one (.E .int slot)],[]=>some (none,.ao [.agg [af (hv ⟨ws,fu⟩ slot).1.words,A (hv ⟨ws,fu⟩ slot).1.fuel],.one (A (hv ⟨ws,fu⟩ slot).2)],[])
 |_,_=>none

theorem ak0:bo 217 H8:=b2 0 (((bn.f Nz).f B1).f BZ) Tryz.func217 (by kernel_rfl) fun vs au=>by
 unfold H8;split;rotate_left;trivial;rename_i ws fu slot;refine⟨by kernel_rfl,fun K D=>?_⟩;refine⟨1,?_⟩;obtain⟨aC,cT⟩:∃aC,aC=cc (⟨ws,fu⟩:cp) (eN (U ((2:Int)+U ((2:Int)*slot)))):=⟨_,rfl⟩
 obtain⟨v4,e5⟩:∃v4,v4=cc (aC.fst:cp) (eN (U ((3:Int)+U ((2:Int)*slot)))):=⟨_,rfl⟩
 refine cf (fun rec=>(by subst e5 cT;kernel_rfl:_=(
  J (!(ar (eX (⟨ws,fu⟩:cp) slot) 0))
  (K (.ao [.agg [af [],A (0:Int)],.one (A (eX (⟨ws,fu⟩:cp) slot))]) [])
  (len ws*8<=140737488355328 /\
  ((-1)<=fu/\fu<=100000/\(0:Int)<=U ((2:Int)+U ((2:Int)*slot))/\(U ((2:Int)+U ((2:Int)*slot))+1)*32<=(len ws:Int)/\len ws<=192) /\
  J (!aC.snd)
  (K (.ao [.agg [af aC.fst.words,A aC.fst.fuel],.one (A 7)]) [])
  (((-1)<=aC.fst.fuel/\aC.fst.fuel<=100000/\(0:Int)<=U ((3:Int)+U ((2:Int)*slot))/\(U ((3:Int)+U ((2:Int)*slot))+1)*32<=(len aC.fst.words:Int)/\len aC.fst.words<=192) /\
  J (!v4.snd)
  (K (.ao [.agg [af v4.fst.words,A v4.fst.fuel],.one (A 7)]) [])
  (K (.ao [.agg [af v4.fst.words,A v4.fst.fuel],.one (A 0)]) [])))))) ?_
 subst e5 cT;unfold hv at D;refine bG (fun h=>?_) (fun h=>?_)
 ·rw[if_neg h]at D;exact D
 rw[if_pos h]at D;obtain⟨I,G,Y⟩:=r9 h;obtain⟨bp,bc,cq,dq⟩:=jx I;simp only at bc cq G;rw[cb (n:=2*slot) (by omega) (by omega),cb (n:=2+2*slot) (by omega) (by omega),cb (n:=3+2*slot) (by omega) (by omega)];unfold Ai at D;rw[xi]at D;have b6:=sa ⟨ws,fu⟩ (eN (2+2*slot)) bc cq;have az:=tl ⟨ws,fu⟩ (eN (2+2*slot));simp only[len]at az |-;refine⟨by omega,⟨bc,cq,by omega,by omega,by omega⟩,ew (fun bj=>?_) (fun bj=>⟨⟨b6.1,b6.2,by omega,by omega,by omega⟩,ew (fun bK=>?_) (fun bK=>?_)⟩)⟩
 ·rw[if_neg (by simp[bj])]at D;simp only[gh,ko,bj]at D;exact D
 ·rw[if_pos bj]at D;simp only[gh,ko,bK]at D;exact D
 ·rw[if_pos bj]at D;simp only[gh,ko,bK]at D;exact D

def Qp:a7
 |[.one (.E .int slot)],[]=>some (some (0<=slot/\slot<=1),.one (A (64+64*slot)),[])
 |_,_=>none
def OH:Ctx:=[]
theorem af1:fr Tryz.prog tab OH:=bn
theorem ah3(slot:Int)(rec:bV)(K:aU):b5 OH tab Tryz.f151 0 K rec [.code (bR Tryz.f151)] (df [.one (A slot)] [])=(
 K (.one (A (U (U ((2:Int)+U ((2:Int)*slot))*32)))) []):=by kernel_rfl

theorem ai2(ad:0<=slot/\slot<=1)(K:aU)(D:K (.one (A (64+64*slot))) []):∃m,co OH tab Tryz.f151 0 K m [.code (bR Tryz.f151)] (df [.one (A slot)] []):=by
 refine⟨1,?_⟩;rw[eB,ah3 _ _ _];rw[cb (n:=2*slot) (by omega) (by omega),cb (n:=2+2*slot) (by omega) (by omega),cb (by omega) (by omega),show(2+2*slot)*32=64+64*slot by omega];exact D
theorem Fv:bo 151 Qp:=hj af1 Tryz.func151 (by kernel_rfl) (by
 intro vs au p v du h ad;unfold Qp at h;split at h
 ·cases h;exact⟨by kernel_rfl,rfl,.inl (ai2 _ ad.1 _ ⟨rfl,rfl⟩)⟩
 ·cases h)

def P4:a7
 |[.agg [.E (.list .int) ws,.E .int fu],.one (.E .int at_),.one (.E (.list .int) l)],[]=>some (some (eW l),.ao [.agg [af (jr ⟨ws,fu⟩ at_ l).1.words,A (jr ⟨ws,fu⟩ at_ l).1.fuel],.one (A (jr ⟨ws,fu⟩ at_ l).2)],[])
 |_,_=>none

theorem X2:bo 150 P4:=b2 0 ((((bn.f (kV.or M5 ND)).f B1).f Nh).f B0) Tryz.func150 (by kernel_rfl) fun vs au=>by
 unfold P4;split;rotate_left;trivial;rename_i ws fu at_ l;dsimp only[z.den]at ws fu at_ l;refine⟨by kernel_rfl,fun ad K D=>?_⟩;refine⟨1,?_⟩;obtain⟨v3,ed⟩:∃v3,v3=cc ⟨ws,fu⟩ (cE at_ l):=⟨_,rfl⟩
 obtain⟨v4,e5⟩:∃v4,v4=K (.ao [.agg [af [],A (0:Int)],.one (A 5)]) []:=⟨_,rfl⟩
 refine cf (fun rec=>(by subst e5 ed;kernel_rfl:_=(
  J (!(ar (e9 ⟨ws,fu⟩) 0))
  (K (.ao [.agg [af [],A (0:Int)],.one (A (e9 ⟨ws,fu⟩))]) [])
  (J (aL at_ 0)
  v4
  (J (aL (len ws:Int) at_)
  v4
  (J (aL (U ((len ws:Int)-at_)) (len l:Int))
  v4
  (List.length l<=140737488355328 /\
  J (!(cC l))
  (K (.ao [.agg [af [],A (0:Int)],.one (A 3)]) [])
  (len ws*8<=140737488355328 /\
  ((-1)<=fu/\fu<=100000/\(0:Int)<=at_/\at_+(len l:Int)<=(len ws:Int)/\len ws<=192) /\
  J (!v3.snd)
  (K (.ao [.agg [af v3.fst.words,A v3.fst.fuel],.one (A 7)]) [])
  (K (.ao [.agg [af v3.fst.words,A v3.fst.fuel],.one (A 0)]) []))))))))) ?_
 subst e5 ed;unfold jr at D;refine bG (fun h=>?_) (fun h=>?_)
 ·rw[if_neg h]at D;exact D
 rw[if_pos h]at D;obtain⟨bp,bc,cq,dq⟩:=jx h;obtain⟨hE,gv⟩:=rQ bp;simp only at bc cq hE gv;have kB:¬(0<=at_/\at_<=(ws.length:Int)/\(l.length:Int)<=ws.length-at_)->K (.ao [.agg [af [],A 0],.one (A 5)]) []:=fun aq=>by
  rw[if_neg aq]at D;exact D
 simp only[len];refine bq (fun I=>kB (by omega)) (fun I=>bq (fun G=>kB (by omega)) (fun G=>?_));rw[cb (by omega) (by omega)];refine bq (fun Y=>kB (by omega)) (fun Y=>⟨ad,ew (fun aS=>?_) (fun aS=>?_)⟩)
 ·rw[if_pos ⟨I,G,Y⟩,if_neg (by rw[aS];simp)]at D;exact D
 ·rw[if_pos ⟨I,G,Y⟩,if_pos aS]at D;refine⟨by omega,⟨bc,cq,I,by omega,by omega⟩,ew (fun bj=>?_) (fun bj=>?_)⟩
  ·simp only[gh,ko,bj]at D;exact D
  ·simp only[gh,ko,bj]at D;exact D

def C6:a7
 |[.agg [.E (.list .int) ws,.E .int fu],.one (.E .int slot),.one (.E .int at_),.one (.E (.list .int) l)],[]=>some (some (eW l),.ao [.agg [af (fa ⟨ws,fu⟩ slot at_ l).1.words,A (fa ⟨ws,fu⟩ slot at_ l).1.fuel],.one (A (fa ⟨ws,fu⟩ slot at_ l).2)],[])
 |_,_=>none

theorem Yv:bo 95 C6:=b2 0 (((bn.f X2).f Fv).f BZ) Tryz.func95 (by kernel_rfl) fun vs au=>by
 unfold C6;split;rotate_left;trivial;rename_i ws fu slot at_ l;dsimp only[z.den]at ws fu slot at_ l;refine⟨by kernel_rfl,fun ad K D=>?_⟩;refine⟨1,?_⟩;obtain⟨v1,b9⟩:∃v1,v1=jr (⟨ws,fu⟩:cp) (U (U ((64:Int)+(64:Int)*slot+4)+at_)) l:=⟨_,rfl⟩
 obtain⟨aC,cT⟩:∃aC,aC=K (.ao [.agg [af [],A (0:Int)],.one (A 2)]) []:=⟨_,rfl⟩
 refine cf (fun rec=>(by subst cT b9;kernel_rfl:_=(
  J (!(ar (eX (⟨ws,fu⟩:cp) slot) 0))
  (K (.ao [.agg [af [],A (0:Int)],.one (A (eX (⟨ws,fu⟩:cp) slot))]) [])
  (J (aL at_ 0)
  aC
  (J (aL 40 at_)
  aC
  (J (aL (U ((40:Int)-at_)) (len l:Int))
  aC
  (((0:Int)<=slot/\slot<=1) /\
  List.length l<=140737488355328 /\
  K (.ao [.agg [af v1.fst.words,A v1.fst.fuel],.one (A v1.snd)]) []))))))) ?_
 subst cT b9;unfold fa at D;refine bG (fun h=>?_) (fun h=>?_)
 ·rw[if_neg h]at D;exact D
 rw[if_pos h]at D;obtain⟨I,G,Y⟩:=r9 h;simp only[len];refine bq (fun aS=>?_) (fun aS=>bq (fun bj=>?_) (fun bj=>?_))
 ·rw[if_neg (by omega)]at D;exact D
 ·rw[if_neg (by omega)]at D;exact D
 rw[cb (n:=40-at_) (by omega) (by omega)];refine bq (fun bK=>?_) (fun bK=>?_)
 ·rw[if_neg (by omega)]at D;exact D
 rw[cb (n:=64+64*slot+4) (by omega) (by omega),cb (by omega) (by omega),show 64+64*slot+4+at_=68+64*slot+at_ by omega];rw[if_pos (by omega)]at D;exact⟨by omega,ad,D⟩

def PE:a7
 |[.one (.ptr 0 0)],[.box [.E (.list .int) ws,.E .int fu,.E .bool up,.E .int bw,.E .int bz]]=>some (none,.ao [],[.box (fJ (aaJ ⟨⟨ws,fu⟩,up,bw,bz⟩))])
 |_,_=>none

theorem XL:bo 181 PE:=b2 1 bn Tryz.func181 (by kernel_rfl) fun vs au=>by
 unfold PE;split;rotate_left;trivial;rename_i ws fu up bw bz;refine⟨by kernel_rfl,fun K D=>?_⟩;refine⟨1,?_⟩;refine cf (fun rec=>(by kernel_rfl:_=(
  K (.ao []) [.box [af ws,A fu,ax false,A (0:Int),A (0:Int)]]))) ?_
 exact D

def CP:a7
 |[.one (.ptr 0 0),.agg [.E (.list .int) gs,.E .int mB],.one (.E .int e)],[.box [.E (.list .int) ws,.E .int fu,.E .bool up,.E .int bw,.E .int bz]]=>some (none,.one (ax (e8 ⟨⟨ws,fu⟩,up,bw,bz⟩ ⟨gs,mB⟩ e).2),[.box (fJ (e8 ⟨⟨ws,fu⟩,up,bw,bz⟩ ⟨gs,mB⟩ e).1)])
 |_,_=>none

theorem Nd:bo 218 CP:=b2 1 (bn.f XL) Tryz.func218 (by kernel_rfl) fun vs au=>by
 unfold CP;split;rotate_left;trivial;rename_i gs mB e ws fu up bw bz;refine⟨by kernel_rfl,fun K D=>?_⟩;refine⟨1,?_⟩;refine cf (fun rec=>(by kernel_rfl:_=(
  J (ar e 0)
  (K (.one (ax true)) [.box [af gs,A mB,ax up,A bw,A bz]])
  (J (ar e 7)
  (K (.one (ax false)) [.box [af gs,A mB,ax false,A (0:Int),A (0:Int)]])
  (K (.one (ax false)) [.box [af ws,A fu,ax up,A bw,A bz]]))))) ?_
 unfold e8 at D;refine cI (fun h=>?_) (fun h=>cI (fun G=>?_) (fun G=>?_))
 ·rw[if_pos h]at D;exact D
 ·rw[if_neg h,if_pos G]at D;exact D
 ·rw[if_neg h,if_neg G]at D;exact D

def PF:a7
 |[.one (.ptr 0 0),.agg [.E .int dk,.E .int fT,.E .int fQ],.agg [.E .int mk,.E .int ba,.E .int bb,.E .int bB,.E .int ch,.E (.list .int) bQ,.E .bool cz]],[.box [.E (.list .int) ws,.E .int fu,.E .bool up,.E .int bw,.E .int bz]]=>some (some (0<=dk/\dk<=1/\0<=bB/\bB<=40/\len bQ<=8),.ao [],[.box (fJ (pQ ⟨⟨ws,fu⟩,up,bw,bz⟩ ⟨dk,fT,fQ⟩ ⟨mk,ba,bb,bB,ch,bQ,cz⟩))])
 |_,_=>none
def Og:Ctx:=[(217,H8),(95,C6),(218,CP)]
theorem afC:fr Tryz.prog tab Og:=(((bn.f Nd).f Yv).f ak0)
theorem aha(ws:aK)(fu:Int)(up:Bool)(bw bz dk fT fQ mk ba bb bB ch:Int)(bQ:aK)(cz:Bool)(rec:bV)(K:aU) v0 (bX:v0=hv ⟨ws,fu⟩ (U ((1:Int)-dk))) v1 (b9:v1=e8 ⟨⟨ws,fu⟩,up,bw,bz⟩ ⟨v0.fst.words,v0.fst.fuel⟩ v0.snd) aC (cT:aC=fa ⟨v1.fst.f.words,v1.fst.f.fuel⟩ (U ((1:Int)-dk)) bB bQ) v3 (ed:v3=e8 ⟨⟨v1.fst.f.words,v1.fst.f.fuel⟩,v1.fst.up,bb,0⟩ ⟨aC.fst.words,aC.fst.fuel⟩ aC.snd) v4 (e5:v4=fa ⟨ws,fu⟩ (U ((1:Int)-dk)) bB bQ) cn (hx:cn=e8 ⟨⟨ws,fu⟩,up,bw,bz⟩ ⟨v4.fst.words,v4.fst.fuel⟩ v4.snd) dy (iL:dy=J (!(ar bw bb))
 (K (.ao []) [.box [af ws,A fu,ax up,A bw,A bz]])
 (J (!(ar bz bB))
 (K (.ao []) [.box [af ws,A fu,ax up,A bw,A bz]])
 (J (aL 40 (U (bB+(len bQ:Int))))
 (K (.ao []) [.box [af ws,A fu,ax up,A bw,A bz]])
 (List.length bQ<=140737488355328 /\
 J cn.snd
 (K (.ao []) [.box [af cn.fst.f.words,A cn.fst.f.fuel,ax cn.fst.up,A cn.fst.n,A (U (cn.fst.eG+(len bQ:Int)))]])
 (K (.ao []) [.box (fJ cn.fst)]))))) cR (kH:cR=K (.ao []) [.box [af v1.fst.f.words,A v1.fst.f.fuel,ax v1.fst.up,A bb,A (0:Int)]]) dR (kG:dR=J (!v1.snd)
 (K (.ao []) [.box (fJ v1.fst)])
 (J (!(ar bb bb))
 cR
 (J (!(ar 0 bB))
 cR
 (J (aL 40 (U (bB+(len bQ:Int))))
 cR
 (List.length bQ<=140737488355328 /\
 J v3.snd
 (K (.ao []) [.box [af v3.fst.f.words,A v3.fst.f.fuel,ax v3.fst.up,A v3.fst.n,A (U (v3.fst.eG+(len bQ:Int)))]])
 (K (.ao []) [.box (fJ v3.fst)])))))):b5 Og tab Tryz.f204 1 K rec [.code (bR Tryz.f204)] (df [.one (.ptr 0 0),.agg [A dk,A fT,A fQ],.agg [A mk,A ba,A bb,A bB,A ch,af bQ,ax cz]] [.box [af ws,A fu,ax up,A bw,A bz]])=(
 J (aL 0 fQ)
 (K (.ao []) [.box [af ws,A fu,ax up,A bw,A bz]])
 (J (dh bb fT)
 (K (.ao []) [.box [af ws,A fu,ax up,A bw,A bz]])
 (J (aL 8 bb)
 (K (.ao []) [.box [af ws,A fu,ax up,A bw,A bz]])
 (J (ar bB 0)
 (J (!(ar bw bb))
 dR
 (J (ar bz 0)
 dR
 dy))
 dy)))):=by subst_vars;kernel_rfl

theorem NW(K:aU)(ws:aK)(fu:Int)(up:Bool)(bw bz dk fT fQ mk ba bb bB ch:Int)(bQ:aK)(cz:Bool)(av:0<=dk/\dk<=1)(bl:0<=bB/\bB<=40)(b8:len bQ<=8)
  (D:K (.ao []) [.box (fJ (po ⟨⟨ws,fu⟩,up,bw,bz⟩ ⟨dk,fT,fQ⟩ ⟨mk,ba,bb,bB,ch,bQ,cz⟩))]) :
  J (!(ar bw bb))
   (K (.ao []) [.box [af ws,A fu,ax up,A bw,A bz]])
   (J (!(ar bz bB))
    (K (.ao []) [.box [af ws,A fu,ax up,A bw,A bz]])
    (J (aL 40 (U (bB+((len bQ:Nat):Int))))
     (K (.ao []) [.box [af ws,A fu,ax up,A bw,A bz]])
     ((List.length bQ<=140737488355328) /\
       J (e8 ⟨⟨ws,fu⟩,up,bw,bz⟩ (fa ⟨ws,fu⟩ (U (1-dk)) bB bQ).1 (fa ⟨ws,fu⟩ (U (1-dk)) bB bQ).2).2
       (K (.ao []) [.box [af (e8 ⟨⟨ws,fu⟩,up,bw,bz⟩ (fa ⟨ws,fu⟩ (U (1-dk)) bB bQ).1 (fa ⟨ws,fu⟩ (U (1-dk)) bB bQ).2).1.f.words,A (e8 ⟨⟨ws,fu⟩,up,bw,bz⟩ (fa ⟨ws,fu⟩ (U (1-dk)) bB bQ).1 (fa ⟨ws,fu⟩ (U (1-dk)) bB bQ).2).1.f.fuel,ax (e8 ⟨⟨ws,fu⟩,up,bw,bz⟩ (fa ⟨ws,fu⟩ (U (1-dk)) bB bQ).1 (fa ⟨ws,fu⟩ (U (1-dk)) bB bQ).2).1.up,A (e8 ⟨⟨ws,fu⟩,up,bw,bz⟩ (fa ⟨ws,fu⟩ (U (1-dk)) bB bQ).1 (fa ⟨ws,fu⟩ (U (1-dk)) bB bQ).2).1.n,A (U ((e8 ⟨⟨ws,fu⟩,up,bw,bz⟩ (fa ⟨ws,fu⟩ (U (1-dk)) bB bQ).1 (fa ⟨ws,fu⟩ (U (1-dk)) bB bQ).2).1.eG+((len bQ:Nat):Int)))]])
       (K (.ao []) [.box (fJ (e8 ⟨⟨ws,fu⟩,up,bw,bz⟩ (fa ⟨ws,fu⟩ (U (1-dk)) bB bQ).1 (fa ⟨ws,fu⟩ (U (1-dk)) bB bQ).2).1)])))):=by
 have az:bQ.length<=8:=b8;rw[cb (n:=1-dk) (by omega) (by omega),cb (n:=bB+((len bQ:Nat):Int)) (by simp only[len];omega) (by simp only[len];omega)];unfold po at D;simp only at D;refine bG (fun h=>?_) (fun h=>bG (fun G=>?_) (fun G=>bq (fun Y=>?_) (fun Y=>⟨by omega,b3 (fun aS=>?_) (fun aS=>?_)⟩)))
 ·rw[if_pos (.inl h)]at D;exact D
 ·rw[if_pos (.inr (.inl G))]at D;exact D
 ·rw[if_pos (.inr (.inr (by simp only[len]at Y;omega)))]at D;exact D
 ·rw[if_neg (by simp only[len]at Y;omega)]at D;have e:jz ⟨⟨ws,fu⟩,up,bw,bz⟩ ⟨dk,fT,fQ⟩ ⟨mk,ba,bb,bB,ch,bQ,cz⟩=e8 ⟨⟨ws,fu⟩,up,bw,bz⟩ (fa ⟨ws,fu⟩ (1-dk) bB bQ).1 (fa ⟨ws,fu⟩ (1-dk) bB bQ).2:=rfl;rw[e,if_pos aS]at D;have bt:(e8 ⟨⟨ws,fu⟩,up,bw,bz⟩ (fa ⟨ws,fu⟩ (1-dk) bB bQ).1 (fa ⟨ws,fu⟩ (1-dk) bB bQ).2).1.eG=bz:=by rw[(Ae aS).2]
  rw[cb (by simp only[len];omega) (by simp only[len];omega)];exact D
 ·rw[if_neg (by simp only[len]at Y;omega)]at D;have e:jz ⟨⟨ws,fu⟩,up,bw,bz⟩ ⟨dk,fT,fQ⟩ ⟨mk,ba,bb,bB,ch,bQ,cz⟩=e8 ⟨⟨ws,fu⟩,up,bw,bz⟩ (fa ⟨ws,fu⟩ (1-dk) bB bQ).1 (fa ⟨ws,fu⟩ (1-dk) bB bQ).2:=rfl;rw[e,if_neg (by rw[aS];simp)]at D;exact D
theorem aiv(ad:0<=dk/\dk<=1/\0<=bB/\bB<=40/\len bQ<=8)(K:aU)(D:K (.ao []) [.box (fJ (pQ ⟨⟨ws,fu⟩,up,bw,bz⟩ ⟨dk,fT,fQ⟩ ⟨mk,ba,bb,bB,ch,bQ,cz⟩))]):∃m,co Og tab Tryz.f204 1 K m [.code (bR Tryz.f204)] (df [.one (.ptr 0 0),.agg [A dk,A fT,A fQ],.agg [A mk,A ba,A bb,A bB,A ch,af bQ,ax cz]] [.box [af ws,A fu,ax up,A bw,A bz]]):=by
 refine⟨1,?_⟩;rw[eB,aha _ _ _ _ _ _ _ _ _ _ _ _ _ _ _ _ _ _ rfl _ rfl _ rfl _ rfl _ rfl _ rfl _ rfl _ rfl _ rfl];obtain⟨e0,fj,g2,pP,BA⟩:=ad;have fill:=NW K ws fu up bw bz dk fT fQ mk ba bb bB ch bQ cz ⟨e0,fj⟩ ⟨g2,pP⟩ BA;unfold pQ at D;simp only at D;refine bq (fun h=>?_) (fun h=>b3 (fun G=>?_) (fun G=>bq (fun Y=>?_) (fun Y=>?_)))
 ·rw[if_pos (.inl h)]at D;exact D
 ·rw[fY]at G;rw[if_pos (.inr (.inl G))]at D;exact D
 ·rw[if_pos (.inr (.inr Y))]at D;exact D
 rw[eL]at G;rw[if_neg (by omega)]at D;have e:ij ⟨⟨ws,fu⟩,up,bw,bz⟩ ⟨dk,fT,fQ⟩=e8 ⟨⟨ws,fu⟩,up,bw,bz⟩ (hv ⟨ws,fu⟩ (U (1-dk))).1 (hv ⟨ws,fu⟩ (U (1-dk))).2:=by rw[cb (by omega) (by omega)];rfl
 rw[e]at D;refine cI (fun aS=>?_) (fun aS=>?_)
 ·have clear_:∀P:Prop,(bw≠bb\/bz=0)->(∀v1,v1=e8 ⟨⟨ws,fu⟩,up,bw,bz⟩ (hv ⟨ws,fu⟩ (U (1-dk))).1 (hv ⟨ws,fu⟩ (U (1-dk))).2->(v1.2=false->K (.ao []) [.box (fJ v1.1)]) ->
    (v1.2=true->K (.ao []) [.box (fJ (po ⟨v1.1.f,v1.1.up,bb,0⟩ ⟨dk,fT,fQ⟩ ⟨mk,ba,bb,bB,ch,bQ,cz⟩))])->P)->P:=fun P hu nQ=>by
   rw[if_pos ⟨aS,hu⟩]at D;refine nQ _ rfl (fun aR=>?_) (fun aR=>?_)
   ·rw[if_neg (by rw[aR];simp)]at D;exact D
   ·rw[if_pos aR]at D;exact D
  refine bG (fun bj=>?_) (fun bj=>cI (fun bK=>?_) (fun bK=>?_))
  ·refine clear_ _ (.inl bj) fun v1 aR bL b0=>?_
   rw[<- aR];refine ew (fun g=>bL g) (fun g=>?_);exact NW K v1.1.f.words v1.1.f.fuel v1.1.up bb 0 dk fT fQ mk ba bb bB ch bQ cz ⟨e0,fj⟩ ⟨g2,pP⟩ BA (b0 g)
  ·refine clear_ _ (.inr bK) fun v1 aR bL b0=>?_
   rw[<- aR];refine ew (fun g=>bL g) (fun g=>?_);exact NW K v1.1.f.words v1.1.f.fuel v1.1.up bb 0 dk fT fQ mk ba bb bB ch bQ cz ⟨e0,fj⟩ ⟨g2,pP⟩ BA (b0 g)
  ·rw[if_neg (by omega)]at D;exact fill D
 ·rw[if_neg (by omega)]at D;exact fill D
theorem ajN:bo 204 PF:=hj afC Tryz.func204 (by kernel_rfl) (by
 intro vs au p v du h ad;unfold PF at h;split at h
 ·cases h;exact⟨by kernel_rfl,rfl,.inl (aiv _ _ _ _ _ _ _ _ _ _ _ _ _ _ _ ad.1 _ ⟨rfl,rfl⟩)⟩
 ·cases h)

def GS:a7
 |[.one (.E .bool y),.one (.ptr 0 0)],[.box [.E .int mk,.E .int ba,.E .int bb,.E .int bB,.E .int ch,.E (.list .int) bQ,.E .bool cz]]=>some (none,.one (bs (me ⟨mk,ba,bb,bB,ch,bQ,cz⟩ y)),[.box [A mk,A ba,A bb,A bB,A ch,af bQ,ax cz]])
 |_,_=>none

theorem ajO:bo 219 GS:=b2 1 bn Tryz.func219 (by kernel_rfl) fun vs au=>by
 unfold GS;split;rotate_left;trivial;rename_i y mk ba bb bB ch bQ cz;refine⟨by kernel_rfl,fun K D=>?_⟩;refine⟨1,?_⟩;refine cf (fun rec=>(by kernel_rfl:_=(
  K (.one (bs ((⟨3,ba,bb,0,0,[],y⟩:fD)::[]))) [.box [A mk,A ba,A bb,A bB,A ch,af bQ,ax cz]]))) ?_
 exact D

def Qk:a7
 |[.agg [.E (.list .int) ws,.E .int fu],.one (.E .int at_),.one (.E .int n)],[]=>some (some (Gd at_/\Gd n),.ao [.one (af (BI ⟨ws,fu⟩ at_ n).1),.one (A (BI ⟨ws,fu⟩ at_ n).2)],[])
 |_,_=>none

theorem akL:bo 230 Qk:=b2 0 ((bn.f wy).f B0) Tryz.func230 (by kernel_rfl) fun vs au=>by
 unfold Qk;split;rotate_left;trivial;rename_i ws fu at_ n;dsimp only[z.den]at ws fu at_ n;refine⟨by kernel_rfl,fun ad K D=>?_⟩;obtain⟨⟨bl,ay⟩,aA,bH⟩:=ad;refine⟨1,?_⟩;refine cf (fun rec=>(by kernel_rfl:_=(
  J (!(ar (e9 ⟨ws,fu⟩) 0))
  (K (.ao [.one (af []),.one (A (e9 ⟨ws,fu⟩))]) [])
  (J (aL at_ 0)
  (K (.ao [.one (af []),.one (A 5)]) [])
  (J (aL n 0)
  (K (.ao [.one (af []),.one (A 5)]) [])
  (J (aL (len ws:Int) at_)
  (K (.ao [.one (af []),.one (A 5)]) [])
  (J (aL (U ((len ws:Int)-at_)) n)
  (K (.ao [.one (af []),.one (A 5)]) [])
  (((0:Int)<=at_/\at_<=U (at_+n)/\U (at_+n)<=(len ws:Int)) /\
  len (aW ws (Int.toNat at_) (Int.toNat (U (at_+n))))*8<=140737488355328 /\
  K (.ao [.one (af (aW ws (Int.toNat at_) (Int.toNat (U (at_+n))))),.one (A 0)]) [])))))))) ?_
 unfold BI at D;refine bG (fun h=>?_) (fun h=>?_)
 ·rw[if_neg h]at D;exact D
 rw[if_pos h]at D;obtain⟨bp,bc,cq,dq⟩:=jx h;obtain⟨hE,gv⟩:=rQ bp;simp only at bc cq hE gv;have kB:¬(0<=at_/\0<=n/\at_+n<=(ws.length:Int))->K (.ao [.one (af []),.one (A 5)]) []:=fun aq=>by
  rw[if_neg aq]at D;exact D
 simp only[len];refine bq (fun I=>kB (by omega)) (fun I=>bq (fun G=>kB (by omega)) (fun G=>bq (fun Y=>kB (by omega)) (fun Y=>?_)));rw[cb (by omega) (by omega)];refine bq (fun aS=>kB (by omega)) (fun aS=>?_);rw[if_pos (by simp only;omega)]at D;rw[cb (by omega) (by omega)];refine⟨⟨I,by omega,by omega⟩,?_,D⟩;have:(aW ws at_.toNat (at_+n).toNat).length<=192:=by simp[aW];omega
 omega

def H9:a7
 |[.agg [.E (.list .int) ws,.E .int fu],.one (.E .int slot),.one (.E .int n)],[]=>some (none,.ao [.one (af (nC ⟨ws,fu⟩ slot n).1),.one (A (nC ⟨ws,fu⟩ slot n).2)],[])
 |_,_=>none

theorem ak1:bo 220 H9:=b2 0 (((bn.f akL).f Fv).f BZ) Tryz.func220 (by kernel_rfl) fun vs au=>by
 unfold H9;split;rotate_left;trivial;rename_i ws fu slot n;dsimp only[z.den]at ws fu slot n;refine⟨by kernel_rfl,fun K D=>?_⟩;refine⟨1,?_⟩;obtain⟨v1,b9⟩:∃v1,v1=BI (⟨ws,fu⟩:cp) (U ((64:Int)+(64:Int)*slot+4)) n:=⟨_,rfl⟩
 refine cf (fun rec=>(by subst b9;kernel_rfl:_=(
  J (!(ar (eX (⟨ws,fu⟩:cp) slot) 0))
  (K (.ao [.one (af []),.one (A (eX (⟨ws,fu⟩:cp) slot))]) [])
  (J (aL n 0)
  (K (.ao [.one (af []),.one (A 2)]) [])
  (J (aL 40 n)
  (K (.ao [.one (af []),.one (A 2)]) [])
  (((0:Int)<=slot/\slot<=1) /\
  (((-9223372036854775808)<=U ((64:Int)+(64:Int)*slot+4)/\U ((64:Int)+(64:Int)*slot+4)<=9223372036854775807)/\(-9223372036854775808)<=n/\n<=9223372036854775807) /\
  K (.ao [.one (af v1.fst),.one (A v1.snd)]) [])))))) ?_
 subst b9;unfold nC at D;refine bG (fun h=>?_) (fun h=>?_)
 ·rw[if_neg h]at D;exact D
 rw[if_pos h]at D;obtain⟨I,G,Y⟩:=r9 h;simp only at G;refine bq (fun aS=>?_) (fun aS=>bq (fun bj=>?_) (fun bj=>?_))
 ·rw[if_neg (by omega)]at D;exact D
 ·rw[if_neg (by omega)]at D;exact D
 rw[if_pos (by omega)]at D;rw[cb (n:=64+64*slot+4) (by omega) (by omega),show 64+64*slot+4=68+64*slot by omega];refine⟨by omega,by omega,?_⟩;unfold BI;rw[if_pos I,if_pos (by simp only;omega)];exact D

def C7:a7
 |[.agg [.E (.list .int) ws,.E .int fu],.one (.E .int slot),.one (.E .int dr),.one (.E .int name)],[]=>some (none,.ao [.agg [af (gn ⟨ws,fu⟩ slot dr name).1.words,A (gn ⟨ws,fu⟩ slot dr name).1.fuel],.one (A (gn ⟨ws,fu⟩ slot dr name).2)],[])
 |_,_=>none

theorem Yw:bo 96 C7:=b2 0 (((bn.f X2).f Fv).f BZ) Tryz.func96 (by kernel_rfl) fun vs au=>by
 unfold C7;split;rotate_left;trivial;rename_i ws fu slot dr name;dsimp only[z.den]at ws fu slot dr name;refine⟨by kernel_rfl,fun K D=>?_⟩;refine⟨1,?_⟩;obtain⟨v1,b9⟩:∃v1,v1=jr (⟨ws,fu⟩:cp) ((64:Int)+(64:Int)*slot) (dr::name::hZ 65535 dr::hZ 65535 name::[]):=⟨_,rfl⟩
 obtain⟨aC,cT⟩:∃aC,aC=K (.ao [.agg [af [],A (0:Int)],.one (A 3)]) []:=⟨_,rfl⟩
 refine cf (fun rec=>(by subst cT b9;kernel_rfl:_=(
  J (!(ar (eX (⟨ws,fu⟩:cp) slot) 0))
  (K (.ao [.agg [af [],A (0:Int)],.one (A (eX (⟨ws,fu⟩:cp) slot))]) [])
  (J (aL dr 1)
  aC
  (J (aL 40 dr)
  aC
  (J (aL name 1)
  aC
  (J (aL 60 name)
  aC
  (((0:Int)<=slot/\slot<=1) /\
  List.length (dr::name::hZ 65535 dr::hZ 65535 name::[])<=140737488355328 /\
  K (.ao [.agg [af v1.fst.words,A v1.fst.fuel],.one (A v1.snd)]) [])))))))) ?_
 subst cT b9;unfold gn at D;refine bG (fun h=>?_) (fun h=>?_)
 ·rw[if_neg h]at D;exact D
 rw[if_pos h]at D;obtain⟨I,G,Y⟩:=r9 h;have three:¬(1<=dr/\dr<=40/\1<=name/\name<=60)->K (.ao [.agg [af [],A 0],.one (A 3)]) []:=fun aq=>by
  rw[if_neg (by simp only[lI,Bool.and_eq_true,decide_eq_true_eq];omega)]at D;exact D
 refine bq (fun aS=>three (by omega)) (fun aS=>bq (fun bj=>three (by omega)) (fun bj=>bq (fun bK=>three (by omega)) (fun bK=>bq (fun c4=>three (by omega)) (fun c4=>?_))));rw[if_pos (by simp only[lI,Bool.and_eq_true,decide_eq_true_eq];omega)]at D;rw[FR (by omega) (by omega),FR (by omega) (by omega)];exact⟨by omega,by simp only[List.length_cons,List.length_nil];omega,D⟩

def Ia:a7
 |[.agg [.E (.list .int) ws,.E .int fu],.one (.E .int slot)],[]=>some (none,.ao [.one (af (la ⟨ws,fu⟩ slot).1),.one (A (la ⟨ws,fu⟩ slot).2.1),.one (A (la ⟨ws,fu⟩ slot).2.2)],[])
 |_,_=>none

theorem Yx:bo 107 Ia:=b2 0 (((bn.f wy).f Fv).f BZ) Tryz.func107 (by kernel_rfl) fun vs au=>by
 unfold Ia;split;rotate_left;trivial;rename_i ws fu slot;dsimp only[z.den]at ws fu slot;refine⟨by kernel_rfl,fun K D=>?_⟩;refine⟨1,?_⟩;obtain⟨v1,b9⟩:∃v1,v1=K (.ao [.one (af []),.one (A 0),.one (A 4)]) []:=⟨_,rfl⟩
 refine cf (fun rec=>(by subst b9;kernel_rfl:_=(
  J (!(ar (eX (⟨ws,fu⟩:cp) slot) 0))
  (K (.ao [.one (af []),.one (A 0),.one (A (eX (⟨ws,fu⟩:cp) slot))]) [])
  (((0:Int)<=slot/\slot<=1) /\
  ((0:Int)<=slot/\slot<=1) /\
  ((0:Int)<=(64:Int)+(64:Int)*slot/\(64:Int)+(64:Int)*slot<=U ((64:Int)+(64:Int)*slot+4)/\U ((64:Int)+(64:Int)*slot+4)<=(len ws:Int)) /\
  ((0:Int)<=(0:Int)/\(0:Int)<(((len (aW ws (Int.toNat ((64:Int)+(64:Int)*slot)) (Int.toNat (U ((64:Int)+(64:Int)*slot+4))))):Nat):Int)) /\
  J (aL (nth (aW ws (Int.toNat ((64:Int)+(64:Int)*slot)) (Int.toNat (U ((64:Int)+(64:Int)*slot+4)))) (Int.toNat 0) (z.H z.int)) 1)
  v1
  (((0:Int)<=(0:Int)/\(0:Int)<(((len (aW ws (Int.toNat ((64:Int)+(64:Int)*slot)) (Int.toNat (U ((64:Int)+(64:Int)*slot+4))))):Nat):Int)) /\
  J (aL 40 (nth (aW ws (Int.toNat ((64:Int)+(64:Int)*slot)) (Int.toNat (U ((64:Int)+(64:Int)*slot+4)))) (Int.toNat 0) (z.H z.int)))
  v1
  (((0:Int)<=(1:Int)/\(1:Int)<(((len (aW ws (Int.toNat ((64:Int)+(64:Int)*slot)) (Int.toNat (U ((64:Int)+(64:Int)*slot+4))))):Nat):Int)) /\
  J (aL (nth (aW ws (Int.toNat ((64:Int)+(64:Int)*slot)) (Int.toNat (U ((64:Int)+(64:Int)*slot+4)))) (Int.toNat 1) (z.H z.int)) 1)
  v1
  (((0:Int)<=(1:Int)/\(1:Int)<(((len (aW ws (Int.toNat ((64:Int)+(64:Int)*slot)) (Int.toNat (U ((64:Int)+(64:Int)*slot+4))))):Nat):Int)) /\
  J (aL 60 (nth (aW ws (Int.toNat ((64:Int)+(64:Int)*slot)) (Int.toNat (U ((64:Int)+(64:Int)*slot+4)))) (Int.toNat 1) (z.H z.int)))
  v1
  (((0:Int)<=(2:Int)/\(2:Int)<(((len (aW ws (Int.toNat ((64:Int)+(64:Int)*slot)) (Int.toNat (U ((64:Int)+(64:Int)*slot+4))))):Nat):Int)) /\
  ((0:Int)<=(0:Int)/\(0:Int)<(((len (aW ws (Int.toNat ((64:Int)+(64:Int)*slot)) (Int.toNat (U ((64:Int)+(64:Int)*slot+4))))):Nat):Int)) /\
  J (!(ar (nth (aW ws (Int.toNat ((64:Int)+(64:Int)*slot)) (Int.toNat (U ((64:Int)+(64:Int)*slot+4)))) (Int.toNat 2) (z.H z.int)) (hZ 65535 (nth (aW ws (Int.toNat ((64:Int)+(64:Int)*slot)) (Int.toNat (U ((64:Int)+(64:Int)*slot+4)))) (Int.toNat 0) (z.H z.int)))))
  v1
  (((0:Int)<=(3:Int)/\(3:Int)<(((len (aW ws (Int.toNat ((64:Int)+(64:Int)*slot)) (Int.toNat (U ((64:Int)+(64:Int)*slot+4))))):Nat):Int)) /\
  ((0:Int)<=(1:Int)/\(1:Int)<(((len (aW ws (Int.toNat ((64:Int)+(64:Int)*slot)) (Int.toNat (U ((64:Int)+(64:Int)*slot+4))))):Nat):Int)) /\
  J (!(ar (nth (aW ws (Int.toNat ((64:Int)+(64:Int)*slot)) (Int.toNat (U ((64:Int)+(64:Int)*slot+4)))) (Int.toNat 3) (z.H z.int)) (hZ 65535 (nth (aW ws (Int.toNat ((64:Int)+(64:Int)*slot)) (Int.toNat (U ((64:Int)+(64:Int)*slot+4)))) (Int.toNat 1) (z.H z.int)))))
  v1
  (((0:Int)<=slot/\slot<=1) /\
  ((0:Int)<=slot/\slot<=1) /\
  ((0:Int)<=(0:Int)/\(0:Int)<(((len (aW ws (Int.toNat ((64:Int)+(64:Int)*slot)) (Int.toNat (U ((64:Int)+(64:Int)*slot+4))))):Nat):Int)) /\
  ((0:Int)<=U ((64:Int)+(64:Int)*slot+4)/\U ((64:Int)+(64:Int)*slot+4)<=U (U ((64:Int)+(64:Int)*slot+4)+nth (aW ws (Int.toNat ((64:Int)+(64:Int)*slot)) (Int.toNat (U ((64:Int)+(64:Int)*slot+4)))) (Int.toNat 0) (z.H z.int))/\U (U ((64:Int)+(64:Int)*slot+4)+nth (aW ws (Int.toNat ((64:Int)+(64:Int)*slot)) (Int.toNat (U ((64:Int)+(64:Int)*slot+4)))) (Int.toNat 0) (z.H z.int))<=(len ws:Int)) /\
  len (aW ws (Int.toNat (U ((64:Int)+(64:Int)*slot+4))) (Int.toNat (U (U ((64:Int)+(64:Int)*slot+4)+nth (aW ws (Int.toNat ((64:Int)+(64:Int)*slot)) (Int.toNat (U ((64:Int)+(64:Int)*slot+4)))) (Int.toNat 0) (z.H z.int)))))*8<=140737488355328 /\
  ((0:Int)<=(1:Int)/\(1:Int)<(((len (aW ws (Int.toNat ((64:Int)+(64:Int)*slot)) (Int.toNat (U ((64:Int)+(64:Int)*slot+4))))):Nat):Int)) /\
  K (.ao [.one (af (aW ws (Int.toNat (U ((64:Int)+(64:Int)*slot+4))) (Int.toNat (U (U ((64:Int)+(64:Int)*slot+4)+nth (aW ws (Int.toNat ((64:Int)+(64:Int)*slot)) (Int.toNat (U ((64:Int)+(64:Int)*slot+4)))) (Int.toNat 0) (z.H z.int)))))),.one (A (nth (aW ws (Int.toNat ((64:Int)+(64:Int)*slot)) (Int.toNat (U ((64:Int)+(64:Int)*slot+4)))) (Int.toNat 1) (z.H z.int))),.one (A 0)]) [])))))))))) ?_
 subst b9;unfold la at D;refine bG (fun h=>?_) (fun h=>?_)
 ·rw[if_neg h]at D;exact D
 rw[if_pos h]at D;obtain⟨I,G,Y⟩:=r9 h;simp only at G;obtain⟨b,ay⟩:∃b,kW slot=b:=⟨_,rfl⟩
 have gC:(64+64*slot)=(b:Int):=by unfold kW at ay;omega
 rw[gC,cb (n:=(b:Int)+4) (by omega) (by omega),show Int.toNat ((b:Int)+4)=b+4 by omega,cM];have hlen:(aW ws b (b+4)).length=4:=by simp[aW];omega
 have fe:nth (aW ws b (b+4)) (Int.toNat (0:Int)) (z.H z.int)=ws.getD b 0:=oa ws b (b+4) 0 (by omega);have a1:nth (aW ws b (b+4)) (Int.toNat (1:Int)) (z.H z.int)=ws.getD (b+1) 0:=oa ws b (b+4) 1 (by omega);have bf:nth (aW ws b (b+4)) (Int.toNat (2:Int)) (z.H z.int)=ws.getD (b+2) 0:=oa ws b (b+4) 2 (by omega);have ck:nth (aW ws b (b+4)) (Int.toNat (3:Int)) (z.H z.int)=ws.getD (b+3) 0:=oa ws b (b+4) 3 (by omega);rw[fe,a1,bf,ck];simp only[len,hlen];unfold ni at D;simp only[ay]at D;have four:¬(lI (ws.getD b 0) (ws.getD (b+1) 0)=true/\ws.getD (b+2) 0=65535-ws.getD b 0/\ws.getD (b+3) 0=65535-ws.getD (b+1) 0)->K (.ao [.one (af []),.one (A 0),.one (A 4)]) []:=fun aq=>by
  have:nt ws b=false:=by
   unfold nt;cases dd:lI (ws.getD b 0) (ws.getD (b+1) 0)
   ·rfl
   ·simp only[Bool.true_and,Bool.and_eq_false_iff,decide_eq_false_iff_not]
    by_cases c:ws.getD (b+2) 0=65535-ws.getD b 0
    ·exact .inr fun bc=>aq ⟨dd,c,bc⟩
    ·exact .inl c
  rw[this]at D;exact D
 have bH:lI (ws.getD b 0) (ws.getD (b+1) 0)=true↔(1<=ws.getD b 0/\ws.getD b 0<=40/\1<=ws.getD (b+1) 0/\ws.getD (b+1) 0<=60):=by
  simp only[lI,Bool.and_eq_true,decide_eq_true_eq];omega
 rw[bH]at four;refine⟨by omega,by omega,by omega,by omega,bq (fun aS=>four (by omega)) (fun aS=>⟨by omega,bq (fun bj=>four (by omega)) (fun bj=>⟨by omega,bq (fun bK=>four (by omega)) (fun bK=>⟨by omega,bq (fun c4=>four (by omega)) (fun c4=>⟨by omega,by omega,?_⟩)⟩)⟩)⟩)⟩;rw[FR (a:=ws.getD b 0) (by omega) (by omega),FR (a:=ws.getD (b+1) 0) (by omega) (by omega)];refine bG (fun dJ=>four (by omega)) (fun dJ=>⟨by omega,by omega,bG (fun hd=>four (by omega)) (fun hd=>?_)⟩);rw[cb (by omega) (by omega),show Int.toNat ((b:Int)+4+ws.getD b 0)=b+4+(ws.getD b 0).toNat by omega];have av:nt ws b=true:=by
  unfold nt;rw[bH.2 (by omega)];simp only[Bool.true_and,Bool.and_eq_true,decide_eq_true_eq];exact⟨dJ,hd⟩
 rw[av]at D;have qw:(aW ws (b+4) (b+4+(ws.getD b 0).toNat)).length<=192:=by simp[aW];omega
 exact⟨by omega,by omega,by omega,by omega,by omega,by omega,D⟩

def PD:a7
 |[.agg [.E .int dk,.E .int fT,.E .int fQ]],[]=>some (none,.one (ct (oO fT dk fQ)),[])
 |_,_=>none

theorem ajK:bo 231 PD:=b2 0 bn Tryz.func231 (by kernel_rfl) fun vs au=>by
 unfold PD;split;rotate_left;trivial;rename_i dk fT fQ;refine⟨by kernel_rfl,fun K D=>?_⟩;refine⟨1,?_⟩;refine cf (fun rec=>(by kernel_rfl:_=(
  J (aL 0 fQ)
  ((len (((1:Int)::dk::fT::[])::[])+len (((2:Int)::fQ::[])::[]))*24<=140737488355328 /\
  K (.one (ct (cat (((1:Int)::dk::fT::[])::[]) (((2:Int)::fQ::[])::[])))) [])
  (K (.one (ct (((1:Int)::dk::fT::[])::[]))) [])))) ?_
 unfold oO at D;refine bq (fun h=>?_) (fun h=>?_)
 ·rw[if_pos h]at D;exact⟨by simp[len],D⟩
 ·rw[if_neg (by omega)]at D;exact D

def CQ:a7
 |[.one (.ptr 0 0),.one (.E (.list .int) r)],[.box [.E (.list .int) ws,.E .int fu,.E .bool up,.E .int bw,.E .int bz]]=>some (some (eW r),.one (ax (ff ⟨⟨ws,fu⟩,up,bw,bz⟩ r).2),[.box (fJ (ff ⟨⟨ws,fu⟩,up,bw,bz⟩ r).1)])
 |_,_=>none

theorem XM:bo 221 CQ:=b2 1 ((((bn.f Nd).f Nx).f ajK).f Fp) Tryz.func221 (by kernel_rfl) fun vs au=>by
 unfold CQ;split;rotate_left;trivial;rename_i r ws fu up bw bz;refine⟨by kernel_rfl,fun ad K D=>?_⟩;refine⟨1,?_⟩;obtain⟨v1,b9⟩:∃v1,v1=oO (c5 ⟨ws,fu⟩).e2 (c5 ⟨ws,fu⟩).slot (c5 ⟨ws,fu⟩).ready:=⟨_,rfl⟩
 obtain⟨v4,e5⟩:∃v4,v4=e8 ⟨⟨ws,fu⟩,up,bw,bz⟩ (fE ⟨ws,fu⟩ r v1).fst (fE ⟨ws,fu⟩ r v1).snd:=⟨_,rfl⟩
 refine cf (fun rec=>(by subst e5 b9;kernel_rfl:_=(
  (List.length r<=140737488355328/\len v1*24<=140737488351232/\hB v1=true) /\
  K (.one (ax v4.snd)) [.box (fJ v4.fst)]))) ?_
 subst e5 b9;have h:=aeH (c5 ⟨ws,fu⟩).e2 (c5 ⟨ws,fu⟩).slot (c5 ⟨ws,fu⟩).ready;exact⟨⟨ad,by simp only[len];omega,h.1⟩,D⟩

def CI:a7
 |[.one (.E (.list .int) a),.one (.E (.list .int) b)],[]=>some (some (eW a),.one (ax (gx a b)),[])
 |_,_=>none
def N8:Ctx:=[]
def xZ:List cu:=[.inLoop [13,12,4,0,1] (Code.sub (bR Tryz.f44) [1,1,0,1,0,0]),.inBlock 0,.code (Code.sub (bR Tryz.f44) [1,1,1])]
def Lm(F ai:Int)(M:Bool)(ag an:aK):bO:=⟨[(13,.one (A F)),(12,.one (A ai)),(4,.one (ax M)),(0,.one (af ag)),(1,.one (af an))],[],0⟩
theorem Vn{F:Int}{rec:bV}{K:aU}{ai M ag an}{v0}(bX:v0=fun a=>Lm a ai M ag an):b5 N8 tab Tryz.f44 0 K rec (cU xZ) (v0 F)=(
 J (aL F ai)
 (((0:Int)<=F/\F<(len ag:Int)) /\
 ((0:Int)<=F/\F<(len an:Int)) /\
 J (!(ar (nth ag (Int.toNat F) (z.H z.int)) (nth an (Int.toNat F) (z.H z.int))))
 (K dt [])
 (rec xZ (v0 (U (F+1)))))
 (K mY [])):=by subst_vars;kernel_rfl

theorem TJ(a b:aK)(az:a.length=b.length)(av:eW a)(K:aU)(D:K (.one (ax (gx a b))) []):∀(d k:Nat),k+d=a.length->a.take k=b.take k ->
  co N8 tab Tryz.f44 0 K (d+1) xZ (Lm (k:Int) (((len a):Nat):Int) false a b)
 |0,k,ae,bv=>by
  rw[bW (L:=xZ),Vn rfl];refine ci (by simp only[len];omega) ?_;rw[List.take_of_length_le (by omega),List.take_of_length_le (by omega)]at bv;rw[show gx a b=true from by simp[gx,bv]]at D;exact D
 |d+1,k,ae,bv=>by
  unfold eW at av;rw[bW (L:=xZ),Vn rfl];refine cV (by simp only[len];omega) ⟨⟨by omega,by simp only[len];omega⟩,⟨by omega,by simp only[len];omega⟩,bG (fun dj=>?_) (fun heq=>?_)⟩
  ·rw[show gx a b=false from by simp only[gx,decide_eq_false_iff_not];rintro rfl;exact dj rfl]at D;exact D
  ·rw[di (by omega)];refine TJ a b az ‹eW a› K D d (k+1) (by omega) ?_;rw[iz (by omega) (z.H z.int),iz (by omega) (z.H z.int),bv];rw[cM]at heq;rw[heq]
theorem qT:bo 44 CI:=b2 (Γ:=N8) 0 bn Tryz.func44 (by kernel_rfl) fun vs au=>by
 unfold CI;split;rotate_left;trivial;rename_i a b;refine⟨by kernel_rfl,fun ad K D=>?_⟩;refine⟨a.length+2,?_⟩;refine cf (fun rec=>(by kernel_rfl:_=(
  J (!(ar (len a:Int) (len b:Int)))
  (K dt [])
  (rec xZ (Lm 0 (len a:Int) false a b))))) ?_
 refine bG (fun h=>?_) (fun h=>?_)
 ·rw[show gx a b=false from by simp only[gx,decide_eq_false_iff_not];rintro rfl;exact h rfl]at D;exact D
 ·exact TJ a b (by simp only[len]at h;omega) ad K D a.length 0 (by omega) rfl

def PG:a7
 |[.agg [.E (.list .str) b],.one (.ptr 0 0),.agg [.E .int dk,.E .int fT,.E .int fQ],.agg [.E .int mk,.E .int ba,.E .int bb,.E .int bB,.E .int ch,.E (.list .int) bQ,.E .bool cz]],[.box [.E (.list .int) ws,.E .int fu,.E .bool up,.E .int bw,.E .int bz]]=>some (some (0<=dk/\dk<=1/\b.length<=140737488355328),.one (bs (pR b ⟨⟨ws,fu⟩,up,bw,bz⟩ ⟨dk,fT,fQ⟩ ⟨mk,ba,bb,bB,ch,bQ,cz⟩).2),[.box (fJ (pR b ⟨⟨ws,fu⟩,up,bw,bz⟩ ⟨dk,fT,fQ⟩ ⟨mk,ba,bb,bB,ch,bQ,cz⟩).1)])
 |_,_=>none
def Oh:Ctx:=[(219,GS),(220,H9),(25,Ad),(96,C7),(218,CP),(107,Ia),(221,CQ),(44,CI)]
theorem afD:fr Tryz.prog tab Oh:=((((((((bn.f qT).f XM).f Yx).f Nd).f Yw).f NI).f ak1).f ajO)
theorem ahb(b:cD)(ws:aK)(fu:Int)(up:Bool)(bw bz dk fT fQ mk ba bb bB ch:Int)(bQ:aK)(cz:Bool)(rec:bV)(K:aU) v0 (bX:v0=me ⟨mk,ba,bb,bB,ch,bQ,cz⟩ true) v1 (b9:v1=me ⟨mk,ba,bb,bB,ch,bQ,cz⟩ false) aC (cT:aC=nC ⟨ws,fu⟩ (U ((1:Int)-dk)) bB) v3 (ed:v3=gH b aC.fst) v4 (e5:v4=gn ⟨ws,fu⟩ (U ((1:Int)-dk)) bB ch) cn (hx:cn=e8 ⟨⟨ws,fu⟩,up,bw,bz⟩ ⟨v4.fst.words,v4.fst.fuel⟩ v4.snd) dR (kG:dR=la ⟨cn.fst.f.words,cn.fst.f.fuel⟩ (U ((1:Int)-dk))) dy (iL:dy=gx dR.fst aC.fst) cR (kH:cR=ff ⟨⟨cn.fst.f.words,cn.fst.f.fuel⟩,cn.fst.up,0,0⟩ ((2:Int)::bb::[])) v9 (jY:v9=K (.one (bs v1)) [.box [af cn.fst.f.words,A cn.fst.f.fuel,ax cn.fst.up,A (0:Int),A (0:Int)]]) v10 (nf:v10=K (.one (bs v1)) [.box [af ws,A fu,ax up,A bw,A bz]]):b5 Oh tab Tryz.f205 1 K rec [.code (bR Tryz.f205)] (df [.agg [.E (z.list z.str) b],.one (.ptr 0 0),.agg [A dk,A fT,A fQ],.agg [A mk,A ba,A bb,A bB,A ch,af bQ,ax cz]] [.box [af ws,A fu,ax up,A bw,A bz]])=(
 J (dh bb fT)
 (K (.one (bs ((⟨6,ba,bb,0,0,[],false⟩:fD)::[]))) [.box [af ws,A fu,ax up,A bw,A bz]])
 (J (ar fQ bb)
 (K (.one (bs v0)) [.box [af ws,A fu,ax up,A bw,A bz]])
 (J (aL 0 fQ)
 v10
 (J (!(ar aC.snd 0))
 v10
 (J (!(ar bw bb))
 v10
 (J (!(ar bz bB))
 v10
 (List.length b<=140737488355328 /\
 J (!(ar v3.snd 0))
 v10
 (J (ar v3.fst 0)
 v10
 (J (!(ar v3.fst ch))
 v10
 (J (!cn.snd)
 (K (.one (bs [])) [.box (fJ cn.fst)])
 (J (!(ar dR.snd.snd 0))
 v9
 (J (!(ar dR.snd.fst ch))
 v9
 (List.length dR.fst<=140737488355328 /\
 J (!dy)
 v9
 (List.length ((2:Int)::bb::[])<=140737488355328 /\
 J (!cR.snd)
 (K (.one (bs [])) [.box (fJ cR.fst)])
 (K (.one (bs v0)) [.box (fJ cR.fst)]))))))))))))))):=by subst_vars;kernel_rfl

theorem aiw(ad:0<=dk/\dk<=1/\b.length<=140737488355328)(K:aU)(D:K (.one (bs (pR b ⟨⟨ws,fu⟩,up,bw,bz⟩ ⟨dk,fT,fQ⟩ ⟨mk,ba,bb,bB,ch,bQ,cz⟩).2)) [.box (fJ (pR b ⟨⟨ws,fu⟩,up,bw,bz⟩ ⟨dk,fT,fQ⟩ ⟨mk,ba,bb,bB,ch,bQ,cz⟩).1)]):∃m,co Oh tab Tryz.f205 1 K m [.code (bR Tryz.f205)] (df [.agg [.E (z.list z.str) b],.one (.ptr 0 0),.agg [A dk,A fT,A fQ],.agg [A mk,A ba,A bb,A bB,A ch,af bQ,ax cz]] [.box [af ws,A fu,ax up,A bw,A bz]]):=by
 refine⟨1,?_⟩;rw[eB,ahb _ _ _ _ _ _ _ _ _ _ _ _ _ _ _ _ _ _ _ rfl _ rfl _ rfl _ rfl _ rfl _ rfl _ rfl _ rfl _ rfl _ rfl _ rfl];obtain⟨e0,fj,g2⟩:=ad;rw[cb (n:=1-dk) (by omega) (by omega)];unfold pR at D;simp only at D;refine b3 (fun h=>?_) (fun h=>cI (fun G=>?_) (fun G=>bq (fun Y=>?_) (fun Y=>?_)))
 ·rw[fY]at h;rw[if_pos h]at D;exact D
 ·rw[eL]at h;rw[if_neg (by omega),if_pos G]at D;exact D
 ·rw[eL]at h;rw[if_neg (by omega),if_neg G,if_pos Y]at D;exact D
 rw[eL]at h;rw[if_neg (by omega),if_neg G,if_neg (by omega)]at D;refine bG (fun aS=>?_) (fun aS=>bG (fun bj=>?_) (fun bj=>bG (fun bK=>?_) (fun bK=>⟨g2,bG (fun c4=>?_) (fun c4=>cI (fun dJ=>?_) (fun dJ=>bG (fun hd=>?_) (fun hd=>?_)))⟩)))
 ·rw[if_neg (fun g=>aS g.1)]at D;exact D
 ·rw[if_neg (fun g=>bj g.2.1)]at D;exact D
 ·rw[if_neg (fun g=>bK g.2.2)]at D;exact D
 all_goals rw[if_pos ⟨aS,bj,bK⟩]at D
 ·rw[if_neg (fun g=>c4 g.1)]at D;exact D
 ·rw[if_neg (fun g=>g.2.1 dJ)]at D;exact D
 ·rw[if_neg (fun g=>hd g.2.2)]at D;exact D
 rw[if_pos ⟨c4,dJ,hd⟩]at D;refine ew (fun g=>?_) (fun g=>?_)
 ·rw[if_neg (by rw[show(l9 ⟨⟨ws,fu⟩,up,bw,bz⟩ ⟨dk,fT,fQ⟩ ⟨mk,ba,bb,bB,ch,bQ,cz⟩).2=false from g];simp)]at D;exact D
 rw[if_pos (show(l9 ⟨⟨ws,fu⟩,up,bw,bz⟩ ⟨dk,fT,fQ⟩ ⟨mk,ba,bb,bB,ch,bQ,cz⟩).2=true from g)]at D;obtain⟨cn,aR⟩:∃cn,l9 ⟨⟨ws,fu⟩,up,bw,bz⟩ ⟨dk,fT,fQ⟩ ⟨mk,ba,bb,bB,ch,bQ,cz⟩=cn:=⟨_,rfl⟩
 rw[aR]at D;have k9:e8 ⟨⟨ws,fu⟩,up,bw,bz⟩ (gn ⟨ws,fu⟩ (1-dk) bB ch).1 (gn ⟨ws,fu⟩ (1-dk) bB ch).2=cn:=aR;unfold BS at D;simp only at D;refine bG (fun bL=>?_) (fun bL=>bG (fun b0=>?_) (fun b0=>⟨?_,ew (fun dm=>?_) (fun dm=>⟨by simp,ew (fun e3=>?_) (fun e3=>?_)⟩)⟩))
 ·rw[k9]at bL |-; rw[if_neg (fun g=>bL g.1)]at D;exact D
 ·rw[k9]at b0 |-; rw[if_neg (fun g=>b0 g.2.1)]at D;exact D
 ·rw[k9]at bL |-;exact aeB bL
 ·rw[k9]at dm |-;rw[if_neg (fun g=>by rw[show gx _ _=true from decide_eq_true g.2.2]at dm;cases dm)]at D;exact D
 ·rw[k9]at bL b0 dm e3 |-;rw[if_pos ⟨bL,b0,of_decide_eq_true dm⟩,if_neg (by rw[show(ff _ _).2=false from e3];simp)]at D;exact D
 ·rw[k9]at bL b0 dm e3 |-;rw[if_pos ⟨bL,b0,of_decide_eq_true dm⟩,if_pos e3]at D;exact D
theorem ajP:bo 205 PG:=hj afD Tryz.func205 (by kernel_rfl) (by
 intro vs au p v du h ad;unfold PG at h;split at h
 ·cases h;exact⟨by kernel_rfl,rfl,.inl (aiw _ _ _ _ _ _ _ _ _ _ _ _ _ _ _ _ ad.1 _ ⟨rfl,rfl⟩)⟩
 ·cases h)

def PH:a7
 |[.one (.ptr 0 0),.agg [.E .int dk,.E .int fT,.E .int fQ],.agg [.E .int mk,.E .int ba,.E .int bb,.E .int bB,.E .int ch,.E (.list .int) bQ,.E .bool cz]],[.box [.E (.list .int) ws,.E .int fu,.E .bool up,.E .int bw,.E .int bz]]=>some (some (0<=dk/\dk<=1),.one (bs (m7 ⟨⟨ws,fu⟩,up,bw,bz⟩ ⟨dk,fT,fQ⟩ ⟨mk,ba,bb,bB,ch,bQ,cz⟩).2),[.box (fJ (m7 ⟨⟨ws,fu⟩,up,bw,bz⟩ ⟨dk,fT,fQ⟩ ⟨mk,ba,bb,bB,ch,bQ,cz⟩).1)])
 |_,_=>none
def Oi:Ctx:=[(221,CQ)]
theorem afE:fr Tryz.prog tab Oi:=(bn.f XM)
theorem ahc(ws:aK)(fu:Int)(up:Bool)(bw bz dk fT fQ mk ba bb bB ch:Int)(bQ:aK)(cz:Bool)(rec:bV)(K:aU) v0 (bX:v0=ff ⟨⟨ws,fu⟩,up,bw,bz⟩ ((1:Int)::U ((1:Int)-dk)::bb::[])) v1 (b9:v1=ff ⟨⟨ws,fu⟩,up,bw,bz⟩ ((3:Int)::bb::[])) aC (cT:aC=K (.one (bs ((⟨6,ba,bb,0,0,[],false⟩:fD)::[]))) [.box [af ws,A fu,ax up,A bw,A bz]]) v3 (ed:v3=K (.one (bs [])) [.box [af ws,A fu,ax up,A bw,A bz]]):b5 Oi tab Tryz.f206 1 K rec [.code (bR Tryz.f206)] (df [.one (.ptr 0 0),.agg [A dk,A fT,A fQ],.agg [A mk,A ba,A bb,A bB,A ch,af bQ,ax cz]] [.box [af ws,A fu,ax up,A bw,A bz]])=(
 J (ar mk 4)
 (J (ar fT bb)
 aC
 (J (!(ar fQ bb))
 v3
 (List.length ((1:Int)::U ((1:Int)-dk)::bb::[])<=140737488355328 /\
 J (!v0.snd)
 (K (.one (bs [])) [.box (fJ v0.fst)])
 (K (.one (bs ((⟨6,ba,bb,0,0,[],false⟩:fD)::[]))) [.box (fJ v0.fst)]))))
 (J (dh bb fT)
 v3
 (J (ar fQ bb)
 (List.length ((3:Int)::bb::[])<=140737488355328 /\
 J (!v1.snd)
 (K (.one (bs [])) [.box (fJ v1.fst)])
 (J (ar v1.fst.n bb)
 (K (.one (bs ((⟨6,ba,bb,0,0,[],false⟩:fD)::[]))) [.box [af v1.fst.f.words,A v1.fst.f.fuel,ax v1.fst.up,A (0:Int),A (0:Int)]])
 (K (.one (bs ((⟨6,ba,bb,0,0,[],false⟩:fD)::[]))) [.box (fJ v1.fst)])))
 (J (ar bw bb)
 (K (.one (bs ((⟨6,ba,bb,0,0,[],false⟩:fD)::[]))) [.box [af ws,A fu,ax up,A (0:Int),A (0:Int)]])
 aC)))):=by subst_vars;kernel_rfl

theorem aix(ad:0<=dk/\dk<=1)(K:aU)(D:K (.one (bs (m7 ⟨⟨ws,fu⟩,up,bw,bz⟩ ⟨dk,fT,fQ⟩ ⟨mk,ba,bb,bB,ch,bQ,cz⟩).2)) [.box (fJ (m7 ⟨⟨ws,fu⟩,up,bw,bz⟩ ⟨dk,fT,fQ⟩ ⟨mk,ba,bb,bB,ch,bQ,cz⟩).1)]):∃m,co Oi tab Tryz.f206 1 K m [.code (bR Tryz.f206)] (df [.one (.ptr 0 0),.agg [A dk,A fT,A fQ],.agg [A mk,A ba,A bb,A bB,A ch,af bQ,ax cz]] [.box [af ws,A fu,ax up,A bw,A bz]]):=by
 refine⟨1,?_⟩;rw[eB,ahc _ _ _ _ _ _ _ _ _ _ _ _ _ _ _ _ _ _ rfl _ rfl _ rfl _ rfl];obtain⟨e0,fj⟩:=ad;rw[cb (n:=1-dk) (by omega) (by omega)];unfold m7 at D;simp only at D;refine cI (fun h=>?_) (fun h=>?_)
 ·rw[if_pos h]at D;refine cI (fun G=>?_) (fun G=>bG (fun Y=>?_) (fun Y=>⟨by simp,ew (fun aS=>?_) (fun aS=>?_)⟩))
  ·rw[if_pos G]at D;exact D
  ·rw[if_neg G,if_neg Y]at D;exact D
  ·rw[if_neg G,if_pos Y,if_neg (by rw[aS];simp)]at D;exact D
  ·rw[if_neg G,if_pos Y,if_pos aS]at D;exact D
 ·rw[if_neg h]at D;refine b3 (fun G=>?_) (fun G=>cI (fun Y=>⟨by simp,ew (fun aS=>?_) (fun aS=>?_)⟩) (fun Y=>?_))
  ·rw[fY]at G;rw[if_pos G]at D;exact D
  ·rw[eL]at G;rw[if_neg (by omega),if_pos Y,if_neg (by rw[aS];simp)]at D;exact D
  ·rw[eL]at G;rw[if_neg (by omega),if_pos Y,if_pos aS]at D;unfold qp at D;refine cI (fun bj=>?_) (fun bj=>?_)
   ·rw[if_pos bj]at D;exact D
   ·rw[if_neg bj]at D;exact D
  ·rw[eL]at G;rw[if_neg (by omega),if_neg Y]at D;unfold qp at D;refine cI (fun bj=>?_) (fun bj=>?_)
   ·rw[if_pos bj]at D;exact D
   ·rw[if_neg bj]at D;exact D
theorem ajQ:bo 206 PH:=hj afE Tryz.func206 (by kernel_rfl) (by
 intro vs au p v du h ad;unfold PH at h;split at h
 ·cases h;exact⟨by kernel_rfl,rfl,.inl (aix _ _ _ _ _ _ _ _ _ _ _ _ _ _ _ ad.1 _ ⟨rfl,rfl⟩)⟩
 ·cases h)

def GV:a7
 |[.agg [.E (.list .str) b],.agg [.E (.list .int) ws,.E .int fu,.E .bool up,.E .int bw,.E .int bz],.agg [.E .int mk,.E .int ba,.E .int bb,.E .int bB,.E .int ch,.E (.list .int) bQ,.E .bool cz]],[]=>some (some (b.length<=140737488355328),.ao [.agg (fJ (h6 b ⟨⟨ws,fu⟩,up,bw,bz⟩ ⟨mk,ba,bb,bB,ch,bQ,cz⟩).1.1),.one (bs (h6 b ⟨⟨ws,fu⟩,up,bw,bz⟩ ⟨mk,ba,bb,bB,ch,bQ,cz⟩).1.2),.one (A (h6 b ⟨⟨ws,fu⟩,up,bw,bz⟩ ⟨mk,ba,bb,bB,ch,bQ,cz⟩).2)],[])
 |_,_=>none

theorem ajR:bo 180 GV:=b2 0 ((((((((bn.f ajQ).f ajP).f ajN).f Fp).f Nc).f XN).f BW).f Fy) Tryz.func180 (by kernel_rfl) fun vs au=>by
 unfold GV;split;rotate_left;trivial;rename_i b ws fu up bw bz mk ba bb bB ch bQ cz;refine⟨by kernel_rfl,fun ad K D=>?_⟩;refine⟨1,?_⟩;obtain⟨v3,ed⟩:∃v3,v3=c5 ⟨ws,fu⟩:=⟨_,rfl⟩
 obtain⟨cn,hx⟩:∃cn,cn=pR b ⟨⟨ws,fu⟩,up,bw,bz⟩ ⟨v3.slot,v3.e2,v3.ready⟩ ⟨mk,ba,bb,bB,ch,bQ,cz⟩:=⟨_,rfl⟩
 obtain⟨dR,kG⟩:∃dR,dR=m7 ⟨⟨ws,fu⟩,up,bw,bz⟩ ⟨v3.slot,v3.e2,v3.ready⟩ ⟨mk,ba,bb,bB,ch,bQ,cz⟩:=⟨_,rfl⟩
 obtain⟨dy,iL⟩:∃dy,dy=K (.ao [.agg [af ws,A fu,ax up,A bw,A bz],.one (bs []),.one (A 0)]) []:=⟨_,rfl⟩
 obtain⟨cR,kH⟩:∃cR,cR=K (.ao [.agg (fJ dR.fst),.one (bs dR.snd),.one (A 0)]) []:=⟨_,rfl⟩
 refine cf (fun rec=>(by subst kH iL kG hx ed;kernel_rfl:_=(
  J (!(ar (fq b) 0))
  (K (.ao [.agg [af [],A (0:Int),ax false,A (0:Int),A (0:Int)],.one (bs []),.one (A (fq b))]) [])
  (J (!(ar (e4 ⟨⟨ws,fu⟩,up,bw,bz⟩) 0))
  (K (.ao [.agg [af [],A (0:Int),ax false,A (0:Int),A (0:Int)],.one (bs []),.one (A (e4 ⟨⟨ws,fu⟩,up,bw,bz⟩))]) [])
  (J (!(ar (gd ⟨mk,ba,bb,bB,ch,bQ,cz⟩) 0))
  (K (.ao [.agg [af [],A (0:Int),ax false,A (0:Int),A (0:Int)],.one (bs []),.one (A (gd ⟨mk,ba,bb,bB,ch,bQ,cz⟩))]) [])
  (len ws*8<=140737488355328 /\
  J (!up)
  dy
  (J (ar mk 1)
  (((0:Int)<=v3.slot/\v3.slot<=1/\(0:Int)<=bB/\bB<=40/\len bQ<=8) /\
  K (.ao [.agg (fJ (pQ ⟨⟨ws,fu⟩,up,bw,bz⟩ ⟨v3.slot,v3.e2,v3.ready⟩ ⟨mk,ba,bb,bB,ch,bQ,cz⟩)),.one (bs []),.one (A 0)]) [])
  (J (ar mk 2)
  (((0:Int)<=v3.slot/\v3.slot<=1/\List.length b<=140737488355328) /\
  K (.ao [.agg (fJ cn.fst),.one (bs cn.snd),.one (A 0)]) [])
  (J (ar mk 4)
  (J (ar mk 4)
  (((0:Int)<=v3.slot/\v3.slot<=1) /\
  cR)
  dy)
  (J (ar mk 5)
  (((0:Int)<=v3.slot/\v3.slot<=1) /\
  cR)
  dy)))))))))) ?_
 subst kH iL kG hx ed;have bad:∀e:Int,e≠0->su b ⟨⟨ws,fu⟩,up,bw,bz⟩ ⟨mk,ba,bb,bB,ch,bQ,cz⟩=e->K (.ao [.agg [af [],A 0,ax false,A 0,A 0],.one (bs []),.one (A e)]) []:=fun e bv h=>by
  rw[show h6 b ⟨⟨ws,fu⟩,up,bw,bz⟩ ⟨mk,ba,bb,bB,ch,bQ,cz⟩=((vT,[]),e)from by unfold h6;rw[if_neg (by rw[h];exact bv),h]]at D;exact D
 refine bG (fun h=>bad _ h (if_neg h)) (fun h=>?_);have er:su b ⟨⟨ws,fu⟩,up,bw,bz⟩ ⟨mk,ba,bb,bB,ch,bQ,cz⟩=_:=if_pos h;refine bG (fun G=>bad _ G (er.trans (if_neg G))) (fun G=>?_);have dO:=er.trans (if_pos G);refine bG (fun Y=>bad _ Y dO) (fun Y=>?_);rw[show h6 b ⟨⟨ws,fu⟩,up,bw,bz⟩ ⟨mk,ba,bb,bB,ch,bQ,cz⟩=(he b ⟨⟨ws,fu⟩,up,bw,bz⟩ ⟨mk,ba,bb,bB,ch,bQ,cz⟩,0)from if_pos (dO.trans Y)]at D;obtain⟨_,bc,_⟩:=q9 G;obtain⟨_,_,_,_,_,_,fc,gJ,_,_,hz,_⟩:=ph Y;obtain⟨⟨ia,iP⟩,_⟩:=xT ⟨ws,fu⟩;simp only at bc fc gJ hz;unfold he at D;simp only at D;refine⟨by simp only[len];omega,ew (fun aS=>?_) (fun aS=>?_)⟩
 ·rw[if_neg (by rw[aS];simp)]at D;exact D
 rw[if_pos aS]at D;refine cI (fun bj=>⟨⟨ia,iP,fc,gJ,hz⟩,?_⟩) (fun bj=>cI (fun bK=>⟨⟨ia,iP,ad⟩,?_⟩) (fun bK=>cI (fun c4=>k0 c4 ⟨⟨ia,iP⟩,?_⟩) (fun c4=>cI (fun dJ=>⟨⟨ia,iP⟩,?_⟩) (fun dJ=>?_))))
 ·rw[if_pos bj]at D;exact D
 ·rw[if_neg bj,if_pos bK]at D;exact D
 ·rw[if_neg bj,if_neg bK,if_pos (.inl c4)]at D;exact D
 ·rw[if_neg bj,if_neg bK,if_pos (.inr dJ)]at D;exact D
 ·rw[if_neg bj,if_neg bK,if_neg (by omega)]at D;exact D

def C1:a7
 |[.one (.ptr 0 0),.one (.E (.list .message) l)],[.box [.E (.list .str) aJ,.E (.list .signed) vs,.E (.list .int) ws,.E .int fu,.E .bool up,.E .int al,.E (.list .int) ah,.E .int ak,.E .int aj,.E (.list .bool) aa,.E (.list .bool) ab,.own 1,.own 2,.own 3,.E .int now],.arr .aO us,.arr .aP cs,.arr .message W]=>some (some (W.length<=1000/\l.length<=1000/\nv l=true),.ao [],[.box (lv (ld ⟨aJ,vs,⟨⟨ws,fu⟩,up,⟨⟨al,ah,ak⟩,aj⟩,aa,ab⟩,us,cs,W,now⟩ l) (.own 4) (.own 5) (.own 6)),.dead,.dead,.dead,.arr .aO (ld ⟨aJ,vs,⟨⟨ws,fu⟩,up,⟨⟨al,ah,ak⟩,aj⟩,aa,ab⟩,us,cs,W,now⟩ l).units,.arr .aP (ld ⟨aJ,vs,⟨⟨ws,fu⟩,up,⟨⟨al,ah,ak⟩,aj⟩,aa,ab⟩,us,cs,W,now⟩ l).cr,.arr .message (ld ⟨aJ,vs,⟨⟨ws,fu⟩,up,⟨⟨al,ah,ak⟩,aj⟩,aa,ab⟩,us,cs,W,now⟩ l).W])
 |_,_=>none
def FZ:Ctx:=[(82,z6)]
def wa:List cu:=[.inLoop [8,7,6,0] (Code.sub (bR Tryz.f138) [1,0,0]),.inBlock 0]
def L4(F ai:Int)(M:cF)(ag:cD)(an:cG)(aE:aK)(aI:Int)(aV:Bool)(aZ:Int)(bd:aK)(bu bx:Int)(br bD:da)(bM:Int)(bJ:cZ)(bP:c3)(bC:cF):bO:=⟨[(8,.one (A F)),(7,.one (A ai)),(6,.one (bs M)),(0,.one (.ptr 0 0))],[(0,.box [.E (z.list z.str) ag,.E (z.list z.signed) an,af aE,A aI,ax aV,A aZ,af bd,A bu,A bx,bh br,bh bD,.own 4,.own 5,.own 6,A bM]),(1,.dead),(2,.dead),(3,.dead),(4,.arr z.aO bJ),(5,.arr z.aP bP),(6,.arr z.message bC)],7⟩
theorem ahy(aJ:cD)(vs:cG)(ws:aK)(fu:Int)(up:Bool)(al:Int)(ah:aK)(ak aj:Int)(aa ab:da)(us:cZ)(cs:c3)(W:cF)(now:Int)(l:cF)(rec:bV)(K:aU):js FZ tab Tryz.f138 4 K rec [.code (bR Tryz.f138)] (rG [.one (.ptr 0 0),.one (bs l)] [.box (et aJ vs ws fu up al ah ak aj aa ab (.own 1) (.own 2) (.own 3) now),.arr z.aO us,.arr z.aP cs,.arr z.message W])=(
 rec wa (L4 0 (len l:Int) l aJ vs ws fu up al ah ak aj aa ab now us cs W)):=by kernel_rfl
theorem V6{F:Int}{bC:cF}{rec:bV}{K:aU}{ai M ag an aE aI aV aZ bd bu bx br bD bM bJ bP}{v0}(bX:v0=fun a b=>L4 a ai M ag an aE aI aV aZ bd bu bx br bD bM bJ bP b):js FZ tab Tryz.f138 4 K rec (cU wa) (v0 F bC)=(
 J (aL F ai)
 (((0:Int)<=F/\F<(len M:Int)) /\
 J (aL (len bC:Int) 24)
 (len (nth M (Int.toNat F) (z.H z.message)).words*8<=140737488355328 /\
 (len bC+len (((nth M (Int.toNat F) (z.H z.message)):fD)::[]))*72<=140737488355328 /\
 rec wa (v0 (U (F+1)) (cat bC (((nth M (Int.toNat F) (z.H z.message)):fD)::[]))))
 (rec wa (v0 (U (F+1)) bC)))
 (K (.ao []) [.box [.E (z.list z.str) ag,.E (z.list z.signed) an,af aE,A aI,ax aV,A aZ,af bd,A bu,A bx,bh br,bh bD,.own 4,.own 5,.own 6,A bM],.dead,.dead,.dead,.arr z.aO bJ,.arr z.aP bP,.arr z.message bC])):=by subst_vars;kernel_rfl

theorem KL(l:cF)(az:l.length<=1000)(av:nv l=true)(aJ:cD)(vs:cG)(ws:aK)(fu:Int)(up:Bool)(al:Int)(ah:aK)(ak aj:Int)(aa ab:da)(now:Int)(us:cZ)(cs:c3)(K:aU):∀(d k:Nat) (W:cF),k+d=l.length->W.length<=1000 ->
  K (.ao []) [.box (et aJ vs ws fu up al ah ak aj aa ab (.own 4) (.own 5) (.own 6) now),.dead,.dead,.dead,.arr z.aO us,.arr z.aP cs,.arr z.message (hI W (l.drop k))] ->
  h4 FZ tab Tryz.f138 4 K (d+1) wa (L4 (k:Int) (((len l):Nat):Int) l aJ vs ws fu up al ah ak aj aa ab now us cs W)
 |0,k,W,ae,aq,D=>by
  rw[jS (L:=wa),V6 rfl];rw[List.drop_of_length_le (by omega),Xx]at D;exact ci (by simp only[len];omega) D
 |d+1,k,W,ae,aq,D=>by
  rw[jS (L:=wa),V6 rfl,cM,di (by omega)];rw[ee (by omega) (z.H z.message),Xw]at D;have aB:(nth l k (z.H z.message)).words.length<=1000:=of_decide_eq_true (List.all_eq_true.1 av _ (iu (by omega) _));obtain⟨m,fh⟩:∃m,nth l k (z.H z.message)=m:=⟨_,rfl⟩
  rw[fh]at D aB |-;refine cV (by simp only[len];omega) ⟨⟨by omega,by simp only[len];omega⟩,bq (fun h=>⟨by simp only[len];omega,by simp only[len,List.length_cons,List.length_nil];omega,?_⟩) (fun h=>?_)⟩
  ·rw[if_pos (by simp only[len]at h;omega)]at D;exact KL l az av aJ vs ws fu up al ah ak aj aa ab now us cs K d (k+1) _ (by omega) (by simp only[cat,List.length_append,List.length_cons,List.length_nil];simp only[len]at h;omega) D
  ·rw[if_neg (by simp only[len]at h;omega)]at D;exact KL l az av aJ vs ws fu up al ah ak aj aa ab now us cs K d (k+1) _ (by omega) aq D
theorem Fu:bo 138 C1:=sY (Γ:=FZ) 4 (bn.f zk) Tryz.func138 (by kernel_rfl) fun vs au=>by
 unfold C1;split;rotate_left;trivial;rename_i l aJ vs ws fu up al ah ak aj aa ab now us cs W;refine⟨by kernel_rfl,fun ad K D=>?_⟩;obtain⟨e0,fj,g2⟩:=ad;refine⟨l.length+2,?_⟩;rw[qn,ahy _ _ _ _ _ _ _ _ _ _ _ _ _ _ _ _ _ _];exact KL l fj g2 aJ vs ws fu up al ah ak aj aa ab now us cs K l.length 0 W (by omega) e0 D

def P7:a7
 |[.one (.ptr 0 0),.one (.E .int k)],[.box [.E (.list .str) aJ,.E (.list .signed) vs,.E (.list .int) ws,.E .int fu,.E .bool up,.E .int al,.E (.list .int) ah,.E .int ak,.E .int aj,.E (.list .bool) aa,.E (.list .bool) ab,.own 1,.own 2,.own 3,.E .int now],.arr .aO us,.arr .aP cs,.arr .message W]=>some (some (okW ⟨aJ,vs,⟨⟨ws,fu⟩,up,⟨⟨al,ah,ak⟩,aj⟩,aa,ab⟩,us,cs,W,now⟩=true/\0<=k/\k<(W.length:Int)),.ao [],[.box (lv (iF ⟨aJ,vs,⟨⟨ws,fu⟩,up,⟨⟨al,ah,ak⟩,aj⟩,aa,ab⟩,us,cs,W,now⟩ k.toNat) (.own 4) (.own 5) (.own 6)),.dead,.dead,.dead,.arr .aO (iF ⟨aJ,vs,⟨⟨ws,fu⟩,up,⟨⟨al,ah,ak⟩,aj⟩,aa,ab⟩,us,cs,W,now⟩ k.toNat).units,.arr .aP (iF ⟨aJ,vs,⟨⟨ws,fu⟩,up,⟨⟨al,ah,ak⟩,aj⟩,aa,ab⟩,us,cs,W,now⟩ k.toNat).cr,.arr .message (iF ⟨aJ,vs,⟨⟨ws,fu⟩,up,⟨⟨al,ah,ak⟩,aj⟩,aa,ab⟩,us,cs,W,now⟩ k.toNat).W])
 |_,_=>none
def Ow:Ctx:=[(137,HB),(179,Hb),(180,GV),(138,C1)]
theorem afQ:fr Tryz.prog tab Ow:=((((bn.f Fu).f ajR).f aj1).f ⟨⟨_,Tryz.func137,(by kernel_rfl)⟩,X8⟩)
theorem ahA(aJ:cD)(vs:cG)(ws:aK)(fu:Int)(up:Bool)(al:Int)(ah:aK)(ak aj:Int)(aa ab:da)(us:cZ)(cs:c3)(W:cF)(now k:Int)(rec:bV)(K:aU) v0 (bX:v0=hS ⟨⟨ws,fu⟩,up,⟨⟨al,ah,ak⟩,aj⟩,aa,ab⟩ ⟨(nth W (Int.toNat k) (z.H z.message)).kind,(nth W (Int.toNat k) (z.H z.message)).unit,(nth W (Int.toNat k) (z.H z.message)).n,(nth W (Int.toNat k) (z.H z.message)).at_,(nth W (Int.toNat k) (z.H z.message)).image,(nth W (Int.toNat k) (z.H z.message)).words,(nth W (Int.toNat k) (z.H z.message)).yes⟩) v1 (b9:v1=nv v0.fst.snd) aC (cT:aC=hI (List.eraseIdx W (Int.toNat k)) v0.fst.snd) v3 (ed:v3=h6 aJ ⟨⟨((nth us (Int.toNat (nth W (Int.toNat k) (z.H z.message)).unit) (z.H z.aO)).f).words,((nth us (Int.toNat (nth W (Int.toNat k) (z.H z.message)).unit) (z.H z.aO)).f).fuel⟩,(nth us (Int.toNat (nth W (Int.toNat k) (z.H z.message)).unit) (z.H z.aO)).up,(nth us (Int.toNat (nth W (Int.toNat k) (z.H z.message)).unit) (z.H z.aO)).n,(nth us (Int.toNat (nth W (Int.toNat k) (z.H z.message)).unit) (z.H z.aO)).eG⟩ ⟨(nth W (Int.toNat k) (z.H z.message)).kind,(nth W (Int.toNat k) (z.H z.message)).unit,(nth W (Int.toNat k) (z.H z.message)).n,(nth W (Int.toNat k) (z.H z.message)).at_,(nth W (Int.toNat k) (z.H z.message)).image,(nth W (Int.toNat k) (z.H z.message)).words,(nth W (Int.toNat k) (z.H z.message)).yes⟩) v4 (e5:v4=nv v3.fst.snd) cn (hx:cn=hI (List.eraseIdx W (Int.toNat k)) v3.fst.snd) cR (kH:cR=K (.ao []) [.box (et aJ vs ws fu up al ah ak aj aa ab (.own 4) (.own 5) (.own 6) now),.dead,.dead,.dead,.arr z.aO us,.arr z.aP cs,.arr z.message (List.eraseIdx W (Int.toNat k))]) dR (kG:dR=J (ar v3.snd 0)
 (((0:Int)<=(nth W (Int.toNat k) (z.H z.message)).unit/\(nth W (Int.toNat k) (z.H z.message)).unit<(len us:Int)) /\
 Int.toNat (nth W (Int.toNat k) (z.H z.message)).unit<len us /\
 (List.length (List.eraseIdx W (Int.toNat k))<=1000/\List.length v3.fst.snd<=1000/\v4=true) /\
 K (.ao []) [.box (et aJ vs ws fu up al ah ak aj aa ab (.own 4) (.own 5) (.own 6) now),.dead,.dead,.dead,.arr z.aO (setAt us (Int.toNat (nth W (Int.toNat k) (z.H z.message)).unit) ⟨⟨v3.fst.fst.f.words,v3.fst.fst.f.fuel⟩,v3.fst.fst.up,v3.fst.fst.n,v3.fst.fst.eG⟩),.arr z.aP cs,.arr z.message cn])
 cR) dy (iL:dy=J (ar v0.snd 0)
 ((List.length (List.eraseIdx W (Int.toNat k))<=1000/\List.length v0.fst.snd<=1000/\v1=true) /\
 K (.ao []) [.box [.E (z.list z.str) aJ,.E (z.list z.signed) vs,af v0.fst.fst.f.words,A v0.fst.fst.f.fuel,ax v0.fst.fst.up,A v0.fst.fst.t.r.version,af v0.fst.fst.t.r.keys,A v0.fst.fst.t.r.dV,A v0.fst.fst.t.version,bh v0.fst.fst.cH,bh v0.fst.fst.did,.own 4,.own 5,.own 6,A now],.dead,.dead,.dead,.arr z.aO us,.arr z.aP cs,.arr z.message aC])
 cR):js Ow tab Tryz.f136 4 K rec [.code (bR Tryz.f136)] (rG [.one (.ptr 0 0),.one (A k)] [.box (et aJ vs ws fu up al ah ak aj aa ab (.own 1) (.own 2) (.own 3) now),.arr z.aO us,.arr z.aP cs,.arr z.message W])=(
 ((0:Int)<=k/\k<(len W:Int)) /\
 Int.toNat k<len W /\
 ((0:Int)<=k/\k<(((List.length W):Nat):Int)/\U (k+1)=k+1/\List.length W<=1000) /\
 J (ar (nth W (Int.toNat k) (z.H z.message)).kind 3)
 (J (ar (nth W (Int.toNat k) (z.H z.message)).kind 3)
 dy
 (((0:Int)<=(nth W (Int.toNat k) (z.H z.message)).unit/\(nth W (Int.toNat k) (z.H z.message)).unit<(len us:Int)) /\
 Int.toNat (nth W (Int.toNat k) (z.H z.message)).unit<len us /\
 List.length aJ<=140737488355328 /\
 dR))
 (J (ar (nth W (Int.toNat k) (z.H z.message)).kind 6)
 (J (ar (nth W (Int.toNat k) (z.H z.message)).kind 6)
 dy
 (((0:Int)<=(nth W (Int.toNat k) (z.H z.message)).unit/\(nth W (Int.toNat k) (z.H z.message)).unit<(len us:Int)) /\
 Int.toNat (nth W (Int.toNat k) (z.H z.message)).unit<len us /\
 List.length aJ<=140737488355328 /\
 dR))
 (J (ar (nth W (Int.toNat k) (z.H z.message)).kind 7)
 dy
 (((0:Int)<=(nth W (Int.toNat k) (z.H z.message)).unit/\(nth W (Int.toNat k) (z.H z.message)).unit<(len us:Int)) /\
 Int.toNat (nth W (Int.toNat k) (z.H z.message)).unit<len us /\
 List.length aJ<=140737488355328 /\
 dR)))):=by subst_vars;kernel_rfl

theorem aiO(ad:okW ⟨aJ,vs,⟨⟨ws,fu⟩,up,⟨⟨al,ah,ak⟩,aj⟩,aa,ab⟩,us,cs,W,now⟩=true/\0<=k/\k<(W.length:Int))(K:aU)(D:K (.ao []) [.box (lv (iF ⟨aJ,vs,⟨⟨ws,fu⟩,up,⟨⟨al,ah,ak⟩,aj⟩,aa,ab⟩,us,cs,W,now⟩ k.toNat) (.own 4) (.own 5) (.own 6)),.dead,.dead,.dead,.arr .aO (iF ⟨aJ,vs,⟨⟨ws,fu⟩,up,⟨⟨al,ah,ak⟩,aj⟩,aa,ab⟩,us,cs,W,now⟩ k.toNat).units,.arr .aP (iF ⟨aJ,vs,⟨⟨ws,fu⟩,up,⟨⟨al,ah,ak⟩,aj⟩,aa,ab⟩,us,cs,W,now⟩ k.toNat).cr,.arr .message (iF ⟨aJ,vs,⟨⟨ws,fu⟩,up,⟨⟨al,ah,ak⟩,aj⟩,aa,ab⟩,us,cs,W,now⟩ k.toNat).W]):∃m,h4 Ow tab Tryz.f136 4 K m [.code (bR Tryz.f136)] (rG [.one (.ptr 0 0),.one (A k)] [.box (et aJ vs ws fu up al ah ak aj aa ab (.own 1) (.own 2) (.own 3) now),.arr .aO us,.arr .aP cs,.arr .message W]):=by
 obtain⟨e0,fj,g2⟩:=ad;refine⟨1,?_⟩;rw[qn,ahA _ _ _ _ _ _ _ _ _ _ _ _ _ _ _ _ _ _ _ rfl _ rfl _ rfl _ rfl _ rfl _ rfl _ rfl _ rfl _ rfl];have aQ:=oW.1 e0;have ay:=pg aQ.b;have pC:=aQ.lG;obtain⟨gi,iR⟩:=aQ.o4;simp only at ay pC iR;have aB:=aQ.msg _ (iu (l:=W) (k:=k.toNat) (by omega) (z.H z.message));obtain⟨sz,tT⟩:=aB;obtain⟨_,_,hz,ue,_⟩:=ph sz;have hz:0<=(nth W k.toNat (z.H z.message)).unit:=hz;have ue:(nth W k.toNat (z.H z.message)).unit<=3:=ue;have qz:W.getD k.toNat mP=nth W k.toNat (z.H z.message):=rfl;obtain⟨v,aR⟩:∃v:ke,v=⟨aJ,vs,⟨⟨ws,fu⟩,up,⟨⟨al,ah,ak⟩,aj⟩,aa,ab⟩,us,cs,W,now⟩:=⟨_,rfl⟩
 have oE:v.W.getD k.toNat mP=nth W k.toNat (z.H z.message):=by rw[aR];rfl
 rw[<- aR]at D;obtain⟨m,fh⟩:∃m,nth W k.toNat (z.H z.message)=m:=⟨_,rfl⟩
 rw[fh]at oE tT hz ue |-;simp only at tT;have a1:mb m=true->(hS ⟨⟨ws,fu⟩,up,⟨⟨al,ah,ak⟩,aj⟩,aa,ab⟩ m).2=0->iF v k.toNat=ld ⟨aJ,vs,(hS ⟨⟨ws,fu⟩,up,⟨⟨al,ah,ak⟩,aj⟩,aa,ab⟩ m).1.1,us,cs,W.eraseIdx k.toNat,now⟩ (hS ⟨⟨ws,fu⟩,up,⟨⟨al,ah,ak⟩,aj⟩,aa,ab⟩ m).1.2:=fun h e=>by
  unfold iF;rw[oE,if_pos h,aR];exact if_pos e
 have fe:mb m=true->(hS ⟨⟨ws,fu⟩,up,⟨⟨al,ah,ak⟩,aj⟩,aa,ab⟩ m).2≠0->iF v k.toNat=⟨aJ,vs,⟨⟨ws,fu⟩,up,⟨⟨al,ah,ak⟩,aj⟩,aa,ab⟩,us,cs,W.eraseIdx k.toNat,now⟩:=fun h e=>by
  unfold iF;rw[oE,if_pos h,aR];exact if_neg e
 have alK:mb m=false->(h6 aJ (nth us m.unit.toNat (z.H z.aO)) m).2=0->iF v k.toNat=ld ⟨aJ,vs,⟨⟨ws,fu⟩,up,⟨⟨al,ah,ak⟩,aj⟩,aa,ab⟩,setAt us m.unit.toNat (h6 aJ (nth us m.unit.toNat (z.H z.aO)) m).1.1,cs,W.eraseIdx k.toNat,now⟩ (h6 aJ (nth us m.unit.toNat (z.H z.aO)) m).1.2:=fun h e=>by
  unfold iF;rw[oE,if_neg (by rw[h];simp),aR];exact if_pos e
 have alJ:mb m=false->(h6 aJ (nth us m.unit.toNat (z.H z.aO)) m).2≠0->iF v k.toNat=⟨aJ,vs,⟨⟨ws,fu⟩,up,⟨⟨al,ah,ak⟩,aj⟩,aa,ab⟩,us,cs,W.eraseIdx k.toNat,now⟩:=fun h e=>by
  unfold iF;rw[oE,if_neg (by rw[h];simp),aR];exact if_neg e
 have le:(W.eraseIdx k.toNat).length<=1000:=by
  have:=List.length_eraseIdx_le W k.toNat;omega
 have bt:=acf ⟨⟨ws,fu⟩,up,⟨⟨al,ah,ak⟩,aj⟩,aa,ab⟩ m;have hu:=acj aJ (nth us m.unit.toNat (z.H z.aO)) m;refine⟨⟨fj,by simp only[len];omega⟩,by simp only[len];omega,⟨fj,by omega,by rw[cb (by omega) (by omega)],by omega⟩,?_⟩;refine cI (fun h=>k0 h (cI (fun e=>⟨⟨le,bt.1,bt.2⟩,by rw[a1 (by simp[mb,h]) e]at D;exact D⟩) (fun e=>by rw[fe (by simp[mb,h]) e]at D;exact D))) (fun Y=>cI (fun h=>k0 h (cI (fun e=>⟨⟨le,bt.1,bt.2⟩,by rw[a1 (by simp[mb,h]) e]at D;exact D⟩) (fun e=>by rw[fe (by simp[mb,h]) e]at D;exact D))) (fun bK=>cI (fun h=>cI (fun e=>⟨⟨le,bt.1,bt.2⟩,by rw[a1 (by simp[mb,h]) e]at D;exact D⟩) (fun e=>by rw[fe (by simp[mb,h]) e]at D;exact D)) (fun c4=>?_)));have h:mb m=false:=by simp[mb,Y,bK,c4]
 exact⟨⟨hz,by simp only[len];omega⟩,by simp only[len];omega,by omega,cI (fun e=>⟨⟨hz,by simp only[len];omega⟩,by simp only[len];omega,⟨le,hu.1,hu.2⟩,by rw[alK h e]at D;exact D⟩) (fun e=>by rw[alJ h e]at D;exact D)⟩
theorem akw:bo 136 P7:=hj afQ Tryz.func136 (by kernel_rfl) (by
 intro vs au p v du h ad;unfold P7 at h;split at h
 ·cases h;exact⟨by kernel_rfl,rfl,.inr (.inr (.inl (aiO _ _ _ _ _ _ _ _ _ _ _ _ _ _ _ _ ad.1 _ ⟨rfl,rfl⟩)))⟩
 ·cases h)

def Qb:a7
 |[.one (.ptr 0 0),.agg [.E .int ae,.E .int _,.E .int aq,.E (.list .root) _,.E (.list (.list .int)) _,.E .int _,.E .int _,.E (.list .target) _,.E (.list .int) _,.E (.list (.list .int)) _]],[.box [.E (.list .str) aJ,.E (.list .signed) vs,.E (.list .int) ws,.E .int fu,.E .bool up,.E .int al,.E (.list .int) ah,.E .int ak,.E .int aj,.E (.list .bool) aa,.E (.list .bool) ab,.own 1,.own 2,.own 3,.E .int now],.arr .aO us,.arr .aP cs,.arr .message W]=>some (some (okW ⟨aJ,vs,⟨⟨ws,fu⟩,up,⟨⟨al,ah,ak⟩,aj⟩,aa,ab⟩,us,cs,W,now⟩=true),.one (A (j0 ⟨aJ,vs,⟨⟨ws,fu⟩,up,⟨⟨al,ah,ak⟩,aj⟩,aa,ab⟩,us,cs,W,now⟩ ae aq).2),[.box (lv (j0 ⟨aJ,vs,⟨⟨ws,fu⟩,up,⟨⟨al,ah,ak⟩,aj⟩,aa,ab⟩,us,cs,W,now⟩ ae aq).1 (.own 4) (.own 5) (.own 6)),.dead,.dead,.dead,.arr .aO (j0 ⟨aJ,vs,⟨⟨ws,fu⟩,up,⟨⟨al,ah,ak⟩,aj⟩,aa,ab⟩,us,cs,W,now⟩ ae aq).1.units,.arr .aP (j0 ⟨aJ,vs,⟨⟨ws,fu⟩,up,⟨⟨al,ah,ak⟩,aj⟩,aa,ab⟩,us,cs,W,now⟩ ae aq).1.cr,.arr .message (j0 ⟨aJ,vs,⟨⟨ws,fu⟩,up,⟨⟨al,ah,ak⟩,aj⟩,aa,ab⟩,us,cs,W,now⟩ ae aq).1.W])
 |_,_=>none

theorem akA:bo 84 Qb:=sY 4 (((bn.f Fu).f ⟨⟨_,Tryz.func137,(by kernel_rfl)⟩,X8⟩).f akw) Tryz.func84 (by kernel_rfl) fun vs au=>by
 unfold Qb;split;rotate_left;trivial;rename_i ae hu aq rs rg bE bY ts a5 a8 aJ vs ws fu up al ah ak aj aa ab now us cs W;dsimp only[z.den]at ae hu aq rs rg bE bY ts a5 a8 aJ vs ws fu up al ah ak aj aa ab now us cs W;refine⟨by kernel_rfl,fun ad K D=>?_⟩;refine⟨1,?_⟩;obtain⟨v1,b9⟩:∃v1,v1=iF ⟨aJ,vs,⟨⟨ws,fu⟩,up,⟨⟨al,ah,ak⟩,aj⟩,aa,ab⟩,us,cs,W,now⟩ (Int.toNat aq):=⟨_,rfl⟩
 obtain⟨v4,e5⟩:∃v4,v4=K (.one (A 5)) [.box (et aJ vs ws fu up al ah ak aj aa ab (.own 4) (.own 5) (.own 6) now),.dead,.dead,.dead,.arr z.aO us,.arr z.aP cs,.arr z.message W]:=⟨_,rfl⟩
 refine k4 (fun rec=>(by subst e5 b9;kernel_rfl:_=(
  J (aL aq 0)
  v4
  (J (dh (len W:Int) aq)
  v4
  (J (ar ae 3)
  ((okW ⟨aJ,vs,⟨⟨ws,fu⟩,up,⟨⟨al,ah,ak⟩,aj⟩,aa,ab⟩,us,cs,W,now⟩=true/\(0:Int)<=aq/\aq<(((List.length W):Nat):Int)) /\
  K (.one (A 0)) [.box (lv v1 (.own 4) (.own 5) (.own 6)),.dead,.dead,.dead,.arr z.aO v1.units,.arr z.aP v1.cr,.arr z.message v1.W])
  (J (ar ae 4)
  (((0:Int)<=aq/\aq<(((List.length W):Nat):Int)/\U (aq+1)=aq+1/\List.length W<=1000) /\
  K (.one (A 0)) [.box (et aJ vs ws fu up al ah ak aj aa ab (.own 4) (.own 5) (.own 6) now),.dead,.dead,.dead,.arr z.aO us,.arr z.aP cs,.arr z.message (List.eraseIdx W (Int.toNat aq))])
  (J (ar ae 5)
  (J (ar (len W:Int) 24)
  (K (.one (A 8)) [.box (et aJ vs ws fu up al ah ak aj aa ab (.own 4) (.own 5) (.own 6) now),.dead,.dead,.dead,.arr z.aO us,.arr z.aP cs,.arr z.message W])
  (((0:Int)<=aq/\aq<(len W:Int)) /\
  Int.toNat aq<len W /\
  (List.length W<=1000/\List.length (((nth W (Int.toNat aq) (z.H z.message)):fD)::[])<=1000/\nv (((nth W (Int.toNat aq) (z.H z.message)):fD)::[])=true) /\
  K (.one (A 0)) [.box (et aJ vs ws fu up al ah ak aj aa ab (.own 4) (.own 5) (.own 6) now),.dead,.dead,.dead,.arr z.aO us,.arr z.aP cs,.arr z.message (hI W (((nth W (Int.toNat aq) (z.H z.message)):fD)::[]))]))
  (K (.one (A 0)) [.box (et aJ vs ws fu up al ah ak aj aa ab (.own 4) (.own 5) (.own 6) now),.dead,.dead,.dead,.arr z.aO us,.arr z.aP cs,.arr z.message W])))))))) ?_
 subst e5 b9;have aQ:=oW.1 ad;have pC:=aQ.lG;have DO:=aQ.msg;simp only at pC DO;obtain⟨v,aR⟩:∃v:ke,v=⟨aJ,vs,⟨⟨ws,fu⟩,up,⟨⟨al,ah,ak⟩,aj⟩,aa,ab⟩,us,cs,W,now⟩:=⟨_,rfl⟩
 have sA:v.W=W:=by rw[aR]
 by_cases bp:aq<0\/(W.length:Int)<=aq
 ·rw[<- aR]at D;have e:j0 v ae aq=(v,5):=if_pos (by rw[sA];exact bp);rw[e,aR]at D;refine bq (fun _=>D) (fun h=>gk (by rw[fY];simp only[len];omega) D)
 refine ci (by omega) (e7 (by rw[eL];simp only[len];omega) ?_);have er:j0 v ae aq=_:=if_neg (by rw[sA];exact bp);rw[<- aR]at D;refine cI (fun h=>⟨⟨ad,by omega,by omega⟩,?_⟩) (fun h=>cI (fun G=>⟨⟨by omega,by omega,cb (by omega) (by omega),by omega⟩,?_⟩) (fun G=>cI (fun Y=>cI (fun aS=>?_) (fun aS=>⟨⟨by omega,by simp only[len];omega⟩,by simp only[len];omega,⟨by omega,by simp,?_⟩,?_⟩)) (fun Y=>?_)))
 ·rw[er.trans (if_pos h),aR]at D;exact D
 ·rw[(er.trans (if_neg h)).trans (if_pos G),aR]at D;exact D
 ·rw[((er.trans (if_neg h)).trans (if_neg G)).trans ((if_pos Y).trans (if_pos (by rw[sA];simp only[len]at aS;omega))),aR]at D;exact D
 ·have:=(ph (DO _ (iu (l:=W) (k:=aq.toNat) (by omega) (z.H z.message))).1).2.2.2.2.2.2.2.2.2.2.1;exact XD fun m aB=>by
   simp only[List.mem_singleton]at aB;subst aB;exact this
 ·rw[((er.trans (if_neg h)).trans (if_neg G)).trans ((if_pos Y).trans (if_neg (by rw[sA];simp only[len]at aS;omega))),aR]at D;exact D
 ·rw[((er.trans (if_neg h)).trans (if_neg G)).trans (if_neg Y),aR]at D;exact D

def PV:a7
 |[.agg [.E (.list .int) ws,.E .int fu,.E .bool up,.E .int al,.E (.list .int) ah,.E .int ak,.E .int aj,.E (.list .bool) aa,.E (.list .bool) ab]],[]=>some (none,.ao [.agg (jg (te ⟨⟨ws,fu⟩,up,⟨⟨al,ah,ak⟩,aj⟩,aa,ab⟩).1),.one (A (te ⟨⟨ws,fu⟩,up,⟨⟨al,ah,ak⟩,aj⟩,aa,ab⟩).2)],[])
 |_,_=>none

theorem aj2:bo 139 PV:=b2 0 (((bn.f Ni).f Fs).f zl) Tryz.func139 (by kernel_rfl) fun vs au=>by
 unfold PV;split;rotate_left;trivial;rename_i ws fu up al ah ak aj aa ab;refine⟨by kernel_rfl,fun K D=>?_⟩;refine⟨1,?_⟩;refine cf (fun rec=>(by kernel_rfl:_=(
  J (!(ar (dG ⟨⟨ws,fu⟩,up,⟨⟨al,ah,ak⟩,aj⟩,aa,ab⟩) 0))
  (K (.ao [.agg [af [],A (0:Int),ax false,A (0:Int),af [],A (0:Int),A (0:Int),bh [],bh []],.one (A (dG ⟨⟨ws,fu⟩,up,⟨⟨al,ah,ak⟩,aj⟩,aa,ab⟩))]) [])
  ((len ws*8<=140737488355328/\len ah*8<=140737488355328/\len aa<=1000/\len ab<=1000) /\
  K (.ao [.agg [af ws,A (-1),ax true,A al,af ah,A ak,A aj,bh (bZ (List.length aa) false),bh (bZ (List.length ab) false)],.one (A 0)]) [])))) ?_
 unfold te at D;refine bG (fun h=>?_) (fun h=>?_)
 ·rw[if_neg h]at D;exact D
 ·rw[if_pos h]at D;obtain⟨ia,iP,kQ,pV⟩:=r7 h;exact⟨⟨ia,iP,kQ,pV⟩,D⟩

def PI:a7
 |[.agg [.E (.list .int) ws,.E .int fu,.E .bool up,.E .int bw,.E .int bz]],[]=>some (none,.ao [.agg (fJ (q6 ⟨⟨ws,fu⟩,up,bw,bz⟩).1),.one (A (q6 ⟨⟨ws,fu⟩,up,bw,bz⟩).2)],[])
 |_,_=>none

theorem ajS:bo 140 PI:=b2 0 (((bn.f XL).f Nc).f BW) Tryz.func140 (by kernel_rfl) fun vs au=>by
 unfold PI;split;rotate_left;trivial;rename_i ws fu up bw bz;refine⟨by kernel_rfl,fun K D=>?_⟩;refine⟨1,?_⟩;refine cf (fun rec=>(by kernel_rfl:_=(
  J (!(ar (e4 ⟨⟨ws,fu⟩,up,bw,bz⟩) 0))
  (K (.ao [.agg [af [],A (0:Int),ax false,A (0:Int),A (0:Int)],.one (A (e4 ⟨⟨ws,fu⟩,up,bw,bz⟩))]) [])
  (len ws*8<=140737488355328 /\
  K (.ao [.agg [af ws,A (-1),ax true,A (0:Int),A (0:Int)],.one (A 0)]) [])))) ?_
 unfold q6 at D;refine bG (fun h=>?_) (fun h=>⟨?_,?_⟩)
 ·rw[if_neg h]at D;exact D
 ·have:=(q9 h).2.1;simp only at this;simp only[len];omega
 ·rw[if_pos h]at D;exact D

def P8:a7
 |[.one (.ptr 0 0),.agg [.E .int ae,.E .int hu,.E .int aq,.E (.list .root) _,.E (.list (.list .int)) _,.E .int _,.E .int _,.E (.list .target) _,.E (.list .int) _,.E (.list (.list .int)) _]],[.box [.E (.list .str) aJ,.E (.list .signed) vs,.E (.list .int) ws,.E .int fu,.E .bool up,.E .int al,.E (.list .int) ah,.E .int ak,.E .int aj,.E (.list .bool) aa,.E (.list .bool) ab,.own 1,.own 2,.own 3,.E .int now],.arr .aO us,.arr .aP cs,.arr .message W]=>some (some (okW ⟨aJ,vs,⟨⟨ws,fu⟩,up,⟨⟨al,ah,ak⟩,aj⟩,aa,ab⟩,us,cs,W,now⟩=true),.one (A (j3 ⟨aJ,vs,⟨⟨ws,fu⟩,up,⟨⟨al,ah,ak⟩,aj⟩,aa,ab⟩,us,cs,W,now⟩ ae hu aq).2),[.box (lv (j3 ⟨aJ,vs,⟨⟨ws,fu⟩,up,⟨⟨al,ah,ak⟩,aj⟩,aa,ab⟩,us,cs,W,now⟩ ae hu aq).1 (.own 4) (.own 5) (.own 6)),.dead,.dead,.dead,.arr .aO (j3 ⟨aJ,vs,⟨⟨ws,fu⟩,up,⟨⟨al,ah,ak⟩,aj⟩,aa,ab⟩,us,cs,W,now⟩ ae hu aq).1.units,.arr .aP (j3 ⟨aJ,vs,⟨⟨ws,fu⟩,up,⟨⟨al,ah,ak⟩,aj⟩,aa,ab⟩,us,cs,W,now⟩ ae hu aq).1.cr,.arr .message (j3 ⟨aJ,vs,⟨⟨ws,fu⟩,up,⟨⟨al,ah,ak⟩,aj⟩,aa,ab⟩,us,cs,W,now⟩ ae hu aq).1.W])
 |_,_=>none

theorem akx:bo 85 P8:=sY 4 ((bn.f ajS).f aj2) Tryz.func85 (by kernel_rfl) fun vs au=>by
 unfold P8;split;rotate_left;trivial;rename_i ae hu aq rs rg bE bY ts a5 a8 aJ vs ws fu up al ah ak aj aa ab now us cs W;dsimp only[z.den]at ae hu aq rs rg bE bY ts a5 a8 aJ vs ws fu up al ah ak aj aa ab now us cs W;refine⟨by kernel_rfl,fun ad K D=>?_⟩;refine⟨1,?_⟩;obtain⟨v0,bX⟩:∃v0,v0=te ⟨⟨ws,fu⟩,up,⟨⟨al,ah,ak⟩,aj⟩,aa,ab⟩:=⟨_,rfl⟩
 obtain⟨v3,ed⟩:∃v3,v3=K (.one (A 5)) [.box (et aJ vs ws fu up al ah ak aj aa ab (.own 4) (.own 5) (.own 6) now),.dead,.dead,.dead,.arr z.aO us,.arr z.aP cs,.arr z.message W]:=⟨_,rfl⟩
 obtain⟨v4,e5⟩:∃v4,v4=K (.one (A 3)) [.box (et aJ vs ws fu up al ah ak aj aa ab (.own 4) (.own 5) (.own 6) now),.dead,.dead,.dead,.arr z.aO us,.arr z.aP cs,.arr z.message W]:=⟨_,rfl⟩
 obtain⟨cn,hx⟩:∃cn,cn=J (ar ae 6)
  (((0:Int)<=hu/\hu<(len us:Int)) /\
  Int.toNat hu<len us /\
  K (.one (A 0)) [.box (et aJ vs ws fu up al ah ak aj aa ab (.own 4) (.own 5) (.own 6) now),.dead,.dead,.dead,.arr z.aO (setAt us (Int.toNat hu) ⟨⟨((nth us (Int.toNat hu) (z.H z.aO)).f).words,aq⟩,(nth us (Int.toNat hu) (z.H z.aO)).up,(nth us (Int.toNat hu) (z.H z.aO)).n,(nth us (Int.toNat hu) (z.H z.aO)).eG⟩),.arr z.aP cs,.arr z.message W])
  (J (aL hu 0)
  (K (.one (A 0)) [.box [.E (z.list z.str) aJ,.E (z.list z.signed) vs,af v0.fst.f.words,A v0.fst.f.fuel,ax v0.fst.up,A v0.fst.t.r.version,af v0.fst.t.r.keys,A v0.fst.t.r.dV,A v0.fst.t.version,bh v0.fst.cH,bh v0.fst.did,.own 4,.own 5,.own 6,A now],.dead,.dead,.dead,.arr z.aO us,.arr z.aP cs,.arr z.message W])
  (((0:Int)<=hu/\hu<(len us:Int)) /\
  Int.toNat hu<len us /\
  ((0:Int)<=hu/\hu<(len us:Int)) /\
  Int.toNat hu<len us /\
  K (.one (A 0)) [.box (et aJ vs ws fu up al ah ak aj aa ab (.own 4) (.own 5) (.own 6) now),.dead,.dead,.dead,.arr z.aO (setAt us (Int.toNat hu) (q6 ⟨(nth us (Int.toNat hu) (z.H z.aO)).f,(nth us (Int.toNat hu) (z.H z.aO)).up,(nth us (Int.toNat hu) (z.H z.aO)).n,(nth us (Int.toNat hu) (z.H z.aO)).eG⟩).fst),.arr z.aP cs,.arr z.message W])):=⟨_,rfl⟩
 obtain⟨aC,cT⟩:∃aC,aC=J (ar ae 6)
  (J (aL hu 0)
  (K (.one (A 0)) [.box [.E (z.list z.str) aJ,.E (z.list z.signed) vs,af ws,A aq,ax up,A al,af ah,A ak,A aj,bh aa,bh ab,.own 4,.own 5,.own 6,A now],.dead,.dead,.dead,.arr z.aO us,.arr z.aP cs,.arr z.message W])
  cn)
  cn:=⟨_,rfl⟩
 refine k4 (fun rec=>(by subst cT hx e5 ed bX;kernel_rfl:_=(
  J (aL hu (-1))
  v3
  (J (dh (len us:Int) hu)
  v3
  (J (ar ae 6)
  (J (aL aq 0)
  v4
  (J (aL 100000 aq)
  v4
  aC))
  aC))))) ?_
 subst cT hx e5 ed bX;have aQ:=oW.1 ad;obtain⟨gi,iR⟩:=aQ.o4;simp only at iR;obtain⟨v,aR⟩:∃v:ke,v=⟨aJ,vs,⟨⟨ws,fu⟩,up,⟨⟨al,ah,ak⟩,aj⟩,aa,ab⟩,us,cs,W,now⟩:=⟨_,rfl⟩
 have xH:v.units.length=us.length:=by rw[aR]
 rw[<- aR]at D
 by_cases bp:hu < -1\/(us.length:Int)<=hu
 ·have e:j3 v ae hu aq=(v,5):=if_pos (by rw[xH];exact bp);rw[e,aR]at D;refine bq (fun _=>D) (fun h=>gk (by rw[fY];simp only[len];omega) D)
 refine ci (by omega) (e7 (by rw[eL];simp only[len];omega) ?_);have er:j3 v ae hu aq=_:=if_neg (by rw[xH];exact bp);have tail:¬(ae=6/\(aq<0\/100000<aq))->j3 v ae hu aq=if ae=6 then(if hu<0 then(Ju v aq,0)else(rT v hu (Aw (jd v hu) aq),0))else if hu<0 then(w5 v,0)else(rT v hu (q6 (jd v hu)).1,0):=fun h=>er.trans (if_neg h)
 refine cI (fun bK=>?_) (fun bK=>?_)
 ·by_cases bc:aq<0\/100000<aq
  ·have e:=er.trans (if_pos ⟨bK,bc⟩);rw[e,aR]at D;exact bq (fun _=>D) (fun h=>cV (by omega) D)
  have e:=(tail (fun h=>bc h.2)).trans (if_pos bK);refine ci (by omega) (ci (by omega) (k0 bK (bq (fun h=>?_) (fun h=>k0 bK ⟨⟨h,by simp only[len];omega⟩,by simp only[len];omega,?_⟩))))
  ·rw[e,if_pos h,aR]at D;exact D
  ·rw[e,if_neg (by omega),aR]at D;exact D
 ·have e:=(tail (fun h=>bK h.1)).trans (if_neg bK);refine iV bK (iV bK (bq (fun h=>?_) (fun h=>⟨⟨h,by simp only[len];omega⟩,by simp only[len];omega,⟨h,by simp only[len];omega⟩,by simp only[len];omega,?_⟩)))
  ·rw[e,if_pos h,aR]at D;exact D
  ·rw[e,if_neg (by omega),aR]at D;exact D

def PX:a7
 |[.agg [.E (.list .int) ws,.E .int fu,.E .bool up,.E .int al,.E (.list .int) ah,.E .int ak,.E .int aj,.E (.list .bool) aa,.E (.list .bool) ab]],[]=>some (none,.ao [.agg (jg (ki ⟨⟨ws,fu⟩,up,⟨⟨al,ah,ak⟩,aj⟩,aa,ab⟩).1),.one (A (ki ⟨⟨ws,fu⟩,up,⟨⟨al,ah,ak⟩,aj⟩,aa,ab⟩).2)],[])
 |_,_=>none

theorem aj5:bo 86 PX:=b2 0 ((((bn.f Nj).f Fs).f Fq).f Nk) Tryz.func86 (by kernel_rfl) fun vs au=>by
 unfold PX;split;rotate_left;trivial;rename_i ws fu up al ah ak aj aa ab;refine⟨by kernel_rfl,fun K D=>?_⟩;refine⟨1,?_⟩;obtain⟨v3,ed⟩:∃v3,v3=K (.ao [.agg [af [],A (0:Int),ax false,A (0:Int),af [],A (0:Int),A (0:Int),bh [],bh []],.one (A 12)]) []:=⟨_,rfl⟩
 refine cf (fun rec=>(by subst ed;kernel_rfl:_=(
  J (!(ar (hY ⟨⟨ws,fu⟩,up,⟨⟨al,ah,ak⟩,aj⟩,aa,ab⟩) 0))
  (K (.ao [.agg [af [],A (0:Int),ax false,A (0:Int),af [],A (0:Int),A (0:Int),bh [],bh []],.one (A (hY ⟨⟨ws,fu⟩,up,⟨⟨al,ah,ak⟩,aj⟩,aa,ab⟩))]) [])
  (J (ar (bN ⟨ws,fu⟩).n 0)
  v3
  (J (bN ⟨ws,fu⟩).dv
  v3
  (J (bN ⟨ws,fu⟩).abort
  v3
  ((len ws*8<=140737488355328/\len ah*8<=140737488355328/\len aa<=1000/\len ab<=1000) /\
  List.length ((3:Int)::(bN ⟨ws,fu⟩).n::[])<=140737488355328 /\
  K (.ao [.agg (jg (dN ⟨⟨ws,fu⟩,up,⟨⟨al,ah,ak⟩,aj⟩,aa,ab⟩ ((3:Int)::(bN ⟨ws,fu⟩).n::[])).fst),.one (A 0)]) []))))))) ?_
 subst ed;unfold ki qm at D;simp only at D;obtain⟨s,av⟩:∃s,bN ⟨ws,fu⟩=s:=⟨_,rfl⟩
 rw[av]at D |-;refine bG (fun h=>?_) (fun h=>?_)
 ·rw[if_neg h,if_neg h]at D;exact D
 have aA:dG ⟨⟨ws,fu⟩,up,⟨⟨al,ah,ak⟩,aj⟩,aa,ab⟩=0:=wE h;obtain⟨ia,iP,kQ,pV⟩:=r7 aA;rw[if_pos h]at D
 by_cases c:s.n=0\/s.dv=true\/s.abort=true
 ·rw[if_pos c,if_neg (by omega)]at D;refine cI (fun _=>D) (fun bp=>b3 (fun _=>D) (fun bc=>b3 (fun _=>D) (fun cq=>?_)));rw[bc,cq]at c;simp[bp]at c
 ·rw[if_neg c,if_pos rfl]at D;simp only[not_or,Bool.not_eq_true]at c;exact iV c.1 (e7 c.2.1 (e7 c.2.2 ⟨⟨ia,iP,kQ,pV⟩,by simp,D⟩))

def G5:a7
 |[.agg [.E (.list .int) ws,.E .int fu,.E .bool up,.E .int al,.E (.list .int) ah,.E .int ak,.E .int aj,.E (.list .bool) aa,.E (.list .bool) ab]],[]=>some (none,.ao [.agg [A (kP ⟨⟨ws,fu⟩,up,⟨⟨al,ah,ak⟩,aj⟩,aa,ab⟩).1.n,A (kP ⟨⟨ws,fu⟩,up,⟨⟨al,ah,ak⟩,aj⟩,aa,ab⟩).1.version,ax (kP ⟨⟨ws,fu⟩,up,⟨⟨al,ah,ak⟩,aj⟩,aa,ab⟩).1.dv,ax (kP ⟨⟨ws,fu⟩,up,⟨⟨al,ah,ak⟩,aj⟩,aa,ab⟩).1.abort,ax (kP ⟨⟨ws,fu⟩,up,⟨⟨al,ah,ak⟩,aj⟩,aa,ab⟩).1.ended],.one (A (kP ⟨⟨ws,fu⟩,up,⟨⟨al,ah,ak⟩,aj⟩,aa,ab⟩).2)],[])
 |_,_=>none

theorem XX:bo 43 G5:=b2 0 ((bn.f Fq).f zl) Tryz.func43 (by kernel_rfl) fun vs au=>by
 unfold G5;split;rotate_left;trivial;rename_i ws fu up al ah ak aj aa ab;refine⟨by kernel_rfl,fun K D=>?_⟩;refine⟨1,?_⟩;refine cf (fun rec=>(by kernel_rfl:_=(
  J (!(ar (dG ⟨⟨ws,fu⟩,up,⟨⟨al,ah,ak⟩,aj⟩,aa,ab⟩) 0))
  (K (.ao [.agg [A (0:Int),A (0:Int),ax false,ax false,ax false],.one (A (dG ⟨⟨ws,fu⟩,up,⟨⟨al,ah,ak⟩,aj⟩,aa,ab⟩))]) [])
  (K (.ao [.agg [A (bN ⟨ws,fu⟩).n,A (bN ⟨ws,fu⟩).version,ax (bN ⟨ws,fu⟩).dv,ax (bN ⟨ws,fu⟩).abort,ax (bN ⟨ws,fu⟩).ended],.one (A 0)]) [])))) ?_
 unfold kP at D;refine bG (fun h=>?_) (fun h=>?_)
 ·rw[if_neg h]at D;exact D
 ·rw[if_pos h]at D;exact D

def PU:a7
 |[.agg [.E (.list .int) ws,.E .int fu,.E .bool up,.E .int al,.E (.list .int) ah,.E .int ak,.E .int aj,.E (.list .bool) aa,.E (.list .bool) ab],.agg [.E .int eA,.E .int eY,.E .int ei,.E (.list .target) dH,.E (.list (.list .int)) cP],.one (.E .int u)],[]=>some (some (dH.length<=140737488355328/\cP.length<=140737488355328),.ao [.one (bs (hw ⟨⟨ws,fu⟩,up,⟨⟨al,ah,ak⟩,aj⟩,aa,ab⟩ ⟨eA,⟨eY,ei,dH⟩,cP⟩ u).1),.one (A (hw ⟨⟨ws,fu⟩,up,⟨⟨al,ah,ak⟩,aj⟩,aa,ab⟩ ⟨eA,⟨eY,ei,dH⟩,cP⟩ u).2)],[])
 |_,_=>none
def Ok:Ctx:=[(141,G9),(109,G2),(183,Ha),(82,z8)]
def yk:List cu:=[.inLoop [12,11,10,9,7,6,4,2] (Code.sub (bR Tryz.f143) [1,1,1,1,1,1,1,1,1,1,0,1,0,0]),.inBlock 0,.code (Code.sub (bR Tryz.f143) [1,1,1,1,1,1,1,1,1,1,1])]
def LK(F:Int)(ai:aK)(M ag:Int)(an:cF)(aE aI:Int)(aV aZ bd:Bool)(bu:cF)(bx br bD:Int)(bM:LT)(bJ:cj):bO:=⟨[(12,.one (A F)),(11,.one (.own 0)),(10,.one (af ai)),(9,.one (.ptr 1 0)),(7,.one (A M)),(6,.one (.own 2)),(4,.one (.ptr 3 0)),(2,.one (A ag))],[(0,.arr z.message an),(1,.box [A aE,A aI,ax aV,ax aZ,ax bd]),(2,.arr z.message bu),(3,.box [A bx,A br,A bD,.E (z.list z.target) bM,ct bJ])],4⟩
theorem VL{F:Int}{an:cF}{rec:bV}{K:aU}{ai M ag aE aI aV aZ bd bu bx br bD bM bJ}{v0}(bX:v0=fun a b=>LK a ai M ag b aE aI aV aZ bd bu bx br bD bM bJ):b5 Ok tab Tryz.f143 0 K rec (cU yk) (v0 F an)=(
 J (aL F (len ai:Int))
 (((0:Int)<=F/\F<=min (U (F+8)) (len ai:Int)/\min (U (F+8)) (len ai:Int)<=(len ai:Int)) /\
 len (aW ai (Int.toNat F) (Int.toNat (min (U (F+8)) (len ai:Int))))*8<=140737488355328 /\
 (len an+len ((⟨1,ag,aE,F,0,aW ai (Int.toNat F) (Int.toNat (min (U (F+8)) (len ai:Int))),false⟩:fD)::[]))*72<=140737488355328 /\
 rec yk (v0 (U (F+8)) (cat an ((⟨1,ag,aE,F,0,aW ai (Int.toNat F) (Int.toNat (min (U (F+8)) (len ai:Int))),false⟩:fD)::[]))))
 (((0:Int)<=ag/\ag<(len bM:Int)) /\
 (len an+len ((⟨2,ag,aE,(len ai:Int),(nth bM (Int.toNat ag) (z.H z.target)).image,[],false⟩:fD)::[]))*72<=140737488355328 /\
 K (.ao [.one (bs (cat an ((⟨2,ag,aE,(len ai:Int),(nth bM (Int.toNat ag) (z.H z.target)).image,[],false⟩:fD)::[]))),.one (A 0)]) [])):=by subst_vars;kernel_rfl

theorem T3(w:aK)(u n:Int)(b8:w.length<=40)(a b:Int)(c d e:Bool)(ml:cF)(eA eY ei:Int)(dH:LT)(cP:cj)(hu:0<=u/\u<(dH.length:Int))(K:aU) :
  ∀(f k:Nat) (acc:cF),w.length<=k+8*f->k<=48->acc.length+f<=6->K (.ao [.one (bs (acc++(jq u n w f k++[⟨2,u,n,(w.length:Int),(nth dH u.toNat ⟨0,0,0⟩).image,[],false⟩]))),.one (A (0:Int))]) [] ->
  co Ok tab Tryz.f143 0 K (f+1) yk (LK (k:Int) w a u acc n b c d e ml eA eY ei dH cP)
 |0,k,acc,ae,abH,bl,D=>by
  rw[bW (L:=yk),VL rfl];exact ci (by simp only[len];omega) ⟨⟨hu.1,by simp only[len];omega⟩,by simp only[len,List.length_cons,List.length_nil];omega,D⟩
 |f+1,k,acc,ae,abH,bl,D=>by
  rw[bW (L:=yk),VL rfl]
  by_cases c:k<w.length
  ·simp only[jq,if_pos c]at D;have I1:min (U ((k:Int)+8)) (((len w:Nat)):Int)=((min (k+8) w.length:Nat):Int):=by rw[cb (by omega) (by omega)];simp only[len];omega
   rw[I1,cM,cM,show U ((k:Int)+8)=((k+8:Nat):Int)by rw[cb (by omega) (by omega)];omega];have anx:len (aW w k (min (k+8) w.length))<=8:=by simp only[len,aW,List.length_drop,List.length_take];omega
   refine cV (by simp only[len];omega) ⟨⟨by omega,by omega,by simp only[len];omega⟩,by omega,by simp only[len,List.length_cons,List.length_nil];omega,?_⟩;refine T3 w u n b8 a b _ d e ml eA eY ei dH cP hu K f (k+8) _ (by omega) (by omega) (by simp only[cat,List.length_append,List.length_cons,List.length_nil];omega) ?_;simp only[cat,List.append_assoc,List.cons_append,List.nil_append]at D |-;exact D
  ·simp only[jq,if_neg c]at D;exact ci (by simp only[len];omega) ⟨⟨hu.1,by simp only[len];omega⟩,by simp only[len,List.length_cons,List.length_nil];omega,D⟩
theorem aj0:bo 143 PU:=b2 (Γ:=Ok) 0 ((((bn.f wy).f XY).f Fq).f Nk) Tryz.func143 (by kernel_rfl) fun vs au=>by
 unfold PU;split;rotate_left;trivial;rename_i ws fu up al ah ak aj aa ab eA eY ei dH cP u;dsimp only[z.den]at ws fu up al ah ak aj aa ab eA eY ei dH cP u;refine⟨by kernel_rfl,fun ad K D=>?_⟩;unfold hw xl tm at D;simp only at D;have ud:((len aa:Nat):Int)=(aa.length:Int):=rfl;have oP:((len ab:Nat):Int)=(ab.length:Int):=rfl;have xN:((len cP:Nat):Int)=(cP.length:Int):=rfl;have lt:((len dH:Nat):Int)=(dH.length:Int):=rfl;obtain⟨s,av⟩:∃s,bN ⟨ws,fu⟩=s:=⟨_,rfl⟩
 rw[av]at D;refine⟨7+1,?_⟩;obtain⟨v1,b9⟩:∃v1,v1=bN ⟨ws,fu⟩:=⟨_,rfl⟩
 obtain⟨v3,ed⟩:∃v3,v3=J (nth ab (Int.toNat u) (z.H z.bool))
  (K (.ao [.one (bs []),.one (A 0)]) [])
  (K (.ao [.one (bs ((⟨nY v1 v1.n,u,v1.n,0,0,[],false⟩:fD)::[])),.one (A 0)]) []):=⟨_,rfl⟩
 refine cf (fun rec=>(by subst ed b9;kernel_rfl:_=(
  J (!(ar (hY ⟨⟨ws,fu⟩,up,⟨⟨al,ah,ak⟩,aj⟩,aa,ab⟩) 0))
  (K (.ao [.one (bs []),.one (A (hY ⟨⟨ws,fu⟩,up,⟨⟨al,ah,ak⟩,aj⟩,aa,ab⟩))]) [])
  (J (ar v1.n 0)
  (K (.ao [.one (bs []),.one (A 12)]) [])
  (J v1.ended
  (K (.ao [.one (bs []),.one (A 12)]) [])
  (J (aL u 0)
  (K (.ao [.one (bs []),.one (A 5)]) [])
  (J (dh (len aa:Int) u)
  (K (.ao [.one (bs []),.one (A 5)]) [])
  (J (!(ar eA v1.n))
  (K (.ao [.one (bs []),.one (A 5)]) [])
  (J (dh (len cP:Int) u)
  (K (.ao [.one (bs []),.one (A 5)]) [])
  (J (dh (len dH:Int) u)
  (K (.ao [.one (bs []),.one (A 5)]) [])
  (J v1.dv
  (((0:Int)<=u/\u<(len ab:Int)) /\
  v3)
  (J v1.abort
  (((0:Int)<=u/\u<(len ab:Int)) /\
  v3)
  (((0:Int)<=u/\u<(len aa:Int)) /\
  J (nth aa (Int.toNat u) (z.H z.bool))
  (K (.ao [.one (bs []),.one (A 0)]) [])
  (((0:Int)<=u/\u<(len cP:Int)) /\
  J (aL 40 (((len (nth cP (Int.toNat u) (z.H (z.list z.int)))):Nat):Int))
  (K (.ao [.one (bs []),.one (A 2)]) [])
  (rec yk (LK 0 (nth cP (Int.toNat u) (z.H (z.list z.int))) 0 u [] v1.n v1.version v1.dv v1.abort v1.ended [] eA eY ei dH cP)))))))))))))))) ?_
 subst ed b9;rw[av,ud,oP,xN,lt];refine bG (fun h=>?_) (fun h=>?_)
 ·rw[if_neg h,if_neg h]at D;exact D
 have aA:dG ⟨⟨ws,fu⟩,up,⟨⟨al,ah,ak⟩,aj⟩,aa,ab⟩=0:=wE h;obtain⟨_,v1,aC,v3,_⟩:=iH aA;simp only at v1 aC v3;rw[if_pos h]at D
 by_cases bp:s.n=0\/s.ended=true
 ·rw[if_pos bp,if_neg (by decide)]at D;exact cI (fun _=>D) (fun q=>gk (bp.resolve_left q) D)
 rw[if_neg bp]at D;simp only[not_or,Bool.not_eq_true]at bp;refine iV bp.1 (e7 bp.2 ?_)
 by_cases bc:u<0\/(aa.length:Int)<=u\/eA≠s.n\/(cP.length:Int)<=u\/(dH.length:Int)<=u
 ·rw[if_pos bc,if_neg (by decide)]at D;exact bq (fun _=>D) (fun cO=>b3 (fun _=>D) (fun cL=>bG (fun _=>D) (fun eH=>b3 (fun _=>D) (fun gy=>gk (fY.2 (by rw[eL]at cL gy;omega)) D))))
 rw[if_neg bc,if_pos rfl]at D;refine ci (by omega) (e7 (eL.2 (by omega)) (qI (by omega) (e7 (eL.2 (by omega)) (e7 (eL.2 (by omega)) ?_))));have dec:s.dv=true\/s.abort=true->J (nth ab (Int.toNat u) (z.H z.bool)) (K (.ao [.one (bs []),.one (A (0:Int))]) [])
   (K (.ao [.one (bs ((⟨nY s s.n,u,s.n,(0:Int),(0:Int),[],false⟩:fD)::[])),.one (A (0:Int))]) []):=fun bH=>by
  rw[if_pos bH]at D;refine b3 (fun q=>?_) (fun q=>?_)
  ·rw[if_pos (by exact q)]at D;exact D
  ·rw[if_neg (by exact Bool.eq_false_iff.1 q)]at D;exact D
 refine b3 (fun d1=>⟨⟨by omega,by omega⟩,dec (.inl d1)⟩) (fun d1=>b3 (fun d2=>⟨⟨by omega,by omega⟩,dec (.inr d2)⟩) (fun d2=>⟨⟨by omega,by omega⟩,?_⟩));rw[if_neg (by rw[d1,d2];simp)]at D;refine b3 (fun q=>?_) (fun q=>⟨⟨by omega,by omega⟩,?_⟩)
 ·rw[if_pos (by exact q)]at D;exact D
 rw[if_neg (by exact Bool.eq_false_iff.1 q)]at D;unfold xI at D;simp only at D;obtain⟨w,b8⟩:∃w,nth cP (Int.toNat u) (z.H (z.list z.int))=w:=⟨_,rfl⟩
 have Ed:nth cP (Int.toNat u) []=w:=b8;rw[b8];rw[Ed]at D;have KP:((len w:Nat):Int)=(w.length:Int):=rfl;rw[KP]
 by_cases cq:40<w.length
 ·rw[if_pos cq]at D;exact cV (by omega) D
 ·rw[if_neg cq]at D;have az:=T3 w u s.n (by omega) 0 s.version s.dv s.abort s.ended [] eA eY ei dH cP ⟨by omega,by omega⟩ K 6 0 [] (by omega) (by omega) (by simp) (by rw[List.nil_append];exact D);exact ci (by omega) az

def Qa:a7
 |[.one (.ptr 0 0),.one (.E .int k)],[.box [.E (.list .str) aJ,.E (.list .signed) vs,.E (.list .int) ws,.E .int fu,.E .bool up,.E .int al,.E (.list .int) ah,.E .int ak,.E .int aj,.E (.list .bool) aa,.E (.list .bool) ab,.own 1,.own 2,.own 3,.E .int now],.arr .aO us,.arr .aP cs,.arr .message W]=>some (some (okW ⟨aJ,vs,⟨⟨ws,fu⟩,up,⟨⟨al,ah,ak⟩,aj⟩,aa,ab⟩,us,cs,W,now⟩=true),.one (A (lJ ⟨aJ,vs,⟨⟨ws,fu⟩,up,⟨⟨al,ah,ak⟩,aj⟩,aa,ab⟩,us,cs,W,now⟩ k).2),[.box (lv (lJ ⟨aJ,vs,⟨⟨ws,fu⟩,up,⟨⟨al,ah,ak⟩,aj⟩,aa,ab⟩,us,cs,W,now⟩ k).1 (.own 4) (.own 5) (.own 6)),.dead,.dead,.dead,.arr .aO (lJ ⟨aJ,vs,⟨⟨ws,fu⟩,up,⟨⟨al,ah,ak⟩,aj⟩,aa,ab⟩,us,cs,W,now⟩ k).1.units,.arr .aP (lJ ⟨aJ,vs,⟨⟨ws,fu⟩,up,⟨⟨al,ah,ak⟩,aj⟩,aa,ab⟩,us,cs,W,now⟩ k).1.cr,.arr .message (lJ ⟨aJ,vs,⟨⟨ws,fu⟩,up,⟨⟨al,ah,ak⟩,aj⟩,aa,ab⟩,us,cs,W,now⟩ k).1.W])
 |_,_=>none

theorem akz:bo 87 Qa:=sY 4 (((bn.f Fu).f aj0).f XX) Tryz.func87 (by kernel_rfl) fun vs au=>by
 unfold Qa;split;rotate_left;trivial;rename_i k aJ vs ws fu up al ah ak aj aa ab now us cs W;refine⟨by kernel_rfl,fun ad K D=>?_⟩;refine⟨1,?_⟩;obtain⟨v0,bX⟩:∃v0,v0=kP ⟨⟨ws,fu⟩,up,⟨⟨al,ah,ak⟩,aj⟩,aa,ab⟩:=⟨_,rfl⟩
 obtain⟨v1,b9⟩:∃v1,v1=hw ⟨⟨ws,fu⟩,up,⟨⟨al,ah,ak⟩,aj⟩,aa,ab⟩ ⟨(nth cs (Int.toNat (U (v0.fst.n-1))) (z.H z.aP)).n,⟨((nth cs (Int.toNat (U (v0.fst.n-1))) (z.H z.aP)).r).version,((nth cs (Int.toNat (U (v0.fst.n-1))) (z.H z.aP)).r).cg,((nth cs (Int.toNat (U (v0.fst.n-1))) (z.H z.aP)).r).targets⟩,(nth cs (Int.toNat (U (v0.fst.n-1))) (z.H z.aP)).cQ⟩ k:=⟨_,rfl⟩
 obtain⟨v4,e5⟩:∃v4,v4=hw ⟨⟨ws,fu⟩,up,⟨⟨al,ah,ak⟩,aj⟩,aa,ab⟩ ⟨0,⟨0,0,[]⟩,[]⟩ k:=⟨_,rfl⟩
 refine k4 (fun rec=>(by subst e5 b9 bX;kernel_rfl:_=(
  J (aL (len cs:Int) v0.fst.n)
  (K (.one (A 5)) [.box (et aJ vs ws fu up al ah ak aj aa ab (.own 4) (.own 5) (.own 6) now),.dead,.dead,.dead,.arr z.aO us,.arr z.aP cs,.arr z.message W])
  (J (aL 0 v0.fst.n)
  (((0:Int)<=U (v0.fst.n-1)/\U (v0.fst.n-1)<(len cs:Int)) /\
  Int.toNat (U (v0.fst.n-1))<len cs /\
  (List.length ((nth cs (Int.toNat (U (v0.fst.n-1))) (z.H z.aP)).r).targets<=140737488355328/\List.length (nth cs (Int.toNat (U (v0.fst.n-1))) (z.H z.aP)).cQ<=140737488355328) /\
  J (!(ar v1.snd 0))
  (K (.one (A v1.snd)) [.box (et aJ vs ws fu up al ah ak aj aa ab (.own 4) (.own 5) (.own 6) now),.dead,.dead,.dead,.arr z.aO us,.arr z.aP cs,.arr z.message W])
  ((List.length W<=1000/\List.length v1.fst<=1000/\nv v1.fst=true) /\
  K (.one (A 0)) [.box (et aJ vs ws fu up al ah ak aj aa ab (.own 4) (.own 5) (.own 6) now),.dead,.dead,.dead,.arr z.aO us,.arr z.aP cs,.arr z.message (hI W v1.fst)]))
  ((List.length ([]:List Int)<=140737488355328/\List.length ([]:List Int)<=140737488355328) /\
  J (!(ar v4.snd 0))
  (K (.one (A v4.snd)) [.box (et aJ vs ws fu up al ah ak aj aa ab (.own 4) (.own 5) (.own 6) now),.dead,.dead,.dead,.arr z.aO us,.arr z.aP cs,.arr z.message W])
  ((List.length W<=1000/\List.length v4.fst<=1000/\nv v4.fst=true) /\
  K (.one (A 0)) [.box (et aJ vs ws fu up al ah ak aj aa ab (.own 4) (.own 5) (.own 6) now),.dead,.dead,.dead,.arr z.aO us,.arr z.aP cs,.arr z.message (hI W v4.fst)])))))) ?_
 subst e5 b9 bX;have aQ:=oW.1 ad;have pC:=aQ.lG;have dJ:=aQ.m6;obtain⟨gi,iR⟩:=aQ.o4;have eC:=aQ.va;simp only at iR pC dJ eC;obtain⟨v,aR⟩:∃v:ke,v=⟨aJ,vs,⟨⟨ws,fu⟩,up,⟨⟨al,ah,ak⟩,aj⟩,aa,ab⟩,us,cs,W,now⟩:=⟨_,rfl⟩
 rw[<- aR]at D;have vy:v.g=⟨⟨ws,fu⟩,up,⟨⟨al,ah,ak⟩,aj⟩,aa,ab⟩:=by rw[aR]
 have kj:v.cr=cs:=by rw[aR]
 obtain⟨nj,oS⟩:=aij ⟨⟨ws,fu⟩,up,⟨⟨al,ah,ak⟩,aj⟩,aa,ab⟩;obtain⟨n,aq⟩:∃n,(kP ⟨⟨ws,fu⟩,up,⟨⟨al,ah,ak⟩,aj⟩,aa,ab⟩).1.n=n:=⟨_,rfl⟩
 rw[aq]at nj oS |-;have sA:(kP v.g).1.n=n:=by rw[vy];exact aq
 rw[cb (n:=n-1) (by omega) (by omega)];refine bq (fun h=>?_) (fun h=>?_)
 ·have e:lJ v k=(v,5):=if_pos (by rw[kj,sA];simp only[len]at h;omega);rw[e,aR]at D;exact D
 have er:lJ v k=_:=if_neg (show ¬(v.cr.length:Int)<(kP v.g).1.n by rw[kj,sA];simp only[len]at h;omega);have fin:∀c,jh v=c->lJ v k=if (hw ⟨⟨ws,fu⟩,up,⟨⟨al,ah,ak⟩,aj⟩,aa,ab⟩ c k).2=0 then(ld v (hw ⟨⟨ws,fu⟩,up,⟨⟨al,ah,ak⟩,aj⟩,aa,ab⟩ c k).1,0)else(v,(hw ⟨⟨ws,fu⟩,up,⟨⟨al,ah,ak⟩,aj⟩,aa,ab⟩ c k).2):=fun c aA=>by rw[er,aA,vy]
 refine bq (fun I=>?_) (fun I=>?_)
 ·have aA:jh v=nth cs (n-1).toNat (z.H z.aP):=by
   unfold jh;rw[sA,if_pos I,kj];rfl
  have dO:=fin _ aA;have hi:(n-1).toNat<cs.length:=by simp only[len]at h;omega
  obtain⟨bc,cq,_⟩:=eC _ (iu hi (z.H z.aP));obtain⟨c,ab4⟩:∃c,nth cs (n-1).toNat (z.H z.aP)=c:=⟨_,rfl⟩
  rw[ab4]at dO bc cq |-;have bH:=IZ ⟨⟨ws,fu⟩,up,⟨⟨al,ah,ak⟩,aj⟩,aa,ab⟩ c k;refine⟨⟨by omega,by simp only[len];omega⟩,by simp only[len];omega,⟨by omega,by omega⟩,bG (fun G=>?_) (fun G=>⟨⟨by omega,bH.1,bH.2⟩,?_⟩)⟩
  ·have e:=dO.trans (if_neg G);rw[e,aR]at D;exact D
  ·have e:=dO.trans (if_pos G);rw[e,aR]at D;exact D
 ·have aA:jh v=qK:=by
   unfold jh;rw[sA,if_neg (by omega)]
  have dO:=fin _ aA;have bH:=IZ ⟨⟨ws,fu⟩,up,⟨⟨al,ah,ak⟩,aj⟩,aa,ab⟩ qK k;refine⟨⟨by simp,by simp⟩,bG (fun G=>?_) (fun G=>⟨⟨by omega,bH.1,bH.2⟩,?_⟩)⟩
  ·have e:=dO.trans (if_neg G);rw[e,aR]at D;exact D
  ·have e:=dO.trans (if_pos G);rw[e,aR]at D;exact D

def GP:a7
 |[.agg [.E (.list .int) ws,.E .int fu,.E .bool up,.E .int bw,.E .int bz]],[]=>some (none,.ao [.agg [A (mT ⟨⟨ws,fu⟩,up,bw,bz⟩).1.slot,A (mT ⟨⟨ws,fu⟩,up,bw,bz⟩).1.e2,A (mT ⟨⟨ws,fu⟩,up,bw,bz⟩).1.ready],.one (A (mT ⟨⟨ws,fu⟩,up,bw,bz⟩).2)],[])
 |_,_=>none

theorem ajL:bo 144 GP:=b2 0 ((bn.f Fp).f BW) Tryz.func144 (by kernel_rfl) fun vs au=>by
 unfold GP;split;rotate_left;trivial;rename_i ws fu up bw bz;refine⟨by kernel_rfl,fun K D=>?_⟩;refine⟨1,?_⟩;refine cf (fun rec=>(by kernel_rfl:_=(
  J (!(ar (e4 ⟨⟨ws,fu⟩,up,bw,bz⟩) 0))
  (K (.ao [.agg [A (0:Int),A (0:Int),A (0:Int)],.one (A (e4 ⟨⟨ws,fu⟩,up,bw,bz⟩))]) [])
  (K (.ao [.agg [A (c5 ⟨ws,fu⟩).slot,A (c5 ⟨ws,fu⟩).e2,A (c5 ⟨ws,fu⟩).ready],.one (A 0)]) [])))) ?_
 unfold mT at D;refine bG (fun h=>?_) (fun h=>?_)
 ·rw[if_neg h]at D;exact D
 ·rw[if_pos h]at D;exact D

def P9:a7
 |[.one (.ptr 0 0),.one (.E .int k)],[.box [.E (.list .str) aJ,.E (.list .signed) vs,.E (.list .int) ws,.E .int fu,.E .bool up,.E .int al,.E (.list .int) ah,.E .int ak,.E .int aj,.E (.list .bool) aa,.E (.list .bool) ab,.own 1,.own 2,.own 3,.E .int now],.arr .aO us,.arr .aP cs,.arr .message W]=>some (some (okW ⟨aJ,vs,⟨⟨ws,fu⟩,up,⟨⟨al,ah,ak⟩,aj⟩,aa,ab⟩,us,cs,W,now⟩=true/\0<=k/\k<(us.length:Int)),.one (A (jP ⟨aJ,vs,⟨⟨ws,fu⟩,up,⟨⟨al,ah,ak⟩,aj⟩,aa,ab⟩,us,cs,W,now⟩ k).2),[.box (lv (jP ⟨aJ,vs,⟨⟨ws,fu⟩,up,⟨⟨al,ah,ak⟩,aj⟩,aa,ab⟩,us,cs,W,now⟩ k).1 (.own 4) (.own 5) (.own 6)),.dead,.dead,.dead,.arr .aO (jP ⟨aJ,vs,⟨⟨ws,fu⟩,up,⟨⟨al,ah,ak⟩,aj⟩,aa,ab⟩,us,cs,W,now⟩ k).1.units,.arr .aP (jP ⟨aJ,vs,⟨⟨ws,fu⟩,up,⟨⟨al,ah,ak⟩,aj⟩,aa,ab⟩,us,cs,W,now⟩ k).1.cr,.arr .message (jP ⟨aJ,vs,⟨⟨ws,fu⟩,up,⟨⟨al,ah,ak⟩,aj⟩,aa,ab⟩,us,cs,W,now⟩ k).1.W])
 |_,_=>none
def Ox:Ctx:=[(144,GP),(138,C1)]
theorem afR:fr Tryz.prog tab Ox:=((bn.f Fu).f ajL)
theorem ahB(aJ:cD)(vs:cG)(ws:aK)(fu:Int)(up:Bool)(al:Int)(ah:aK)(ak aj:Int)(aa ab:da)(us:cZ)(cs:c3)(W:cF)(now k:Int)(rec:bV)(K:aU) v0 (bX:v0=mT ⟨⟨((nth us (Int.toNat k) (z.H z.aO)).f).words,((nth us (Int.toNat k) (z.H z.aO)).f).fuel⟩,(nth us (Int.toNat k) (z.H z.aO)).up,(nth us (Int.toNat k) (z.H z.aO)).n,(nth us (Int.toNat k) (z.H z.aO)).eG⟩) v1 (b9:v1=nv ((⟨7,k,v0.fst.ready,0,0,[],false⟩:fD)::[])) aC (cT:aC=hI W ((⟨7,k,v0.fst.ready,0,0,[],false⟩:fD)::[])) v3 (ed:v3=K (.one (A 12)) [.box (et aJ vs ws fu up al ah ak aj aa ab (.own 4) (.own 5) (.own 6) now),.dead,.dead,.dead,.arr z.aO us,.arr z.aP cs,.arr z.message W]):js Ox tab Tryz.f88 4 K rec [.code (bR Tryz.f88)] (rG [.one (.ptr 0 0),.one (A k)] [.box (et aJ vs ws fu up al ah ak aj aa ab (.own 1) (.own 2) (.own 3) now),.arr z.aO us,.arr z.aP cs,.arr z.message W])=(
 ((0:Int)<=k/\k<(len us:Int)) /\
 Int.toNat k<len us /\
 J (!(nth us (Int.toNat k) (z.H z.aO)).up)
 (K (.one (A 7)) [.box (et aJ vs ws fu up al ah ak aj aa ab (.own 4) (.own 5) (.own 6) now),.dead,.dead,.dead,.arr z.aO us,.arr z.aP cs,.arr z.message W])
 (J (aL v0.fst.ready 1)
 v3
 (J (aL 8 v0.fst.ready)
 v3
 ((List.length W<=1000/\List.length ((⟨7,k,v0.fst.ready,0,0,[],false⟩:fD)::[])<=1000/\v1=true) /\
 K (.one (A 0)) [.box (et aJ vs ws fu up al ah ak aj aa ab (.own 4) (.own 5) (.own 6) now),.dead,.dead,.dead,.arr z.aO us,.arr z.aP cs,.arr z.message aC])))):=by subst_vars;kernel_rfl

theorem aiP(ad:okW ⟨aJ,vs,⟨⟨ws,fu⟩,up,⟨⟨al,ah,ak⟩,aj⟩,aa,ab⟩,us,cs,W,now⟩=true/\0<=k/\k<(us.length:Int))(K:aU)(D:K (.one (A (jP ⟨aJ,vs,⟨⟨ws,fu⟩,up,⟨⟨al,ah,ak⟩,aj⟩,aa,ab⟩,us,cs,W,now⟩ k).2)) [.box (lv (jP ⟨aJ,vs,⟨⟨ws,fu⟩,up,⟨⟨al,ah,ak⟩,aj⟩,aa,ab⟩,us,cs,W,now⟩ k).1 (.own 4) (.own 5) (.own 6)),.dead,.dead,.dead,.arr .aO (jP ⟨aJ,vs,⟨⟨ws,fu⟩,up,⟨⟨al,ah,ak⟩,aj⟩,aa,ab⟩,us,cs,W,now⟩ k).1.units,.arr .aP (jP ⟨aJ,vs,⟨⟨ws,fu⟩,up,⟨⟨al,ah,ak⟩,aj⟩,aa,ab⟩,us,cs,W,now⟩ k).1.cr,.arr .message (jP ⟨aJ,vs,⟨⟨ws,fu⟩,up,⟨⟨al,ah,ak⟩,aj⟩,aa,ab⟩,us,cs,W,now⟩ k).1.W]):∃m,h4 Ox tab Tryz.f88 4 K m [.code (bR Tryz.f88)] (rG [.one (.ptr 0 0),.one (A k)] [.box (et aJ vs ws fu up al ah ak aj aa ab (.own 1) (.own 2) (.own 3) now),.arr .aO us,.arr .aP cs,.arr .message W]):=by
 obtain⟨e0,fj,g2⟩:=ad;refine⟨1,?_⟩;rw[qn,ahB _ _ _ _ _ _ _ _ _ _ _ _ _ _ _ _ _ _ _ rfl _ rfl _ rfl _ rfl];have aQ:=oW.1 e0;have pC:=aQ.lG;obtain⟨gi,iR⟩:=aQ.o4;simp only at iR pC;obtain⟨v,aR⟩:∃v:ke,v=⟨aJ,vs,⟨⟨ws,fu⟩,up,⟨⟨al,ah,ak⟩,aj⟩,aa,ab⟩,us,cs,W,now⟩:=⟨_,rfl⟩
 rw[<- aR]at D;have hu:jd v k=nth us k.toNat (z.H z.aO):=by rw[aR];rfl
 obtain⟨u,g1⟩:∃u,nth us k.toNat (z.H z.aO)=u:=⟨_,rfl⟩
 rw[g1]at hu |-;refine⟨⟨fj,by simp only[len];omega⟩,by simp only[len];omega,ew (fun h=>?_) (fun h=>?_)⟩
 ·have e:jP v k=(v,7):=if_neg (by rw[hu,h];simp);rw[e,aR]at D;exact D
 have er:jP v k=_:=if_pos (by rw[hu];exact h);rw[hu]at er;refine bq (fun I=>?_) (fun I=>bq (fun G=>?_) (fun G=>⟨⟨by omega,by simp,rfl⟩,?_⟩))
 ·have e:=er.trans (if_pos (.inl I));rw[e,aR]at D;exact D
 ·have e:=er.trans (if_pos (.inr G));rw[e,aR]at D;exact D
 ·have e:=er.trans (if_neg (show ¬((mT u).1.ready<1\/8<(mT u).1.ready)from fun q=>by
   have am5:(1:Int)<=(mT u).1.ready:=I;have am7:(mT u).1.ready<=8:=G;omega))
  rw[e,aR]at D;exact D
theorem aky:bo 88 P9:=hj afR Tryz.func88 (by kernel_rfl) (by
 intro vs au p v du h ad;unfold P9 at h;split at h
 ·cases h;exact⟨by kernel_rfl,rfl,.inr (.inr (.inl (aiP _ _ _ _ _ _ _ _ _ _ _ _ _ _ _ _ ad.1 _ ⟨rfl,rfl⟩)))⟩
 ·cases h)

def HE:a7
 |[.one (.ptr 0 0),.agg [.E .int ae,.E .int hu,.E .int aq,.E (.list .root) rs,.E (.list (.list .int)) rg,.E .int bE,.E .int bY,.E (.list .target) ts,.E (.list .int) a5,.E (.list (.list .int)) a8]],[.box [.E (.list .str) aJ,.E (.list .signed) vs,.E (.list .int) ws,.E .int fu,.E .bool up,.E .int al,.E (.list .int) ah,.E .int ak,.E .int aj,.E (.list .bool) aa,.E (.list .bool) ab,.own 1,.own 2,.own 3,.E .int now],.arr .aO us,.arr .aP cs,.arr .message W]=>some (some (okW ⟨aJ,vs,⟨⟨ws,fu⟩,up,⟨⟨al,ah,ak⟩,aj⟩,aa,ab⟩,us,cs,W,now⟩=true),.one (A (fp ⟨aJ,vs,⟨⟨ws,fu⟩,up,⟨⟨al,ah,ak⟩,aj⟩,aa,ab⟩,us,cs,W,now⟩ ⟨ae,hu,aq,⟨rs,rg,⟨bE,bY,ts⟩,a5,a8⟩⟩).2),[.box (lv (fp ⟨aJ,vs,⟨⟨ws,fu⟩,up,⟨⟨al,ah,ak⟩,aj⟩,aa,ab⟩,us,cs,W,now⟩ ⟨ae,hu,aq,⟨rs,rg,⟨bE,bY,ts⟩,a5,a8⟩⟩).1 (.own 4) (.own 5) (.own 6)),.dead,.dead,.dead,.arr .aO (fp ⟨aJ,vs,⟨⟨ws,fu⟩,up,⟨⟨al,ah,ak⟩,aj⟩,aa,ab⟩,us,cs,W,now⟩ ⟨ae,hu,aq,⟨rs,rg,⟨bE,bY,ts⟩,a5,a8⟩⟩).1.units,.arr .aP (fp ⟨aJ,vs,⟨⟨ws,fu⟩,up,⟨⟨al,ah,ak⟩,aj⟩,aa,ab⟩,us,cs,W,now⟩ ⟨ae,hu,aq,⟨rs,rg,⟨bE,bY,ts⟩,a5,a8⟩⟩).1.cr,.arr .message (fp ⟨aJ,vs,⟨⟨ws,fu⟩,up,⟨⟨al,ah,ak⟩,aj⟩,aa,ab⟩,us,cs,W,now⟩ ⟨ae,hu,aq,⟨rs,rg,⟨bE,bY,ts⟩,a5,a8⟩⟩).1.W])
 |_,_=>none

theorem Ya:bo 18 HE:=sY 4 ((((((bn.f aky).f akz).f aj5).f akx).f akA).f akv) Tryz.func18 (by kernel_rfl) fun vs au=>by
 unfold HE;split;rotate_left;trivial;rename_i ae hu aq rs rg bE bY ts a5 a8 aJ vs ws fu up al ah ak aj aa ab now us cs W;dsimp only[z.den]at ae hu aq rs rg bE bY ts a5 a8 aJ vs ws fu up al ah ak aj aa ab now us cs W;refine⟨by kernel_rfl,fun ad K D=>?_⟩;refine⟨1,?_⟩;obtain⟨v0,bX⟩:∃v0,v0=okW ⟨aJ,vs,⟨⟨ws,fu⟩,up,⟨⟨al,ah,ak⟩,aj⟩,aa,ab⟩,us,cs,W,now⟩:=⟨_,rfl⟩
 obtain⟨v1,b9⟩:∃v1,v1=lK ⟨aJ,vs,⟨⟨ws,fu⟩,up,⟨⟨al,ah,ak⟩,aj⟩,aa,ab⟩,us,cs,W,now⟩ ⟨rs,rg,⟨bE,bY,ts⟩,a5,a8⟩:=⟨_,rfl⟩
 obtain⟨aC,cT⟩:∃aC,aC=j0 ⟨aJ,vs,⟨⟨ws,fu⟩,up,⟨⟨al,ah,ak⟩,aj⟩,aa,ab⟩,us,cs,W,now⟩ ae aq:=⟨_,rfl⟩
 obtain⟨v3,ed⟩:∃v3,v3=j3 ⟨aJ,vs,⟨⟨ws,fu⟩,up,⟨⟨al,ah,ak⟩,aj⟩,aa,ab⟩,us,cs,W,now⟩ ae hu aq:=⟨_,rfl⟩
 obtain⟨v4,e5⟩:∃v4,v4=ki ⟨⟨ws,fu⟩,up,⟨⟨al,ah,ak⟩,aj⟩,aa,ab⟩:=⟨_,rfl⟩
 obtain⟨cn,hx⟩:∃cn,cn=lJ ⟨aJ,vs,⟨⟨ws,fu⟩,up,⟨⟨al,ah,ak⟩,aj⟩,aa,ab⟩,us,cs,W,now⟩ hu:=⟨_,rfl⟩
 obtain⟨dR,kG⟩:∃dR,dR=jP ⟨aJ,vs,⟨⟨ws,fu⟩,up,⟨⟨al,ah,ak⟩,aj⟩,aa,ab⟩,us,cs,W,now⟩ hu:=⟨_,rfl⟩
 obtain⟨cR,kH⟩:∃cR,cR=K (.one (A aC.snd)) [.box (lv aC.fst (.own 4) (.own 5) (.own 6)),.dead,.dead,.dead,.arr z.aO aC.fst.units,.arr z.aP aC.fst.cr,.arr z.message aC.fst.W]:=⟨_,rfl⟩
 obtain⟨v11,oN⟩:∃v11,v11=J (ar ae 10)
  (J (ar now 100000)
  (K (.one (A 8)) [.box (et aJ vs ws fu up al ah ak aj aa ab (.own 4) (.own 5) (.own 6) now),.dead,.dead,.dead,.arr z.aO us,.arr z.aP cs,.arr z.message W])
  (K (.one (A 0)) [.box [.E (z.list z.str) aJ,.E (z.list z.signed) vs,af ws,A fu,ax up,A al,af ah,A ak,A aj,bh aa,bh ab,.own 4,.own 5,.own 6,A (U (now+1))],.dead,.dead,.dead,.arr z.aO us,.arr z.aP cs,.arr z.message W]))
  (K (.one (A 4)) [.box (et aJ vs ws fu up al ah ak aj aa ab (.own 4) (.own 5) (.own 6) now),.dead,.dead,.dead,.arr z.aO us,.arr z.aP cs,.arr z.message W]):=⟨_,rfl⟩
 obtain⟨hb,xG⟩:∃hb,hb=K (.one (A 5)) [.box (et aJ vs ws fu up al ah ak aj aa ab (.own 4) (.own 5) (.own 6) now),.dead,.dead,.dead,.arr z.aO us,.arr z.aP cs,.arr z.message W]:=⟨_,rfl⟩
 obtain⟨v10,nf⟩:∃v10,v10=J (aL hu 0)
  hb
  (J (dh (len us:Int) hu)
  hb
  (J (ar ae 2)
  (v0=true /\
  K (.one (A cn.snd)) [.box (lv cn.fst (.own 4) (.own 5) (.own 6)),.dead,.dead,.dead,.arr z.aO cn.fst.units,.arr z.aP cn.fst.cr,.arr z.message cn.fst.W])
  ((v0=true/\(0:Int)<=hu/\hu<(((List.length us):Nat):Int)) /\
  K (.one (A dR.snd)) [.box (lv dR.fst (.own 4) (.own 5) (.own 6)),.dead,.dead,.dead,.arr z.aO dR.fst.units,.arr z.aP dR.fst.cr,.arr z.message dR.fst.W]))):=⟨_,rfl⟩
 obtain⟨v9,jY⟩:∃v9,v9=J (ar ae 8)
  (J (ar v4.snd 0)
  (K (.one (A v4.snd)) [.box [.E (z.list z.str) aJ,.E (z.list z.signed) vs,af v4.fst.f.words,A v4.fst.f.fuel,ax v4.fst.up,A v4.fst.t.r.version,af v4.fst.t.r.keys,A v4.fst.t.r.dV,A v4.fst.t.version,bh v4.fst.cH,bh v4.fst.did,.own 4,.own 5,.own 6,A now],.dead,.dead,.dead,.arr z.aO us,.arr z.aP cs,.arr z.message W])
  (K (.one (A v4.snd)) [.box (et aJ vs ws fu up al ah ak aj aa ab (.own 4) (.own 5) (.own 6) now),.dead,.dead,.dead,.arr z.aO us,.arr z.aP cs,.arr z.message W]))
  (J (ar ae 2)
  (J (ar ae 2)
  v10
  v11)
  (J (ar ae 9)
  v10
  v11)):=⟨_,rfl⟩
 obtain⟨hc,sH⟩:∃hc,hc=K (.one (A v3.snd)) [.box (lv v3.fst (.own 4) (.own 5) (.own 6)),.dead,.dead,.dead,.arr z.aO v3.fst.units,.arr z.aP v3.fst.cr,.arr z.message v3.fst.W]:=⟨_,rfl⟩
 obtain⟨dy,iL⟩:∃dy,dy=J (ar ae 6)
  (J (ar ae 6)
  (v0=true /\
  hc)
  v9)
  (J (ar ae 7)
  (v0=true /\
  hc)
  v9):=⟨_,rfl⟩
 refine k4 (fun rec=>(by subst iL sH jY nf xG oN kH kG hx e5 ed cT b9 bX;kernel_rfl:_=(
  J (ar ae 1)
  (v0=true /\
  K (.one (A v1.snd)) [.box (lv v1.fst (.own 4) (.own 5) (.own 6)),.dead,.dead,.dead,.arr z.aO v1.fst.units,.arr z.aP v1.fst.cr,.arr z.message v1.fst.W])
  (J (ar ae 3)
  (J (ar ae 3)
  (v0=true /\
  cR)
  dy)
  (J (ar ae 4)
  (J (ar ae 4)
  (v0=true /\
  cR)
  dy)
  (J (ar ae 5)
  (v0=true /\
  cR)
  dy)))))) ?_
 subst iL sH jY nf xG oN kH kG hx e5 ed cT b9 bX;obtain⟨v,aR⟩:∃v:ke,v=⟨aJ,vs,⟨⟨ws,fu⟩,up,⟨⟨al,ah,ak⟩,aj⟩,aa,ab⟩,us,cs,W,now⟩:=⟨_,rfl⟩
 obtain⟨o,aY⟩:∃o:oh,o=⟨rs,rg,⟨bE,bY,ts⟩,a5,a8⟩:=⟨_,rfl⟩
 have Eb:v.units.length=us.length:=by rw[aR]
 have acX:v.now=now:=by rw[aR]
 have vy:v.g=⟨⟨ws,fu⟩,up,⟨⟨al,ah,ak⟩,aj⟩,aa,ab⟩:=by rw[aR]
 rw[<- aR,<- aY]at D;have ia:ae=1->fp v ⟨ae,hu,aq,o⟩=lK v o:=fun h=>if_pos h
 have kQ:ae=3\/ae=4\/ae=5->fp v ⟨ae,hu,aq,o⟩=j0 v ae aq:=fun h=>(if_neg (show ¬ae=1 by omega)).trans (if_pos h)
 have Xj:ae=6\/ae=7->fp v ⟨ae,hu,aq,o⟩=j3 v ae hu aq:=fun h=>(if_neg (show ¬ae=1 by omega)).trans ((if_neg (show ¬(ae=3\/ae=4\/ae=5)by omega)).trans (if_pos h))
 have MU:¬(ae=1\/ae=3\/ae=4\/ae=5\/ae=6\/ae=7)->fp v ⟨ae,hu,aq,o⟩=if ae=8 then rr v
  else if ae=2\/ae=9 then(if hu<0\/(v.units.length:Int)<=hu then(v,5)else if ae=2 then lJ v hu else jP v hu)
  else if ae=10 then uF v else(v,4):=fun h=>(if_neg (show ¬ae=1 by omega)).trans ((if_neg (show ¬(ae=3\/ae=4\/ae=5)by omega)).trans (if_neg (show ¬(ae=6\/ae=7)by omega)))
 have two:ae=2\/ae=9->fp v ⟨ae,hu,aq,o⟩=if hu<0\/(v.units.length:Int)<=hu then(v,5)else if ae=2 then lJ v hu else jP v hu:=fun h=>(MU (by omega)).trans ((if_neg (show ¬ae=8 by omega)).trans (if_pos h))
 refine cI (fun h=>?_) (fun I=>?_)
 ·rw[ia h,aR,aY]at D;exact⟨ad,D⟩
 refine cI (fun h=>k0 h ?_) (fun Y=>cI (fun h=>k0 h ?_) (fun aS=>cI (fun h=>?_) (fun bj=>cI (fun h=>k0 h ?_) (fun bK=>cI (fun h=>?_) (fun c4=>cI (fun h=>?_) (fun dJ=>?_))))))
 ·rw[kQ (by omega),aR]at D;exact⟨ad,D⟩
 ·rw[kQ (by omega),aR]at D;exact⟨ad,D⟩
 ·rw[kQ (by omega),aR]at D;exact⟨ad,D⟩
 ·rw[Xj (by omega),aR]at D;exact⟨ad,D⟩
 ·rw[Xj (by omega),aR]at D;exact⟨ad,D⟩
 ·have e:fp v ⟨ae,hu,aq,o⟩=rr v:=(MU (by omega)).trans (if_pos h);unfold rr at e;rw[vy]at e;refine cI (fun a2=>?_) (fun a2=>?_)
  ·rw[e,if_pos a2,aR]at D;rw[a2];exact D
  ·rw[e,if_neg a2,aR]at D;exact D
 refine cI (fun h=>k0 h ?_) (fun G=>cI (fun h=>?_) (fun hd=>?_))
 ·have a6:=two (by omega)
  by_cases c:hu<0\/(us.length:Int)<=hu
  ·rw[a6,if_pos (by rw[Eb];exact c),aR]at D;exact bq (fun _=>D) (fun h=>gk (by rw[fY];simp only[len];omega) D)
  ·rw[if_neg (by rw[Eb];exact c)]at a6;refine ci (by omega) (e7 (by rw[eL];simp only[len];omega) (cI (fun G=>?_) (fun G=>?_)))
   ·rw[a6,if_pos G,aR]at D;exact⟨ad,D⟩
   ·rw[a6,if_neg G,aR]at D;exact⟨⟨ad,by omega,by omega⟩,D⟩
 ·have a6:=two (by omega)
  by_cases c:hu<0\/(us.length:Int)<=hu
  ·rw[a6,if_pos (by rw[Eb];exact c),aR]at D;exact bq (fun _=>D) (fun h=>gk (by rw[fY];simp only[len];omega) D)
  ·rw[if_neg (by rw[Eb];exact c)]at a6;refine ci (by omega) (e7 (by rw[eL];simp only[len];omega) (cI (fun G=>?_) (fun G=>?_)))
   ·rw[a6,if_pos G,aR]at D;exact⟨ad,D⟩
   ·rw[a6,if_neg G,aR]at D;exact⟨⟨ad,by omega,by omega⟩,D⟩
 have a6:=(MU (by omega)).trans ((if_neg dJ).trans (if_neg (show ¬(ae=2\/ae=9)by omega)));refine cI (fun lS=>?_) (fun lS=>?_)
 ·rw[if_pos lS]at a6;have cx:uF v=if now=100000 then(v,8)else(⟨v.b,v.s,v.g,v.units,v.cr,v.W,now+1⟩,0):=by unfold uF;rw[acX]
  refine cI (fun a2=>?_) (fun a2=>?_)
  ·rw[a6,cx,if_pos a2,aR]at D;exact D
  ·have aQ:=oW.1 ad;have abO:=aQ.t0;have abP:=aQ.t1;simp only at abO abP;rw[cb (by omega) (by omega)];rw[a6,cx,if_neg a2,aR]at D;exact D
 ·rw[if_neg lS]at a6;rw[a6,aR]at D;exact D

def HF:a7
 |[.agg [.E (.list .str) aJ,.E (.list .signed) vs,.E (.list .int) ws,.E .int fu,.E .bool up,.E .int al,.E (.list .int) ah,.E .int ak,.E .int aj,.E (.list .bool) aa,.E (.list .bool) ab,.E (.list .aO) us,.E (.list .aP) cs,.E (.list .message) W,.E .int now],.agg [.E .int ae,.E .int hu,.E .int aq,.E (.list .root) rs,.E (.list (.list .int)) rg,.E .int bE,.E .int bY,.E (.list .target) ts,.E (.list .int) a5,.E (.list (.list .int)) a8]],[]=>some (none,.ao [.agg (kA (xk ⟨aJ,vs,⟨⟨ws,fu⟩,up,⟨⟨al,ah,ak⟩,aj⟩,aa,ab⟩,us,cs,W,now⟩ ⟨ae,hu,aq,⟨rs,rg,⟨bE,bY,ts⟩,a5,a8⟩⟩).1),.one (A (xk ⟨aJ,vs,⟨⟨ws,fu⟩,up,⟨⟨al,ah,ak⟩,aj⟩,aa,ab⟩,us,cs,W,now⟩ ⟨ae,hu,aq,⟨rs,rg,⟨bE,bY,ts⟩,a5,a8⟩⟩).2)],[])
 |_,_=>none

theorem akB:bo 5 HF:=b2 0 (((bn.f Ya).f X9).f Nr) Tryz.func5 (by kernel_rfl) fun vs au=>by
 unfold HF;split;rotate_left;trivial;rename_i aJ vs ws fu up al ah ak aj aa ab us cs W now ae hu aq rs rg bE bY ts a5 a8;refine⟨by kernel_rfl,fun K D=>?_⟩;refine⟨1,?_⟩;obtain⟨v0,bX⟩:∃v0,v0=mr ⟨aJ,vs,⟨⟨ws,fu⟩,up,⟨⟨al,ah,ak⟩,aj⟩,aa,ab⟩,us,cs,W,now⟩:=⟨_,rfl⟩
 obtain⟨v1,b9⟩:∃v1,v1=okW ⟨aJ,vs,⟨⟨ws,fu⟩,up,⟨⟨al,ah,ak⟩,aj⟩,aa,ab⟩,us,cs,W,now⟩:=⟨_,rfl⟩
 obtain⟨aC,cT⟩:∃aC,aC=fp ⟨aJ,vs,⟨⟨ws,fu⟩,up,⟨⟨al,ah,ak⟩,aj⟩,aa,ab⟩,us,cs,W,now⟩ ⟨ae,hu,aq,⟨rs,rg,⟨bE,bY,ts⟩,a5,a8⟩⟩:=⟨_,rfl⟩
 refine cf (fun rec=>(by subst cT b9 bX;kernel_rfl:_=(
  J (!(ar v0 0))
  (K (.ao [.agg fk,.one (A v0)]) [])
  (v1=true /\
  v1=true /\
  J (!(ar aC.snd 0))
  (K (.ao [.agg fk,.one (A aC.snd)]) [])
  (K (.ao [.agg (kA aC.fst),.one (A 0)]) []))))) ?_
 subst cT b9 bX;unfold xk at D;refine bG (fun h=>?_) (fun h=>⟨oW.2 (Bv (xd h)),oW.2 (Bv (xd h)),bG (fun G=>?_) (fun G=>?_)⟩)
 ·rw[if_neg h]at D;exact D
 ·rw[if_pos h,if_neg G]at D;exact D
 ·rw[if_pos h,if_pos G]at D;exact D

def C3:a7
 |[.one (.E (.list .int) [x]),.one (.E .int n)],[]=>some (some (0<=n/\n<=1000000),.one (af (bZ n.toNat x)),[])
 |_,_=>none
def Cp:Ctx:=[(157,C2)]
theorem afU:fr Tryz.prog tab Cp:=(bn.f ⟨⟨_,Tryz.func157,(by kernel_rfl)⟩,Yb⟩)
def yL:List cu:=[.inLoop [8,7,4] (cy nN [1,1,1,1,1,1,0,0,0]),.inBlock 0,.code (cy nN [1,1,1,1,1,1,1])]
def EU(F:Int)(ai M:aK):bO:=⟨[(8,.one (A F)),(7,.one (.own 0)),(4,.one (.own 1))],[(0,.arr z.int ai),(1,.arr z.int M)],2⟩
theorem ahL(x n:Int)(rec:bV)(K:aU) v0 (bX:v0=pX (len (x::[]):Int)) v1 (b9:v1=sJ v0) aC (cT:aC=pX n) v3 (ed:v3=sJ aC):b5 Cp tab nN 0 K rec [.code (bR nN)] (df [.one (af (x::[])),.one (A n)] [])=(
 J (aL n 0)
 (False)
 ((v1=true/\v3=true) /\
 J (aL 0 ((v0*aC)/iQ))
 (False)
 (J (aL 9223372036854775807 ((v0*aC)%iQ))
 (False)
 (((0:Int)<=U ((v0*aC)%iQ)/\U ((v0*aC)%iQ)*((8:Nat):Int)<=140737488355328/\U ((v0*aC)%iQ)<=140737488355328) /\
 rec yL (EU (((min (len (bZ (Int.toNat (U ((v0*aC)%iQ))) (z.H z.int))) (len (x::[]))):Nat):Int) (put (bZ (Int.toNat (U ((v0*aC)%iQ))) (z.H z.int)) 0 (aW (x::[]) 0 (min (len (bZ (Int.toNat (U ((v0*aC)%iQ))) (z.H z.int))) (len (x::[]))))) []))))):=by subst_vars;kernel_rfl
theorem Wm{F:Int}{ai M:aK}{rec:bV}{K:aU}:b5 Cp tab nN 0 K rec (cU yL) (EU F ai M)=(
 J (aL F (len ai:Int))
 (((0:Int)<=F/\F<=(len ai:Int)/\(len ai:Int)<=(len ai:Int)) /\
 ((0:Int)<=(0:Int)/\(0:Int)<=F/\F<=(len ai:Int)) /\
 (Int.toNat 0+Int.toNat (F-0)<=len ai/\Int.toNat F+Int.toNat ((len ai:Int)-F)<=len ai) /\
 rec yL (EU (U (F+(((min (Int.toNat ((len ai:Int)-F)) (len (aW ai (Int.toNat 0) (Int.toNat 0+Int.toNat (F-0))))):Nat):Int))) (put ai (Int.toNat F) (aW (aW ai (Int.toNat 0) (Int.toNat 0+Int.toNat (F-0))) 0 (min (Int.toNat ((len ai:Int)-F)) (len (aW ai (Int.toNat 0) (Int.toNat 0+Int.toNat (F-0))))))) M))
 (K (.one (af ai)) [])):=by kernel_rfl

theorem FE{n:Int}(I:0<=n)(G:n<18446744073709551616):pX n=n:=by
 unfold pX;rw[IntKind.wrap_u64];omega
theorem Ef{n:Int}(I:0<=n)(G:n<18446744073709551616):sJ n=true:=by simp[sJ,I,G]
theorem EL(x:Int)(n k j:Nat):put (List.replicate k x++List.replicate (n-k) 0) k (List.replicate j x)=List.replicate (k+j) x++List.replicate (n-(k+j)) 0:=by
 unfold put;rw[List.take_left' (by simp),List.length_replicate];rw[show List.drop (k+j) (List.replicate k x++List.replicate (n-k) (0:Int))=List.replicate (n-(k+j)) 0 from by
  rw[List.drop_append,List.drop_of_length_le (by simp)];simp;omega]
 rw[List.replicate_append_replicate]
theorem Uh(x:Int)(n:Nat)(aq:n<=1000000)(K:aU)(D:K (.one (af (bZ n x))) []):∀(d k:Nat),n<=k+d->k<=n->(0<n->0<k) ->
  co Cp tab nN 0 K (d+1) yL (EU (k:Int) (List.replicate k x++List.replicate (n-k) 0) [])
 |0,k,bH,ae,ad=>by
  rw[bW (L:=yL),Wm ];have e:k=n:=by omega
  subst e;refine ci (by simp[len]) ?_;simpa[bZ]using D
 |d+1,k,bH,ae,ad=>by
  rw[bW (L:=yL),Wm ];have az:len (List.replicate k x++List.replicate (n-k) (0:Int))=n:=by simp[len];omega
  rw[az]
  by_cases c:k<n
  ·refine cV (by omega) ⟨⟨by omega,by omega,by omega⟩,⟨by omega,by omega,by omega⟩,⟨by omega,by omega⟩,?_⟩;have aN:aW (List.replicate k x++List.replicate (n-k) (0:Int)) (Int.toNat 0) (Int.toNat 0+Int.toNat ((k:Int)-0))=List.replicate k x:=by
    rw[show Int.toNat 0+Int.toNat ((k:Int)-0)=k by omega];unfold aW;rw[List.take_left' (by simp)];simp
   rw[aN];have aX:len (List.replicate k x)=k:=by simp[len]
   rw[aX];generalize aT:min (Int.toNat ((n:Int)-(k:Int))) k=j;have AU:j=min (n-k) k:=by omega
   have cS:aW (List.replicate k x) 0 j=List.replicate j x:=by
    unfold aW;rw[List.take_replicate];simp;omega
   rw[cS,cM,EL x n k j,cb (by omega) (by omega),show(k:Int)+(j:Int)=((k+j:Nat):Int)by omega];exact Uh x n aq K D d (k+j) (by have:=ad (by omega);omega) (by omega) (fun h=>by have:=ad h;omega)
  ·have e:k=n:=by omega
   subst e;refine ci (by omega) ?_;simpa[bZ]using D
theorem aiU(ad:0<=n/\n<=1000000)(K:aU)(D:K (.one (af (bZ n.toNat x))) []):ku Cp nN 0 K [.one (af [x]),.one (A n)] []:=by
 obtain⟨I,G⟩:=ad;refine⟨n.toNat+2,?_⟩;rw[eB,ahL _ _ _ _ _ rfl _ rfl _ rfl _ rfl];have aN:pX (((len (x::[])):Nat):Int)=1:=by simp only[len,List.length_cons,List.length_nil];exact FE (by omega) (by omega)
 rw[aN,FE (n:=n) I (by omega),Int.one_mul];have aX:n/iQ=0:=by unfold iQ;omega
 have cS:n%iQ=n:=by unfold iQ;omega
 rw[aX,cS,cb (by omega) (by omega)];refine ci I ⟨⟨Ef (by omega) (by omega),Ef I (by omega)⟩,ci (by omega) (ci (by omega) ⟨⟨I,by omega,by omega⟩,?_⟩)⟩;obtain⟨k,rfl⟩:=Int.eq_ofNat_of_zero_le I;rw[cM]at D |-;have lz:len (bZ k (z.H z.int))=k:=by simp[len,bZ]
 rw[lz];have:=Uh x k (by omega) K D k (min k 1) (by omega) (by omega) (by omega);have m8:put (bZ k (z.H z.int)) 0 (aW (x::[]) 0 (min k (len (x::[]))))=List.replicate (min k 1) x++List.replicate (k-min k 1) 0:=by
  have h:=EL x k 0 (min k 1);rw[Nat.zero_add]at h;rw[<- h];have:aW (x::[]) 0 (min k (len (x::[])))=List.replicate (min k 1) x:=by
   simp only[len,List.length_cons,List.length_nil,aW];cases k with
   |zero=>simp
   |succ k=>rw[show min (k+1) (0+1)=1 by omega];rfl
  rw[this];rfl
 rw[m8,show min k (len (x::[]))=min k 1 from rfl];exact this
theorem Ns:bo 99 C3:=hj afU Tryz.func99 (by kernel_rfl) (by
 intro vs au p v du h ad;unfold C3 at h;split at h
 ·cases h;exact⟨by kernel_rfl,rfl,.inl (aiU _ _ ad.1 _ ⟨rfl,rfl⟩)⟩
 ·cases h)

def HQ:a7
 |[.one (.E .int n)],[]=>some (none,.ao [.agg [af (qJ n).1.words,A (qJ n).1.fuel],.one (A (qJ n).2)],[])
 |_,_=>none

theorem Yn:bo 90 HQ:=b2 0 (bn.f Ns) Tryz.func90 (by kernel_rfl) fun vs au=>by
 unfold HQ;split;rotate_left;trivial;rename_i n;refine⟨by kernel_rfl,fun K D=>?_⟩;refine⟨1,?_⟩;obtain⟨v0,bX⟩:∃v0,v0=K (.ao [.agg [af [],A (0:Int)],.one (A 3)]) []:=⟨_,rfl⟩
 refine cf (fun rec=>(by subst bX;kernel_rfl:_=(
  J (aL n 1)
  v0
  (J (aL 6 n)
  v0
  (((0:Int)<=U (n*32)/\U (n*32)<=1000000) /\
  K (.ao [.agg [af (bZ (Int.toNat (U (n*32))) (65535:Int)),A (-1)],.one (A 0)]) []))))) ?_
 subst bX;unfold qJ at D;refine bq (fun h=>?_) (fun h=>bq (fun G=>?_) (fun G=>?_))
 ·rw[if_neg (by omega)]at D;exact D
 ·rw[if_neg (by omega)]at D;exact D
 ·rw[if_pos ⟨h,G⟩]at D;rw[cb (by omega) (by omega)];exact⟨⟨by omega,by omega⟩,D⟩
end
end Go.Proofs.YtlbppjmekiemiabGreatDoor
