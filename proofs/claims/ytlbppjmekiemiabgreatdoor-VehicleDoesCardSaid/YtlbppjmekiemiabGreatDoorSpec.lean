/- Plain answers of the functions, and plain lemmas on them. No condition. -/
import Derived.Test.YtlbppjmekiemiabGreatDoorVmd
import Derived.IntWalk
import Derived.Lib.ItoaNum
import Derived.Lib.Join
import Derived.KernelRfl
/- Plain answers: flash. No condition. -/
namespace Go.Proofs.YtlbppjmekiemiabGreatDoor
namespace bF

def gx(a b:List Int):Bool:=decide (a=b)
def eR(w:Int):Bool:=decide (0<=w)&&decide (w<=65535)
def cC(l:List Int):Bool:=l.all eR
def mA(k:Int):List Int->Int
 |[]=>-1
 |w::l=>if eR w then mA (k+1) l else k
def mz(l:List Int):Int:=mA 0 l
def kN(n:Nat):Bool:=n==32||n==64||n==96||n==128||n==160||n==192
def e9(f:cp):Int :=
 if kN f.words.length then(if decide (-1<=f.fuel)&&decide (f.fuel<=100000)&&cC f.words then 0 else 3)else 4
def kX(fu:Int):Int:=if 0<fu then fu-1 else fu
def dM(ws:List Int)(cs:List Change):List Int:=cs.foldl (fun ws c=>ws.set c.at_.toNat (pB c.word (ws.getD c.at_.toNat 0))) ws
def cc(f:cp)(cs:List Change):cp×Bool :=
 if f.fuel<0 then(⟨dM f.words cs,f.fuel⟩,true)
 else if (cs.length:Int)<=f.fuel then(⟨dM f.words cs,f.fuel-cs.length⟩,true)
 else(⟨dM f.words (cs.take f.fuel.toNat),0⟩,false)
def hn(at_:Int):Nat->List Change
 |0=>[]
 |n+1=>⟨at_,none⟩::hn (at_+1) n
def eN(dL:Int):List Change:=hn (32*dL) 32
def cE(at_:Int):List Int->List Change
 |[]=>[]
 |w::l=>⟨at_,some w⟩::cE (at_+1) l
def mO:cp:=⟨[],0⟩
def ko(b:Bool):Int:=match b with|true=>0|false=>7
def gh(r:cp×Bool):cp×Int:=(r.1,ko r.2)
def jr(f:cp)(at_:Int)(l:List Int):cp×Int :=
 if e9 f=0 then
  (if 0<=at_/\at_<=f.words.length/\(l.length:Int)<=f.words.length-at_ then
   (if cC l then gh (cc f (cE at_ l))else(mO,3))
  else(mO,5))
 else(mO,e9 f)
def kR(a b:cp):Bool:=decide (a.fuel=b.fuel)&&gx a.words b.words
def qJ(n:Int):cp×Int:=if 1<=n/\n<=6 then(⟨bZ (n*32).toNat 65535,-1⟩,0)else(mO,3)
def BI(f:cp)(at_ n:Int):List Int×Int :=
 if e9 f=0 then
  (if 0<=at_/\0<=n/\at_+n<=f.words.length then(aW f.words at_.toNat (at_+n).toNat,0)else([],5))
 else([],e9 f)
def lF(n:Nat)(cs:List Change):Bool:=cs.all fun c=>decide (0<=c.at_)&&decide (c.at_<n)
def iQ:Int:=18446744073709551616
def sJ(a:Int):Bool:=decide (0<=a)&&decide (a<18446744073709551616)
end bF
end Go.Proofs.YtlbppjmekiemiabGreatDoor

/- Plain lemmas for the conditions of runs. No condition. -/
namespace Go.Proofs.YtlbppjmekiemiabGreatDoor
namespace bF

theorem cb{n:Int}(I:-9223372036854775808<=n)(G:n<=9223372036854775807):U n=n:=by
 unfold U IntKind.wrap;simp only[IntKind.signed,IntKind.bits];simp;omega

theorem pK{a b:Int}:aL a b=true↔a<b:=by simp[aL]
theorem xO{a b:Int}:aL a b=false↔b<=a:=by simp[aL]
theorem fY{a b:Int}:dh a b=true↔a<=b:=by simp[dh]
theorem eL{a b:Int}:dh a b=false↔b<a:=by simp[dh]
theorem k1{a b:Int}:ar a b=true↔a=b:=by simp[ar]
theorem pn{a b:Int}:ar a b=false↔a≠b:=by simp[ar]
theorem Rb{a b:Bool}:h3 a b=true↔a=b:=by simp[h3]
theorem I5{a b:List UInt8}:eqs a b=true↔a=b:=by simp[eqs]
theorem I4{a b:List UInt8}:eqs a b=false↔a≠b:=by simp[eqs]
theorem not_true{b:Bool}:(!b)=true↔b=false:=by cases b<;>simp
theorem not_false{b:Bool}:(!b)=false↔b=true:=by cases b<;>simp
theorem gk{b:Bool}{p q:Prop}(h:b=true)(ad:p):J b p q:=by subst h;exact ad
theorem e7{b:Bool}{p q:Prop}(h:b=false)(aH:q):J b p q:=by subst h;exact aH
theorem b3{b:Bool}{p q:Prop}(ad:b=true->p)(aH:b=false->q):J b p q:=by cases b;exact aH rfl;exact ad rfl
theorem aeT{α:Type}(l:List α):len l=l.length:=rfl
theorem cV{a b:Int}{p q:Prop}(h:a<b)(ad:p):J (aL a b) p q:=gk (pK.2 h) ad
theorem ci{a b:Int}{p q:Prop}(h:b<=a)(aH:q):J (aL a b) p q:=e7 (xO.2 h) aH
theorem bq{a b:Int}{p q:Prop}(ad:a<b->p)(aH:b<=a->q):J (aL a b) p q:=b3 (fun h=>ad (pK.1 h)) (fun h=>aH (xO.1 h))
theorem k0{a b:Int}{p q:Prop}(h:a=b)(ad:p):J (ar a b) p q:=gk (k1.2 h) ad
theorem iV{a b:Int}{p q:Prop}(h:a≠b)(aH:q):J (ar a b) p q:=e7 (pn.2 h) aH
theorem cI{a b:Int}{p q:Prop}(ad:a=b->p)(aH:a≠b->q):J (ar a b) p q:=b3 (fun h=>ad (k1.1 h)) (fun h=>aH (pn.1 h))
theorem UM{a b:Int}{p q:Prop}(h:a≠b)(ad:p):J (!ar a b) p q:=gk (not_true.2 (pn.2 h)) ad
theorem qI{a b:Int}{p q:Prop}(h:a=b)(aH:q):J (!ar a b) p q:=e7 (not_false.2 (k1.2 h)) aH
theorem bG{a b:Int}{p q:Prop}(ad:a≠b->p)(aH:a=b->q):J (!ar a b) p q:=b3 (fun h=>ad (pn.1 (not_true.1 h))) (fun h=>aH (k1.1 (not_false.1 h)))
theorem ew{b:Bool}{p q:Prop}(ad:b=false->p)(aH:b=true->q):J (!b) p q:=b3 (fun h=>ad (not_true.1 h)) (fun h=>aH (not_false.1 h))
theorem K3{b:Bool}{p q:Prop}(h:b=false)(ad:p):J (!b) p q:=gk (not_true.2 h) ad
theorem sP{b:Bool}{p q:Prop}(h:b=true)(aH:q):J (!b) p q:=e7 (not_false.2 h) aH
theorem ee{α:Type}{l:List α}{k:Nat}(h:k<l.length)(d:α):l.drop k=nth l k d::l.drop (k+1):=by
 rw[List.drop_eq_getElem_cons h];simp[nth,List.getD_eq_getElem?_getD,h]
def eW{α:Type}(l:List α):Prop:=l.length<=140737488355328
theorem cM(n:Nat):Int.toNat (n:Int)=n:=rfl
theorem di{k:Nat}(h:k<9223372036854775807):U ((k:Int)+1)=((k+1:Nat):Int):=by rw[cb (by omega) (by omega)];omega
theorem iz{α:Type}{l:List α}{k:Nat}(h:k<l.length)(d:α):l.take (k+1)=l.take k++[nth l k d]:=by
 rw[List.take_succ_eq_append_getElem h];simp[nth,List.getD_eq_getElem?_getD,h]
theorem Cz{α:Type}{p:α->Bool}{l:List α}{k:Nat}(h:k<l.length)(d:α)(bm:(l.take k).all p=true)(bH:p (nth l k d)=true):(l.take (k+1)).all p=true:=by
 rw[iz h d,List.all_append,bm];simp[bH]
theorem all_false{α:Type}{p:α->Bool}{l:List α}{k:Nat}(h:k<l.length)(d:α)(bH:p (nth l k d)=false):l.all p=false:=by
 rw[<- List.take_append_drop k l,List.all_append,ee h d];simp[bH]
theorem IV(f:cp):cc f []=(f,true):=by
 unfold cc;cases f with
 |mk ws fu =>
  simp only[dM,List.foldl_nil,List.length_nil];split
  ·rfl
  ·rw[if_pos (by simp;omega)];simp
theorem IQ(ws:List Int)(fu:Int)(c:Change)(cs:List Change) :
  cc ⟨ws,fu⟩ (c::cs)=if fu=0 then(⟨ws,0⟩,false)else cc ⟨ws.set c.at_.toNat (pB c.word (ws.getD c.at_.toNat 0)),kX fu⟩ cs:=by
 unfold cc kX;simp only[List.length_cons]
 by_cases a2:fu=0
 ·subst a2;simp only[if_true];rw[if_neg (by omega),if_neg (by omega)];simp[dM]
 ·rw[if_neg a2]
  by_cases I:fu<0
  ·rw[if_pos I,if_neg (show ¬0<fu by omega),if_pos I];simp[dM]
  ·rw[if_neg I,if_pos (show 0<fu by omega),if_neg (show ¬fu-1<0 by omega)]
   by_cases G:((cs.length+1:Nat):Int)<=fu
   ·rw[if_pos G,if_pos (by omega)];simp only[dM,List.foldl_cons];congr 2;omega
   ·rw[if_neg G,if_neg (by omega)];have:fu.toNat=(fu-1).toNat+1:=by omega
    rw[this,List.take_succ_cons];simp[dM]
theorem m5(cs:List Change):∀ws:List Int,(dM ws cs).length=ws.length:=by
 induction cs with
 |nil=>intro ws;rfl
 |cons c cs de=>intro ws;simp only[dM,List.foldl_cons];exact(de _).trans (by simp)
theorem tl(f:cp)(cs:List Change):(cc f cs).1.words.length=f.words.length:=by
 unfold cc;split
 ·exact m5 _ _
 ·split
  ·exact m5 _ _
  ·exact m5 _ _
theorem Cc(a:Int):∀n,(hn a n).length=n:=by
 intro n
 induction n generalizing a with
 |zero=>rfl
 |succ n de=>simp[hn,de]
theorem mq:∀(l:List Int) (a:Int),(cE a l).length=l.length
 |[],_=>rfl
 |w::l,a=>by simp[cE,mq l]
end bF
end Go.Proofs.YtlbppjmekiemiabGreatDoor

/- Plain lemmas on flash. No condition. -/
namespace Go.Proofs.YtlbppjmekiemiabGreatDoor
namespace bF

theorem O6(n m:Nat)(aq:n<65536)(aB:m<65536):q4 (n:Int) (m:Int)=((n &&& m:Nat):Int):=by
 have I:n &&& m<=n:=Nat.and_le_left;have e:(BitVec.ofInt 64 (n:Int) &&& BitVec.ofInt 64 (m:Int)).toNat=n &&& m:=by
  rw[BitVec.toNat_and];have dI:(BitVec.ofInt 64 (n:Int)).toNat=n:=by rw[BitVec.ofInt_natCast,BitVec.toNat_ofNat];omega
  have eD:(BitVec.ofInt 64 (m:Int)).toNat=m:=by rw[BitVec.ofInt_natCast,BitVec.toNat_ofNat];omega
  rw[dI,eD]
 unfold q4;rw[e,cb (by omega) (by omega)]

theorem EB{w:Int}(h:eR w=true):∃n:Nat,w=n/\n<65536:=by
 simp only[eR,Bool.and_eq_true,decide_eq_true_eq]at h;exact⟨w.toNat,by omega,by omega⟩
theorem afx{n:Nat}(h:n<65536):eR (n:Int)=true:=by simp[eR];omega
theorem U2{a b:Int}(bl:eR a=true)(ay:eR b=true):eR (q4 a b)=true:=by
 obtain⟨n,rfl,aq⟩:=EB bl;obtain⟨m,rfl,aB⟩:=EB ay;rw[O6 n m aq aB];exact afx (Nat.lt_of_le_of_lt Nat.and_le_left aq)
theorem u1{a:Int}(bl:eR a=true):q4 65535 a=a:=by
 obtain⟨n,rfl,aq⟩:=EB bl;have:=O6 65535 n (by omega) aq;rw[show((65535:Nat):Int)=65535 from rfl]at this;rw[this,Nat.and_comm,show(65535:Nat)=2 ^ 16-1 from rfl,Nat.and_two_pow_sub_one_of_lt_two_pow (by omega)]

theorem nn{l:List Int}(h:cC l=true)(i:Nat)(hi:i<l.length):eR (l.getD i 0)=true:=by
 have:=List.all_eq_true.1 h (l[i]) (List.getElem_mem hi);simpa[List.getD_eq_getElem?_getD,hi]using this
theorem U3{l:List Int}(h:∀i,i<l.length->eR (l.getD i 0)=true):cC l=true:=by
 refine List.all_eq_true.2 fun w b8=>?_
 obtain⟨i,hi,rfl⟩:=List.getElem_of_mem b8;simpa[List.getD_eq_getElem?_getD,hi]using h i hi
theorem afz{l:List Int}(h:cC l=true)(k:Nat):cC (l.take k)=true:=List.all_eq_true.2 fun w b8=>List.all_eq_true.1 h w (List.mem_of_mem_take b8)
theorem afy{l:List Int}(h:cC l=true)(k:Nat):cC (l.drop k)=true:=List.all_eq_true.2 fun w b8=>List.all_eq_true.1 h w (List.mem_of_mem_drop b8)

theorem tu{a b:List Int}(az:a.length=b.length)(h:∀i,i<a.length->a.getD i 0=b.getD i 0):a=b:=by
 refine List.ext_getElem az fun i I G=>?_
 have:=h i I;simpa[List.getD_eq_getElem?_getD,I,G]using this

theorem zi(l:List Int)(j i:Nat)(x:Int):(l.set j x).getD i 0=if i=j/\j<l.length then x else l.getD i 0:=by
 simp only[List.getD_eq_getElem?_getD,List.getElem?_set]
 by_cases e:j=i
 ·subst e
  by_cases az:j<l.length
  ·simp[az]
  ·simp[az]
 ·rw[if_neg e,if_neg (fun h=>e h.1.symm)]

theorem u2(a b:List Change)(ws:List Int):dM ws (a++b)=dM (dM ws a) b:=by simp[dM,List.foldl_append]
theorem w3(c:Change)(cs:List Change)(ws:List Int):dM ws (c::cs)=dM (ws.set c.at_.toNat (pB c.word (ws.getD c.at_.toNat 0))) cs:=rfl

theorem qf:∀(l:List Int) (a:Int) (ws:List Int),0<=a->a+(l.length:Nat)<=(ws.length:Nat)->∀i:Nat,
  (dM ws (cE a l)).getD i 0=if a<=i/\(i:Int)<a+(l.length:Nat)then q4 (ws.getD i 0) (l.getD (i-a.toNat) 0)else ws.getD i 0
 |[],a,ws,a2,I,i=>by
  rw[if_neg (by simp only[List.length_nil];omega)];rfl
 |w::l,a,ws,a2,I,i=>by
  simp only[List.length_cons]at I |-;simp only[cE,w3];rw[qf l (a+1) _ (by omega) (by simp;omega) i,zi]
  by_cases bp:i=a.toNat
  ·rw[if_neg (by omega),if_pos ⟨bp,by omega⟩,if_pos (by omega)];subst bp;simp[pB]
  ·have aN:(if i=a.toNat/\a.toNat<ws.length then pB (some w) (ws.getD a.toNat 0)else ws.getD i 0)=ws.getD i 0:=if_neg (by omega);rw[aN]
   by_cases bc:a+1<=i/\(i:Int)<a+1+(l.length:Nat)
   ·rw[if_pos bc,if_pos (by omega)];congr 1;rw[show i-a.toNat=(i-(a+1).toNat)+1 by omega,List.getD_cons_succ]
   ·rw[if_neg bc,if_neg (by omega)]

theorem GF{ws l:List Int}{a:Int}(a2:0<=a)(I:a+(l.length:Nat)<=(ws.length:Nat))(b8:cC ws=true)(az:cC l=true):cC (dM ws (cE a l))=true:=by
 refine U3 fun i hi=>?_
 rw[m5]at hi;rw[qf l a ws a2 I];split
 ·rename_i h;exact U2 (nn b8 i hi) (nn az _ (by omega))
 ·exact nn b8 i hi

theorem Ps:∀(l m:List Int) (a:Int),cE a (l++m)=cE a l++cE (a+(l.length:Nat)) m
 |[],m,a=>by simp[cE]
 |w::l,m,a=>by
  simp only[List.cons_append,cE,Ps l m,List.length_cons];rw[show a+1+(l.length:Int)=a+((l.length+1:Nat):Int)by omega]

theorem jx{f:cp}(h:e9 f=0):kN f.words.length=true/\-1<=f.fuel/\f.fuel<=100000/\cC f.words=true:=by
 unfold e9 at h;split at h
 ·split at h
  ·rename_i I G;simp only[Bool.and_eq_true,decide_eq_true_eq]at G;exact⟨I,G.1.1,G.1.2,G.2⟩
  ·cases h
 ·cases h
theorem Di{f:cp}(I:kN f.words.length=true)(G:-1<=f.fuel)(Y:f.fuel<=100000)(aS:cC f.words=true):e9 f=0:=by
 unfold e9;rw[if_pos I,if_pos (by simp[G,Y,aS])]
theorem rQ{n:Nat}(h:kN n=true):32<=n/\n<=192:=by
 simp[kN]at h;omega

theorem Lk{f:cp}{a:Int}{l:List Int}(I:kN f.words.length=true)(G:-1<=f.fuel)(Y:f.fuel<=100000)(aS:cC f.words=true)(bj:0<=a)(bK:a+(l.length:Nat)<=(f.words.length:Nat))(c4:cC l=true) :
  jr f a l=gh (cc f (cE a l)):=by
 unfold jr;rw[if_pos (Di I G Y aS),if_pos (by omega),if_pos c4]
theorem Lj{f:cp}{a:Int}{l:List Int}(h:(jr f a l).2=0\/(jr f a l).2=7):kN f.words.length=true/\-1<=f.fuel/\f.fuel<=100000/\cC f.words=true/\0<=a/\a+(l.length:Nat)<=(f.words.length:Nat)/\cC l=true:=by
 unfold jr at h
 by_cases c:e9 f=0
 ·rw[if_pos c]at h;obtain⟨bL,b0,dm,e3⟩:=jx c
  by_cases bc:0<=a/\a<=(f.words.length:Int)/\(l.length:Int)<=f.words.length-a
  ·rw[if_pos bc]at h
   by_cases cq:cC l=true
   ·exact⟨bL,b0,dm,e3,bc.1,by omega,cq⟩
   ·rw[if_neg cq]at h;simp at h
  ·rw[if_neg bc]at h;simp at h
 ·rw[if_neg c]at h;simp only at h;rcases h with h|h
  ·exact absurd h c
  ·unfold e9 at h;split at h
   ·split at h<;>simp at h
   ·simp at h
theorem Dp{ws:List Int}{cs:List Change}:cc ⟨ws,-1⟩ cs=(⟨dM ws cs,-1⟩,true):=by simp[cc]
theorem IU{ws:List Int}{fu:Int}{cs:List Change}(h:(cs.length:Int)<=fu):cc ⟨ws,fu⟩ cs=(⟨dM ws cs,fu-cs.length⟩,true):=by
 unfold cc;rw[if_neg (by simp;omega),if_pos (by simpa using h)]
theorem Fj{α:Type}(l:List α)(k:Nat):aW l 0 k=l.take k:=by simp[aW]
theorem XA{α:Type}(l:List α)(k:Nat):aW l k l.length=l.drop k:=by simp[aW]
theorem Zg:∀(n:Nat) (a:Int) (ws:List Int),0<=a->a+(n:Nat)<=(ws.length:Nat)->∀i:Nat,
  (dM ws (hn a n)).getD i 0=if a<=i/\(i:Int)<a+(n:Nat)then 65535 else ws.getD i 0
 |0,a,ws,a2,I,i=>by
  rw[if_neg (by omega)];rfl
 |n+1,a,ws,a2,I,i=>by
  simp only[hn,w3];rw[Zg n (a+1) _ (by omega) (by simp;omega) i,zi]
  by_cases bp:i=a.toNat
  ·rw[if_neg (by omega),if_pos ⟨bp,by omega⟩,if_pos (by omega)];rfl
  ·have aN:(if i=a.toNat/\a.toNat<ws.length then pB none (ws.getD a.toNat 0)else ws.getD i 0)=ws.getD i 0:=if_neg (by omega);rw[aN]
   by_cases bc:a+1<=i/\(i:Int)<a+1+(n:Nat)
   ·rw[if_pos bc,if_pos (by omega)]
   ·rw[if_neg bc,if_neg (by omega)]
theorem Pt:∀(l:List Int) (a:Int) (k:Nat),(cE a l).take k=cE a (l.take k)
 |[],_,_=>by simp[cE]
 |_::_,_,0=>rfl
 |w::l,a,k+1=>by simp only[cE,List.take_succ_cons,Pt l]
theorem oa(l:List Int)(a b i:Nat)(h:a+i<b):(aW l a b).getD i 0=l.getD (a+i) 0:=by
 simp only[aW,List.getD_eq_getElem?_getD,List.getElem?_drop,List.getElem?_take];rw[if_pos h]
theorem FP(n:Nat):∀(m:Nat) (a:Int),0<=a->a+m<=n->lF n (hn a m)=true
 |0,_,_,_=>rfl
 |m+1,a,a2,I=>by
  have:=FP n m (a+1) (by omega) (by omega);unfold lF at this |-;simp only[hn,List.all_cons,this,Bool.and_true];simp[a2];omega
theorem w7(n:Nat):∀(l:List Int) (a:Int),0<=a->a+(l.length:Nat)<=n->lF n (cE a l)=true
 |[],_,_,_=>rfl
 |w::l,a,a2,I=>by
  simp only[List.length_cons]at I;have:=w7 n l (a+1) (by omega) (by omega);unfold lF at this |-;simp only[cE,List.all_cons,this,Bool.and_true];simp[a2];omega
end bF
end Go.Proofs.YtlbppjmekiemiabGreatDoor

/- Plain answers and lemmas: slots. No condition. -/
namespace Go.Proofs.YtlbppjmekiemiabGreatDoor
namespace bF

def eX(f:cp)(slot:Int):Int :=
 if e9 f=0 then(if f.words.length=192 then(if slot=0\/slot=1 then 0 else 5)else 4)else e9 f
def Ai(slot:Int):List Change:=eN (2+2*slot)++eN (3+2*slot)
def hv(f:cp)(slot:Int):cp×Int :=
 if eX f slot=0 then gh (cc f (Ai slot))else(mO,eX f slot)
def fa(f:cp)(slot at_:Int)(l:List Int):cp×Int :=
 if eX f slot=0 then(if 0<=at_/\at_<=40/\(l.length:Int)<=40-at_ then jr f (68+64*slot+at_) l else(mO,2))else(mO,eX f slot)
def lI(dr name:Int):Bool:=decide (1<=dr)&&decide (dr<=40)&&decide (1<=name)&&decide (name<=60)
def gS(dr name:Int):List Int:=[dr,name,65535-dr,65535-name]
def gn(f:cp)(slot dr name:Int):cp×Int :=
 if eX f slot=0 then(if lI dr name then jr f (64+64*slot) (gS dr name)else(mO,3))else(mO,eX f slot)
def nC(f:cp)(slot n:Int):List Int×Int :=
 if eX f slot=0 then(if 0<=n/\n<=40 then(aW f.words (68+64*slot).toNat (68+64*slot+n).toNat,0)else([],2))else([],eX f slot)
def nt(ws:List Int)(b:Nat):Bool :=
 lI (ws.getD b 0) (ws.getD (b+1) 0)&&decide (ws.getD (b+2) 0=65535-ws.getD b 0)&&decide (ws.getD (b+3) 0=65535-ws.getD (b+1) 0)
def kW(slot:Int):Nat:=(64+64*slot).toNat
def ni(ws:List Int)(slot:Int):List Int×Int :=
 if nt ws (kW slot)then(aW ws (kW slot+4) (kW slot+4+(ws.getD (kW slot) 0).toNat),ws.getD (kW slot+1) 0)else([],0)
def la(f:cp)(slot:Int):List Int×Int×Int :=
 if eX f slot=0 then((ni f.words slot).1,(ni f.words slot).2,if nt f.words (kW slot)then 0 else 4)else([],0,eX f slot)

theorem Dq{ws:List Int}{fu:Int}{cs:List Change}(h:¬(cs.length:Int)<=fu)(a2:0<=fu):cc ⟨ws,fu⟩ cs=(⟨dM ws (cs.take fu.toNat),0⟩,false):=by
 unfold cc;rw[if_neg (by simp only;omega),if_neg (by simpa using h)]
theorem xi(f:cp)(a b:List Change):cc f (a++b)=if (cc f a).2 then cc (cc f a).1 b else cc f a:=by
 obtain⟨ws,fu⟩:=f
 by_cases I:fu<0
 ·have e:∀(vs:List Int) (cs:List Change),cc ⟨vs,fu⟩ cs=(⟨dM vs cs,fu⟩,true):=fun vs cs=>by simp[cc,I]
  rw[e,e,if_pos rfl,e,u2]
 ·by_cases G:(a.length:Int)<=fu
  ·rw[IU (cs:=a) G,if_pos rfl]
   by_cases Y:(b.length:Int)<=fu-a.length
   ·rw[IU (cs:=b) Y,IU (by rw[List.length_append];omega),u2,List.length_append];rw[show fu-((a.length+b.length:Nat):Int)=fu-a.length-b.length by omega]
   ·rw[Dq (by rw[List.length_append];omega) (by omega),Dq (by omega) (by omega)];rw[show fu.toNat=a.length+(fu-a.length).toNat by omega,List.take_length_add_append,u2]
  ·rw[Dq (by rw[List.length_append];omega) (by omega),Dq (cs:=a) (by omega) (by omega),List.take_append_of_le_length (by omega)];rfl
theorem alZ(n:Nat)(aq:n<65536):hZ 65535 (n:Int)=65535-(n:Int):=by
 have I:(65535:Nat) ^^^ n=65535-n:=by
  have:BitVec.ofNat 16 65535 ^^^ BitVec.ofNat 16 n=BitVec.ofNat 16 65535-BitVec.ofNat 16 n:=by
   have:=BitVec.not_eq_neg_add (BitVec.ofNat 16 n);rw[show BitVec.ofNat 16 65535=BitVec.allOnes 16 from rfl,BitVec.allOnes_xor,BitVec.allOnes_sub_eq_not]
  have:=congrArg BitVec.toNat this;rw[BitVec.toNat_xor,BitVec.toNat_sub,BitVec.toNat_ofNat,BitVec.toNat_ofNat]at this;rw[Nat.mod_eq_of_lt (show 65535<2 ^ 16 by decide),Nat.mod_eq_of_lt (show n<2 ^ 16 by omega)]at this;omega
 have e:(BitVec.ofInt 64 65535 ^^^ BitVec.ofInt 64 (n:Int)).toNat=65535-n:=by
  rw[BitVec.toNat_xor];have eD:(BitVec.ofInt 64 (n:Int)).toNat=n:=by rw[BitVec.ofInt_natCast,BitVec.toNat_ofNat];omega
  rw[eD,show(BitVec.ofInt 64 65535).toNat=65535 from rfl,I]
 unfold hZ;rw[e,cb (by omega) (by omega)];omega
theorem FR{a:Int}(a2:0<=a)(I:a<=65535):hZ 65535 a=65535-a:=by
 obtain⟨n,rfl⟩:=Int.eq_ofNat_of_zero_le a2;exact alZ n (by omega)
theorem r9{f:cp}{slot:Int}(h:eX f slot=0):e9 f=0/\f.words.length=192/\(slot=0\/slot=1):=by
 unfold eX at h;split at h
 ·rename_i I;split at h
  ·rename_i G;split at h
   ·rename_i Y;exact⟨I,G,Y⟩
   ·cases h
  ·cases h
 ·exact absurd h ‹_›
theorem QE(f:cp):e9 f=0\/e9 f=3\/e9 f=4:=by
 unfold e9;split
 ·split
  ·exact .inl rfl
  ·exact .inr (.inl rfl)
 ·exact .inr (.inr rfl)
theorem sa(f:cp)(cs:List Change)(I:-1<=f.fuel)(G:f.fuel<=100000):-1<=(cc f cs).1.fuel/\(cc f cs).1.fuel<=100000:=by
 unfold cc;split
 ·exact⟨I,G⟩
 ·split
  ·simp only;omega
  ·simp only;omega
theorem vV{w:Int}(h:eR w=true):0<=w/\w<=65535:=by
 simpa only[eR,Bool.and_eq_true,decide_eq_true_eq]using h
theorem ajp(l:List Int)(a b c d:Nat)(h:a+d<=b):aW (aW l a b) c d=aW l (a+c) (a+d):=by
 simp only[aW,List.take_drop,List.drop_drop,List.take_take];rw[Nat.min_eq_left h]
theorem ajn{α:Type}(l:List α)(a b:Nat){n:Nat}(h:l.length<=n):(aW l a b).length<=n:=by
 simp only[aW,List.length_drop,List.length_take];omega
theorem aeA(ws:List Int)(s:Int){n:Nat}(h:ws.length<=n):(ni ws s).1.length<=n:=by
 unfold ni;split
 ·exact ajn _ _ _ h
 ·exact Nat.zero_le _
end bF
end Go.Proofs.YtlbppjmekiemiabGreatDoor

/- Plain lemmas: what changes leave alone. No condition. -/
namespace Go.Proofs.YtlbppjmekiemiabGreatDoor
namespace bF

def within(a b:Int)(cs:List Change):Bool:=cs.all fun c=>decide (a<=c.at_)&&decide (c.at_<b)
theorem Cd{a b:Int}{xs ys:List Change}(I:within a b xs=true)(G:within a b ys=true):within a b (xs++ys)=true:=by
 unfold within at *; rw[List.all_append,I,G];rfl
theorem FQ{a b:Int}{xs:List Change}(h:within a b xs=true)(k:Nat):within a b (xs.take k)=true :=
 List.all_eq_true.2 fun c aA=>List.all_eq_true.1 h c (List.mem_of_mem_take aA)
theorem Ce(a b:Int):∀(n:Nat) (p:Int),a<=p->p+(n:Nat)<=b->within a b (hn p n)=true
 |0,_,_,_=>rfl
 |n+1,p,a2,I=>by
  have:=Ce a b n (p+1) (by omega) (by omega);unfold within at this |-;simp only[hn,List.all_cons,this,Bool.and_true,Bool.and_eq_true,decide_eq_true_eq];omega
theorem s3(a b:Int):∀(l:List Int) (p:Int),a<=p->p+(l.length:Nat)<=b->within a b (cE p l)=true
 |[],_,_,_=>rfl
 |w::l,p,a2,I=>by
  simp only[List.length_cons]at I;have:=s3 a b l (p+1) (by omega) (by omega);unfold within at this |-;simp only[cE,List.all_cons,this,Bool.and_true,Bool.and_eq_true,decide_eq_true_eq];omega
theorem td{a b:Int}(a2:0<=a):∀(cs:List Change) (ws:List Int),within a b cs=true->∀i:Nat,(i:Int)<a\/b<=i->(dM ws cs).getD i 0=ws.getD i 0
 |[],_,_,_,_=>rfl
 |c::cs,ws,h,i,hi=>by
  unfold within at h;simp only[List.all_cons,Bool.and_eq_true,decide_eq_true_eq]at h;rw[w3,td a2 cs _ (by unfold within;simpa using h.2) i hi,zi,if_neg (by omega)]
theorem QZ{a b:Int}(a2:0<=a)(f:cp)(cs:List Change)(h:within a b cs=true)(i:Nat)(hi:(i:Int)<a\/b<=i):(cc f cs).1.words.getD i 0=f.words.getD i 0:=by
 unfold cc;split
 ·exact td a2 _ _ h i hi
 ·split
  ·exact td a2 _ _ h i hi
  ·exact td a2 _ _ (FQ h _) i hi
theorem ajm{xs ws:List Int}(c d:Nat)(az:xs.length=ws.length)(h:∀i,c<=i->i<d->xs.getD i 0=ws.getD i 0):aW xs c d=aW ws c d:=by
 refine tu (by simp[aW,az]) fun i hi=>?_
 have hi:c+i<d:=by simp[aW]at hi;omega
 rw[oa _ _ _ _ hi,oa _ _ _ _ hi];exact h _ (by omega) hi
theorem aar(f:cp)(s:Int):eX f s=0\/eX f s=3\/eX f s=4\/eX f s=5:=by
 have:=QE f;unfold eX;split
 ·split
  ·split
   ·exact .inl rfl
   ·exact .inr (.inr (.inr rfl))
  ·exact .inr (.inr (.inl rfl))
 ·omega
theorem IG{f:cp}{s:Int}(h:¬eX f s=0):¬(eX f s=0\/eX f s=7):=by
 have:=aar f s;omega
theorem aax{f:cp}{s:Int}(h:(hv f s).2=0\/(hv f s).2=7):eX f s=0/\hv f s=gh (cc f (Ai s)):=by
 unfold hv at h |-
 by_cases c:eX f s=0
 ·rw[if_pos c];exact⟨c,rfl⟩
 ·rw[if_neg c]at h;exact absurd h (IG c)
theorem ajh{f:cp}{s n m:Int}(h:(gn f s n m).2=0\/(gn f s n m).2=7):eX f s=0/\lI n m=true/\gn f s n m=jr f (64+64*s) (gS n m):=by
 unfold gn at h |-
 by_cases c:eX f s=0
 ·rw[if_pos c]at h |-
  by_cases bc:lI n m=true
  ·rw[if_pos bc];exact⟨c,bc,rfl⟩
  ·rw[if_neg bc]at h;simp at h
 ·rw[if_neg c]at h;exact absurd h (IG c)
theorem abe{f:cp}{s a:Int}{l:List Int}(h:(fa f s a l).2=0\/(fa f s a l).2=7):eX f s=0/\(0<=a/\a<=40/\(l.length:Int)<=40-a)/\fa f s a l=jr f (68+64*s+a) l:=by
 unfold fa at h |-
 by_cases c:eX f s=0
 ·rw[if_pos c]at h |-
  by_cases bc:0<=a/\a<=40/\(l.length:Int)<=40-a
  ·rw[if_pos bc];exact⟨c,bc,rfl⟩
  ·rw[if_neg bc]at h;simp at h
 ·rw[if_neg c]at h;exact absurd h (IG c)
theorem Vj{f:cp}{a:Int}{l:List Int}(h:(jr f a l).2=0\/(jr f a l).2=7):jr f a l=gh (cc f (cE a l)):=by
 obtain⟨I,G,Y,aS,bj,bK,c4⟩:=Lj h;exact Lk I G Y aS bj bK c4
theorem Pn(t:Nat):kW (t:Int)=64+64*t:=by unfold kW;omega
theorem Dm{ws:List Int}{fu:Int}{t:Nat}(I:ws.length=192)(G:-1<=fu)(Y:fu<=100000)(aS:cC ws=true)(bm:t<=1):eX ⟨ws,fu⟩ t=0:=by
 unfold eX;rw[if_pos (Di (by simp only;rw[I];rfl) G Y aS),if_pos I,if_pos (by omega)]
end bF
end Go.Proofs.YtlbppjmekiemiabGreatDoor

/- Plain answers: the log. No condition. -/
namespace Go.Proofs.YtlbppjmekiemiabGreatDoor
namespace bF

def gw(r:List Int):Int:=if 1<=r.length/\r.length<=4 then(if cC r then 0 else 3)else 2
def mU(r:List Int):List Int:=(42240+(r.length:Int))::r
def gZ(x:Int):Nat:=if 42241<=x/\x<=42244 then(x-42240).toNat else 0
def ht(l:List Int):Bool:=l.all fun w=>decide (w=65535)
def e6:Nat->List Int->List (List Int)×Option Nat
 |0,_=>([],some 0)
 |_+1,[]=>([],some 0)
 |m+1,x::xs =>
  if x=65535 then([],if ht xs then some 0 else none)
  else if gZ x=0 then([],none)
  else if gZ x<=xs.length then(xs.take (gZ x)::(e6 m (xs.drop (gZ x))).1,(e6 m (xs.drop (gZ x))).2.map (·+gZ x+1))
  else([],none)
def nu(ws:List Int)(s:Nat):List Int:=aW ws (32*s) (32*s+32)
def ib(ws:List Int)(s:Nat):List (List Int)×Option Nat:=e6 32 ((nu ws s).drop 1)
def oV(s:Nat):Option Nat->Int
 |some n=>32*s+1+n
 |none=>-1
def eU(ws:List Int)(s:Nat):Int:=if ws.getD (32*s) 0=65535 then 0 else ws.getD (32*s) 0
def eg(ws:List Int):Nat:=if eU ws 0<eU ws 1 then 1 else 0
def eZ(ws:List Int):Int:=eU ws (eg ws)
def Ba(ws:List Int):Bool:=decide (0<eZ ws)
def dC(f:cp):Int :=
 if e9 f=0 then(if 64<=f.words.length then(if 0<eZ f.words/\eZ f.words<=60000 then 0 else 5)else 4)else e9 f
def xr:List Change:=eN 1++eN 0++cE 0 [1]
def ql(f:cp):cp×Int :=
 if e9 f=0 then(if 64<=f.words.length then gh (cc f xr)else(mO,4))else(mO,e9 f)
def fA(ws:List Int):List (List Int):=(ib ws (eg ws)).1
def kp(f:cp):List (List Int)×Int:=if dC f=0 then(fA f.words,0)else([],dC f)
def dx(rs:List (List Int)):List Int:=rs.flatMap mU
def kC(n:Nat):List (List Int)->Int
 |[]=>0
 |k::aF=>if gw k=0 then(if n+1+k.length<=31 then kC (n+1+k.length) aF else 8)else gw k
def room(n:Nat):Option Nat->Bool
 |some a=>decide (a+n<=30)
 |none=>false
def oH(s a:Nat)(r:List Int):List Change:=cE ((32*s+1+a:Nat)+1:Int) r++cE (32*s+1+a:Nat) [42240+(r.length:Int)]
def hl(o:Nat)(rs:List (List Int))(g:Int):List Change:=eN o++cE (32*(o:Int)+1) (dx rs)++cE (32*(o:Int)) [g]
def qe(ws r:List Int)(b4:List (List Int)):Option (List Change) :=
 if room r.length (ib ws (eg ws)).2 then some (oH (eg ws) ((ib ws (eg ws)).2.getD 0) r)
 else if eZ ws=60000 then none
 else some (hl (1-eg ws) (b4++[r]) (eZ ws+1))
def kv(f:cp)(r:List Int)(b4:List (List Int)):Int :=
 if dC f=0 then(if gw r=0 then kC 0 (b4++[r])else gw r)else dC f
def fE(f:cp)(r:List Int)(b4:List (List Int)):cp×Int :=
 if kv f r b4=0 then
  (match qe f.words r b4 with
  |some cs=>gh (cc f cs)
  |none=>(mO,8))
 else(mO,kv f r b4)
def ir:List (List Change)->List Change
 |[]=>[]
 |x::xs=>x++ir xs
def hB(l:List (List Int)):Bool:=l.all fun r=>decide (r.length<=140737488355328)
def jH(a b:List (List Int)):Bool:=decide (a=b)
theorem agK{n:Int}(a2:0<=n)(I:n<=255):Bz 42240 n=42240+n:=by
 obtain⟨m,rfl⟩:=Int.eq_ofNat_of_zero_le a2;have aN:42240 ||| m=42240+m:=by
  exact(Nat.two_pow_add_eq_or_of_lt (b:=m) (i:=8) (by omega) 165).symm
 have e:(BitVec.ofInt 64 42240 ||| BitVec.ofInt 64 (m:Int)).toNat=42240+m:=by
  rw[BitVec.toNat_or];have eD:(BitVec.ofInt 64 (m:Int)).toNat=m:=by rw[BitVec.ofInt_natCast,BitVec.toNat_ofNat];omega
  rw[eD,show(BitVec.ofInt 64 42240).toNat=42240 from rfl,aN]
 unfold Bz;rw[e,cb (by omega) (by omega)];omega
theorem alY{x:Int}(h:eR x=true):0<=hZ x 42240/\hZ x 42240<=65535/\(hZ x 42240<1\/4<hZ x 42240->gZ x=0)/\(1<=hZ x 42240->hZ x 42240<=4->hZ x 42240=(gZ x:Int)/\gZ x≠0/\gZ x<=4):=by
 obtain⟨n,rfl,aq⟩:=EB h;have e:hZ (n:Int) 42240=((n ^^^ 42240:Nat):Int):=by
  have e:(BitVec.ofInt 64 (n:Int) ^^^ BitVec.ofInt 64 42240).toNat=n ^^^ 42240:=by
   rw[BitVec.toNat_xor];have eD:(BitVec.ofInt 64 (n:Int)).toNat=n:=by rw[BitVec.ofInt_natCast,BitVec.toNat_ofNat];omega
   rw[eD,show(BitVec.ofInt 64 42240).toNat=42240 from rfl]
  have az:n ^^^ 42240<2 ^ 16:=Nat.xor_lt_two_pow (by omega) (by omega);unfold hZ;rw[e,cb (by omega) (by omega)]
 have az:n ^^^ 42240<2 ^ 16:=Nat.xor_lt_two_pow (by omega) (by omega);have back:n=(n ^^^ 42240) ^^^ 42240:=by rw[Nat.xor_assoc,Nat.xor_self,Nat.xor_zero]
 rw[e];obtain⟨m,aB⟩:∃m,n ^^^ 42240=m:=⟨_,rfl⟩
 rw[aB]at back az |-;refine⟨by omega,by omega,fun h=>?_,fun I G=>?_⟩
 ·unfold gZ
  by_cases c:(42241:Int)<=n/\(n:Int)<=42244
  ·exfalso;have:n=42241\/n=42242\/n=42243\/n=42244:=by omega
   rcases this with rfl|rfl|rfl|rfl
   ·rw[show(42241:Nat) ^^^ 42240=1 from by decide]at aB;omega
   ·rw[show(42242:Nat) ^^^ 42240=2 from by decide]at aB;omega
   ·rw[show(42243:Nat) ^^^ 42240=3 from by decide]at aB;omega
   ·rw[show(42244:Nat) ^^^ 42240=4 from by decide]at aB;omega
  ·rw[if_neg c]
 ·have:m=1\/m=2\/m=3\/m=4:=by omega
  rcases this with rfl|rfl|rfl|rfl
  ·rw[show(1:Nat) ^^^ 42240=42241 from by decide]at back;subst back;decide
  ·rw[show(2:Nat) ^^^ 42240=42242 from by decide]at back;subst back;decide
  ·rw[show(3:Nat) ^^^ 42240=42243 from by decide]at back;subst back;decide
  ·rw[show(4:Nat) ^^^ 42240=42244 from by decide]at back;subst back;decide
theorem AA{ws:List Int}(h:cC ws=true)(i:Nat):0<=ws.getD i 0/\ws.getD i 0<=65535:=by
 by_cases c:i<ws.length
 ·exact vV (nn h i c)
 ·simp[List.getD_eq_getElem?_getD,List.getElem?_eq_none (Nat.le_of_not_lt c)]
theorem xt{ws:List Int}(h:cC ws=true)(s:Nat):0<=eU ws s/\eU ws s<65535:=by
 have:=AA h (32*s);unfold eU;split<;>omega
theorem ub(ws:List Int):eg ws<=1:=by unfold eg;split<;>omega
theorem ow{f:cp}(h:dC f=0):e9 f=0/\64<=f.words.length/\0<eZ f.words/\eZ f.words<=60000:=by
 unfold dC at h;split at h
 ·rename_i I;split at h
  ·rename_i G;split at h
   ·rename_i Y;exact⟨I,G,Y⟩
   ·cases h
  ·cases h
 ·exact absurd h ‹_›
theorem M3{l:List Int}(h:cC l=true)(a b:Nat):cC (aW l a b)=true:=afy (afz h b) a
theorem Xm:∀(m:Nat) (l:List Int) (a:Nat),(e6 m l).2=some a->a<=l.length
 |0,_,a,h=>by simp only[e6,Option.some.injEq]at h;omega
 |_+1,[],a,h=>by simp only[e6,Option.some.injEq]at h;omega
 |m+1,x::xs,a,h=>by
  simp only[e6]at h;split at h
  ·simp only at h;split at h
   ·cases h;omega
   ·cases h
  ·split at h
   ·cases h
   ·split at h
    ·rename_i I G Y;simp only[Option.map]at h;split at h
     ·rename_i b ay;have:=Xm m _ b ay;simp only[List.length_drop]at this;cases h;simp only[List.length_cons];omega
     ·cases h
    ·cases h
theorem Xr{ws:List Int}{s a:Nat}(az:32*s+32<=ws.length)(h:(ib ws s).2=some a):a<=31:=by
 have:=Xm _ _ _ h;rw[List.length_drop,nu,ob _ _ _ az]at this;omega
theorem zb(r:List Int):(mU r).length=r.length+1:=rfl
theorem Cy(rs:List (List Int))(r:List Int):dx (rs++[r])=dx rs++mU r:=by simp[dx]
theorem qg{r:List Int}(h:gw r=0):1<=r.length/\r.length<=4/\cC r=true:=by
 unfold gw at h;split at h
 ·rename_i I;split at h
  ·rename_i G;exact⟨I.1,I.2,G⟩
  ·cases h
 ·cases h
end bF
end Go.Proofs.YtlbppjmekiemiabGreatDoor

/- Plain laws: the log, wherever the power goes. No condition. -/
namespace Go.Proofs.YtlbppjmekiemiabGreatDoor
namespace bF

def vc(c:Change):Bool:=match c.word with|none=>true|some w=>eR w
theorem Gn:∀(cs:List Change) (ws:List Int),cC ws=true->cs.all vc=true->cC (dM ws cs)=true
 |[],_,h,_=>h
 |c::cs,ws,h,aA=>by
  simp only[List.all_cons,Bool.and_eq_true]at aA;rw[w3];refine Gn cs _ (U3 fun i hi=>?_) aA.2;rw[zi];split
  ·have bt:=AA h c.at_.toNat;unfold vc at aA;unfold pB;split
   ·rfl
   ·rename_i w b8;rw[b8]at aA;exact U2 (by simp only[eR,Bool.and_eq_true,decide_eq_true_eq];exact bt) aA.1
  ·exact nn h i (by simpa using hi)
theorem N1(a:Int):∀n,(hn a n).all vc=true:=by
 intro n
 induction n generalizing a with
 |zero=>rfl
 |succ n de=>simp[hn,de,vc]
theorem u7:∀(l:List Int) (a:Int),cC l=true->(cE a l).all vc=true
 |[],_,_=>rfl
 |w::l,a,h=>by
  unfold cC at h;simp only[List.all_cons,Bool.and_eq_true]at h;simp only[cE,List.all_cons,Bool.and_eq_true];exact⟨h.1,u7 l _ h.2⟩
theorem O5{α:Type}{p:α->Bool}{l:List α}(h:l.all p=true)(k:Nat):(l.take k).all p=true:=List.all_eq_true.2 fun x aG=>List.all_eq_true.1 h x (List.mem_of_mem_take aG)
theorem Q0(f:cp)(cs:List Change):∃k,k<=cs.length/\(cc f cs).1.words=dM f.words (cs.take k)/\((cc f cs).2=true->k=cs.length):=by
 unfold cc;split
 ·exact⟨cs.length,Nat.le_refl _,by simp,fun _=>rfl⟩
 ·split
  ·exact⟨cs.length,Nat.le_refl _,by simp,fun _=>rfl⟩
  ·rename_i I G;exact⟨f.fuel.toNat,by omega,rfl,fun h=>by simp at h⟩

/- scanning -/
theorem Xl:∀(m gJ:Nat) (l:List Int),l.length<=m->l.length<=gJ->e6 m l=e6 gJ l
 |0,0,_,_,_=>rfl
 |0,_+1,[],_,_=>rfl
 |0,_+1,_::_,h,_=>by simp at h
 |_+1,0,[],_,_=>rfl
 |_+1,0,_::_,_,h=>by simp at h
 |_+1,_+1,[],_,_=>rfl
 |m+1,gJ+1,x::xs,h,G=>by
  simp only[List.length_cons]at h G;have:=Xl m gJ (xs.drop (gZ x)) (by simp only[List.length_drop];omega) (by simp only[List.length_drop];omega);simp only[e6,this]
theorem ajf{m:Nat}{l:List Int}(h:(e6 m l).2=some 0)(aB:l.length<=m):(e6 m l).1=[]/\ht l=true:=by
 match m,l,aB with
 |0,[],_=>exact⟨rfl,rfl⟩
 |_+1,[],_=>exact⟨rfl,rfl⟩
 |m+1,x::xs,aB =>
  simp only[e6]at h |-
  by_cases c:x=65535
  ·rw[if_pos c]at h |-;refine⟨rfl,?_⟩;simp only at h;unfold ht at h |-;simp only[List.all_cons,c,decide_true,Bool.true_and];cases aG:xs.all fun w=>decide (w=65535)
   ·rw[aG]at h;simp at h
   ·rfl
  ·rw[if_neg c]at h;split at h
   ·cases h
   ·split at h
    ·simp only[Option.map]at h;split at h
     ·simp at h
     ·cases h
    ·cases h
theorem Xo:∀(m:Nat) (pre t eI:List Int),(e6 m (pre++t)).2=some pre.length->(pre++t).length<=m->(pre++eI).length<=m ->
  e6 m (pre++eI)=((e6 m (pre++t)).1++(e6 m eI).1,(e6 m eI).2.map (·+pre.length))/\ht t=true
 |m,[],t,eI,h,aB,qy=>by
  obtain⟨I,G⟩:=ajf h aB;simp only[List.nil_append]at I G |-;rw[I];refine⟨?_,G⟩;rw[List.nil_append,List.length_nil];cases aA:e6 m eI with
  |mk a b=>cases b<;>rfl
 |0,x::pre,t,eI,h,aB,_=>by simp at aB
 |m+1,x::pre,t,eI,h,aB,qy=>by
  simp only[List.cons_append,List.length_cons,List.length_append]at h aB qy;simp only[e6]at h;have aG:x≠65535:=fun c=>by
   rw[if_pos c]at h;simp only at h;split at h<;>simp at h
  rw[if_neg aG]at h;have aq:gZ x≠0:=fun c=>by rw[if_pos c]at h;simp at h
  rw[if_neg aq]at h;have az:gZ x<=(pre++t).length:=by
   by_cases c:gZ x<=(pre++t).length
   ·exact c
   ·rw[if_neg c]at h;simp at h
  rw[if_pos az]at h;simp only[Option.map]at h;split at h
  ·rename_i b ay;simp only[Option.some.injEq]at h;obtain⟨n,Si⟩:∃n,gZ x=n:=⟨_,rfl⟩
   rw[Si]at h ay az aq;have jm:n<=pre.length:=by omega
   have d1:∀u,(pre++u).drop n=pre.drop n++u:=fun u=>List.drop_append_of_le_length jm
   have t1:∀u,(pre++u).take n=pre.take n:=fun u=>List.take_append_of_le_length jm
   rw[d1]at ay;have de:=Xo m (pre.drop n) t eI (by rw[ay];simp;omega) (by simp;omega) (by simp;omega);refine⟨?_,de.2⟩;have oz:e6 (m+1) eI=e6 m eI:=Xl _ _ _ (by omega) (by omega);rw[oz];simp only[List.cons_append,e6,if_neg aG,Si,if_neg aq,d1,t1];rw[if_pos (by simp;omega),if_pos (by simp;omega),de.1];simp only[List.cons_append];congr 1;cases(e6 m eI).2 with
   |none=>rfl
   |some c=>simp only[Option.map,List.length_drop,List.length_cons,Option.some.injEq];omega
  ·cases h
theorem MX:∀(rs:List (List Int)) (m:Nat) (t:List Int),(∀k∈rs,1<=k.length/\k.length<=4)->(dx rs++t).length<=m->ht t=true ->
  e6 m (dx rs++t)=(rs,some (dx rs).length)
 |[],m,t,_,aB,bm=>by
  simp only[dx,List.flatMap_nil,List.nil_append,List.length_nil]at aB |-
  match m,t,aB with
  |0,[],_=>rfl
  |_+1,[],_=>rfl
  |m+1,x::xs,_ =>
   unfold ht at bm;simp only[List.all_cons,Bool.and_eq_true,decide_eq_true_eq]at bm;simp only[e6];rw[if_pos bm.1,if_pos (by unfold ht;exact bm.2)]
 |k::rs,m,t,aw,aB,bm=>by
  have ae:=aw k (by simp);have e:dx (k::rs)++t=(42240+(k.length:Int))::(k++(dx rs++t)):=by simp[dx,mU]
  have nF:(dx (k::rs)).length=k.length+1+(dx rs).length:=by simp[dx,mU];omega
  rw[e]at aB |-;simp only[List.length_cons,List.length_append]at aB
  match m,aB with
  |m+1,aB =>
   have dd:gZ (42240+(k.length:Int))=k.length:=by
    unfold gZ;rw[if_pos (by omega)];omega
   simp only[e6];rw[if_neg (by omega),dd,if_neg (by omega),if_pos (by simp),List.take_left,List.drop_left];rw[MX rs m t (fun k ae=>aw k (by simp[ae])) (by simp;omega) bm,nF];simp only[Option.map,Prod.mk.injEq,Option.some.injEq,true_and];omega
theorem Xp:∀(m:Nat) (l:List Int),(∀r∈(e6 m l).1,r.length<=4)/\(e6 m l).1.length<=l.length
 |0,_=>by simp[e6]
 |_+1,[]=>by simp[e6]
 |m+1,x::xs=>by
  obtain⟨I,G⟩:=Xp m (xs.drop (gZ x));have aS:gZ x<=4:=by unfold gZ;split<;>omega
  simp only[e6];split
  ·simp
  ·split
   ·simp
   ·split
    ·refine⟨fun r aw=>?_,?_⟩
     ·rcases List.mem_cons.1 aw with rfl|aw
      ·rw[List.length_take];omega
      ·exact I r aw
     ·simp only[List.length_drop]at G;simp only[List.length_cons];omega
    ·simp
theorem MM(ws:List Int):(∀r∈fA ws,r.length<=4)/\(fA ws).length<=32:=by
 unfold fA ib;obtain⟨I,G⟩:=Xp 32 ((nu ws (eg ws)).drop 1);refine⟨I,Nat.le_trans G ?_⟩;unfold nu aW;simp;omega
/- what the log looks at -/
theorem Az{xs ws:List Int}{s:Nat}(h:xs.getD (32*s) 0=ws.getD (32*s) 0):eU xs s=eU ws s:=by unfold eU;rw[h]
theorem Xq{xs ws:List Int}{s:Nat}(az:xs.length=ws.length)(h:∀i,32*s<=i->i<32*s+32->xs.getD i 0=ws.getD i 0):ib xs s=ib ws s:=by
 unfold ib nu;rw[ajm _ _ az h]
theorem Ti{xs ws:List Int}(az:xs.length=ws.length)(h:∀i,i<64->xs.getD i 0=ws.getD i 0):eg xs=eg ws/\eZ xs=eZ ws/\fA xs=fA ws:=by
 have dU:eU xs 0=eU ws 0:=Az (h 0 (by omega));have aN:eU xs 1=eU ws 1:=Az (h 32 (by omega));have es:eg xs=eg ws:=by unfold eg;rw[dU,aN]
 have av:=ub ws;refine⟨es,?_,?_⟩
 ·unfold eZ;rw[es];have:eg ws=0\/eg ws=1:=by omega
  rcases this with h|h
  ·rw[h,dU]
  ·rw[h,aN]
 ·unfold fA;rw[es,Xq az (fun i I G=>h i (by omega))]
theorem Dl{ws:List Int}{fu:Int}(I:kN ws.length=true)(G:-1<=fu)(Y:fu<=100000)(aS:cC ws=true)(bj:64<=ws.length)(bK:0<eZ ws)(c4:eZ ws<=60000):dC ⟨ws,fu⟩=0:=by
 unfold dC;rw[if_pos (Di I G Y aS),if_pos bj,if_pos ⟨bK,c4⟩]
theorem aam(f:cp):dC f=0\/dC f=3\/dC f=4\/dC f=5:=by
 have:=QE f;unfold dC;split
 ·split
  ·split
   ·exact .inl rfl
   ·exact .inr (.inr (.inr rfl))
  ·exact .inr (.inr (.inl rfl))
 ·omega
theorem RH:∀(rs:List (List Int)) (n:Nat),n<=31->kC n rs=0->n+(dx rs).length<=31/\∀k∈rs,gw k=0
 |[],n,aq,_=>by simp[dx];omega
 |k::rs,n,aq,h=>by
  simp only[kC]at h
  by_cases c:gw k=0
  ·rw[if_pos c]at h
   by_cases bc:n+1+k.length<=31
   ·rw[if_pos bc]at h;obtain⟨I,G⟩:=RH rs _ bc h;have nF:(dx (k::rs)).length=k.length+1+(dx rs).length:=by simp[dx,mU];omega
    refine⟨by omega,fun r aw=>?_⟩;rcases List.mem_cons.1 aw with rfl|aw
    ·exact c
    ·exact G r aw
   ·rw[if_neg bc]at h;cases h
  ·rw[if_neg c]at h;exact absurd h c
theorem O4{rs:List (List Int)}(h:∀k∈rs,gw k=0):cC (dx rs)=true:=by
 unfold cC dx;rw[List.all_flatMap];refine List.all_eq_true.2 fun k ae=>?_
 obtain⟨I,G,Y⟩:=qg (h k ae);unfold mU;rw[List.all_cons];unfold cC at Y;rw[Y];simp only[eR,Bool.and_true,Bool.and_eq_true,decide_eq_true_eq];omega
end bF
end Go.Proofs.YtlbppjmekiemiabGreatDoor

/- Plain laws: what appending leaves, wherever the power goes. No condition. -/
namespace Go.Proofs.YtlbppjmekiemiabGreatDoor
namespace bF

def fU(ws:List Int)(s:Nat):List Int:=(nu ws s).drop 1
theorem uD{ws:List Int}{s:Nat}(h:32*s+32<=ws.length):(fU ws s).length=31:=by
 unfold fU nu;rw[List.length_drop,ob _ _ _ h]
theorem rh(l:List Int)(a i:Nat):(l.drop a).getD i 0=l.getD (a+i) 0:=by simp[List.getD_eq_getElem?_getD,List.getElem?_drop]
theorem zp(ws:List Int)(s i:Nat)(hi:i<31):(fU ws s).getD i 0=ws.getD (32*s+1+i) 0:=by
 unfold fU nu;rw[rh,oa _ _ _ _ (by omega)];congr 1;omega
theorem aav{l:List Int}(h:ht l=true)(i:Nat)(hi:i<l.length):l.getD i 0=65535:=by
 have:=List.all_eq_true.1 h (l[i]) (List.getElem_mem hi);simpa[List.getD_eq_getElem?_getD,hi]using this
theorem QP{l:List Int}(h:∀i,i<l.length->l.getD i 0=65535):ht l=true:=by
 refine List.all_eq_true.2 fun w b8=>?_
 obtain⟨i,hi,rfl⟩:=List.getElem_of_mem b8;simpa[List.getD_eq_getElem?_getD,hi]using h i hi
theorem DM(a b:List Int)(i:Nat):(a++b).getD i 0=if i<a.length then a.getD i 0 else b.getD (i-a.length) 0:=by
 simp only[List.getD_eq_getElem?_getD,List.getElem?_append];split<;>rfl
theorem alz{ws:List Int}{s:Nat}(_:32*s+32<=ws.length):ib ws s=e6 32 (fU ws s):=rfl
theorem aeX{g ws:List Int}(a2:eU g 0=eU ws 0)(I:eU g 1=eU ws 1):eg g=eg ws/\eZ g=eZ ws:=by
 have es:eg g=eg ws:=by unfold eg;rw[a2,I]
 have av:=ub ws;refine⟨es,?_⟩;unfold eZ;rw[es];have:eg ws=0\/eg ws=1:=by omega
 rcases this with h|h
 ·rw[h,a2]
 ·rw[h,I]
theorem R7{ws r:List Int}{a:Nat}(az:64<=ws.length)(AZ:1<=r.length)(D8:r.length<=4)(ada:cC r=true)(iq:(ib ws (eg ws)).2=some a)(bl:a+r.length<=30)(k:Nat)(ae:k<=r.length+1) :
  within 1 64 (oH (eg ws) a r)=true/\eZ (dM ws ((oH (eg ws) a r).take k))=eZ ws /\
  (k<=r.length->fA (dM ws ((oH (eg ws) a r).take k))=fA ws)/\(k=r.length+1->fA (dM ws ((oH (eg ws) a r).take k))=fA ws++[r]):=by
 have av:=ub ws;unfold fA;obtain⟨s,oL⟩:∃s,eg ws=s:=⟨_,rfl⟩
 rw[oL]at iq av |-;have xD:32*s+32<=ws.length:=by omega
 obtain⟨p,ad⟩:∃p,32*s+1+a=p:=⟨_,rfl⟩
 have mE:oH s a r=cE ((p:Int)+1) r++cE (p:Int) [42240+(r.length:Int)]:=by unfold oH;rw[ad]
 have b8:within (p:Nat) ((32*s+32:Nat):Int) (oH s a r)=true:=by
  rw[mE];exact Cd (s3 _ _ _ _ (by omega) (by omega)) (s3 _ _ _ _ (by omega) (by simp only[List.length_cons,List.length_nil];omega))
 obtain⟨g,bt⟩:∃g,dM ws ((oH s a r).take k)=g:=⟨_,rfl⟩
 have RI:g.length=ws.length:=bt▸m5 _ _;have xw:∀i,i<p\/32*s+32<=i->g.getD i 0=ws.getD i 0:=fun i hi=>by
  rw[<- bt];exact td (by omega) _ _ (FQ b8 k) i (by omega)
 have fe:eU g 0=eU ws 0:=Az (xw _ (by omega));have a1:eU g 1=eU ws 1:=Az (xw _ (by omega));obtain⟨aN,aX⟩:=aeX fe a1;rw[bt,aN,oL];refine⟨?_,aX,?_⟩
 ·unfold within at b8 |-;refine List.all_eq_true.2 fun c aA=>?_
  have:=List.all_eq_true.1 b8 c aA;simp only[Bool.and_eq_true,decide_eq_true_eq]at this |-;omega
 have YW:=uD xD;have YX:=uD (ws:=g) (s:=s) (by omega);have uE:∀i,i<31->(fU g s).getD i 0=g.getD (32*s+1+i) 0:=zp g s;have pl:((fU ws s).take a).length=a:=by rw[List.length_take];omega
 have lg:=Xo 32 ((fU ws s).take a) ((fU ws s).drop a) ((fU g s).drop a) (by rw[List.take_append_drop,pl];exact iq) (by simp;omega) (by simp;omega);have aaW:(fU g s).take a=(fU ws s).take a:=by
  refine tu (by simp;omega) fun i hi=>?_
  have hi:i<a:=by simp at hi;omega
  have e:∀l:List Int,(l.take a).getD i 0=l.getD i 0:=fun l=>by simp only[List.getD_eq_getElem?_getD];rw[List.getElem?_take_of_lt hi]
  rw[e,e,uE i (by omega),zp ws s i (by omega),xw _ (by omega)]
 have ad2:ib g s=e6 32 ((fU ws s).take a++(fU g s).drop a):=by
  rw[<- aaW,List.take_append_drop];rfl
 have ad3:(ib ws s).1=(e6 32 ((fU ws s).take a++(fU ws s).drop a)).1:=by rw[List.take_append_drop];rfl
 have clean:=lg.2;have FO:∀i,p<=i->i<32*s+32->ws.getD i 0=65535:=fun i I G=>by
  have:=aav clean (i-p) (by simp;omega);rw[rh,zp _ _ _ (by omega)]at this;rw[show 32*s+1+(a+(i-p))=i by omega]at this;exact this
 rw[ad2,lg.1,<- ad3];refine⟨fun xC=>?_,fun xC=>?_⟩
 ·have vg:g=dM ws (cE ((p:Int)+1) (r.take k)):=by
   rw[<- bt,mE,List.take_append_of_le_length (by rw[mq];exact xC),Pt]
  have aG:((fU g s).drop a)=65535::(fU g s).drop (a+1):=by
   rw[ee (by omega) 0];congr 1;show(fU g s).getD a 0=_;rw[uE a (by omega),vg,td (a:=(p:Int)+1) (b:=200) (by omega) _ _ (s3 _ _ _ _ (by omega) (by rw[List.length_take];omega)) _ (by omega)];exact FO _ (by omega) (by omega)
  rw[aG];simp[e6]
 ·have vg:g=dM (dM ws (cE ((p:Int)+1) r)) (cE (p:Int) [42240+(r.length:Int)]):=by
   rw[<- bt,mE,List.take_of_length_le (by rw[List.length_append,mq,mq];simp;omega),u2]
  have jf:=qf r ((p:Int)+1) ws (by omega) (by omega);have kf:=qf [42240+(r.length:Int)] (p:Int) (dM ws (cE ((p:Int)+1) r)) (by omega) (by rw[m5];simp only[List.length_cons,List.length_nil];omega);simp only[List.length_cons,List.length_nil]at kf;have xz:∀i,p<=i->i<32*s+32->g.getD i 0=if i=p then 42240+(r.length:Int)else if i<p+1+r.length then r.getD (i-(p+1)) 0 else 65535:=fun i I G=>by
   rw[vg,kf]
   by_cases c:i=p
   ·rw[if_pos (by omega),if_pos c,jf,if_neg (by omega),FO i I G];rw[show i-Int.toNat (p:Int)=0 by omega,List.getD_cons_zero,u1 (by simp only[eR,Bool.and_eq_true,decide_eq_true_eq];omega)]
   ·rw[if_neg (by omega),if_neg c,jf]
    by_cases bc:i<p+1+r.length
    ·rw[if_pos (by omega),if_pos bc,FO i I G,show((p:Int)+1).toNat=p+1 by omega,u1 (nn ada _ (by omega))]
    ·rw[if_neg (by omega),if_neg bc,FO i I G]
  have aG:(fU g s).drop a=dx [r]++(fU g s).drop (a+1+r.length):=by
   have KA:(dx [r]).length=r.length+1:=by simp[dx,mU]
   refine tu (by simp[KA];omega) fun i hi=>?_
   have hi:a+i<31:=by simp at hi;omega
   rw[rh,uE _ hi,DM,KA];have e:dx [r]=(42240+(r.length:Int))::r:=by simp[dx,mU]
   by_cases c:i<r.length+1
   ·rw[if_pos c,xz _ (by omega) (by omega),e]
    by_cases bc:i=0
    ·subst bc;rw[if_pos (by omega)];rfl
    ·rw[if_neg (by omega),if_pos (by omega)];obtain⟨j,rfl⟩:∃j,i=j+1:=⟨i-1,by omega⟩
     rw[List.getD_cons_succ];congr 1;omega
   ·rw[if_neg c,rh,uE _ (by omega)];congr 1;omega
  rw[aG,MX [r] 32 _ (by simp;omega) (by rw[<- aG];simp;omega) (QP fun i hi=>by
   have hi:a+1+r.length+i<31:=by simp at hi;omega
   rw[rh,uE _ hi,xz _ (by omega) (by omega),if_neg (by omega),if_neg (by omega)])]
set_option maxHeartbeats 2000000 in
theorem alD{ws:List Int}{rs:List (List Int)}(az:64<=ws.length)(fW:cC ws=true)(R8:0<eZ ws)(xy:eZ ws<60000)(pI:∀k∈rs,gw k=0)(lT:(dx rs).length<=31)(k:Nat)(ae:k<=33+(dx rs).length) :
  within 0 64 (hl (1-eg ws) rs (eZ ws+1))=true/\0<eZ (dM ws ((hl (1-eg ws) rs (eZ ws+1)).take k))/\eZ (dM ws ((hl (1-eg ws) rs (eZ ws+1)).take k))<=eZ ws+1 /\
  (k<33+(dx rs).length->fA (dM ws ((hl (1-eg ws) rs (eZ ws+1)).take k))=fA ws) /\
  (k=33+(dx rs).length->fA (dM ws ((hl (1-eg ws) rs (eZ ws+1)).take k))=rs):=by
 have av:=ub ws;have JS:=xt fW (eg ws);have AR:=xt fW (1-eg ws);have J0:eZ ws=eU ws (eg ws):=rfl;have qx:eg ws=if eU ws 0<eU ws 1 then 1 else 0:=rfl
 unfold fA;obtain⟨s,oL⟩:∃s,eg ws=s:=⟨_,rfl⟩
 rw[oL]at av JS AR J0 qx |-;obtain⟨eV,xA⟩:∃eV,eZ ws=eV:=⟨_,rfl⟩
 rw[xA]at R8 xy J0 |-;obtain⟨o,aY⟩:∃o,1-s=o:=⟨_,rfl⟩
 rw[aY]at AR |-;have anl:o<=1/\o+s=1:=by omega
 have xD:32*o+32<=ws.length:=by omega
 have mE:hl o rs (eV+1)=(⟨32*(o:Int),none⟩::(hn (32*(o:Int)+1) 31++cE (32*(o:Int)+1) (dx rs)))++cE (32*(o:Int)) [eV+1]:=rfl;have acR:within (32*(o:Int)+1) (32*(o:Int)+32) (hn (32*(o:Int)+1) 31++cE (32*(o:Int)+1) (dx rs))=true :=
  Cd (Ce _ _ _ _ (by omega) (by omega)) (s3 _ _ _ _ (by omega) (by omega))
 have b8:within (32*o:Nat) ((32*o+32:Nat):Int) (hl o rs (eV+1))=true:=by
  unfold hl eN;exact Cd (Cd (Ce _ _ _ _ (by omega) (by omega)) (s3 _ _ _ _ (by omega) (by omega))) (s3 _ _ _ _ (by omega) (by simp only[List.length_cons,List.length_nil];omega))
 have Th:(hn (32*(o:Int)+1) 31++cE (32*(o:Int)+1) (dx rs)).length=31+(dx rs).length:=by rw[List.length_append,Cc,mq]
 obtain⟨mid,vA⟩:∃mid,hn (32*(o:Int)+1) 31++cE (32*(o:Int)+1) (dx rs)=mid:=⟨_,rfl⟩
 obtain⟨g,bt⟩:∃g,dM ws ((hl o rs (eV+1)).take k)=g:=⟨_,rfl⟩
 have RI:g.length=ws.length:=bt▸m5 _ _;have xw:∀i,i<32*o\/32*o+32<=i->g.getD i 0=ws.getD i 0:=fun i hi=>by
  rw[<- bt];exact td (by omega) _ _ (FQ b8 k) i (by omega)
 have gs:eU g s=eU ws s:=Az (xw _ (by omega));have YI:s=0/\o=1\/s=1/\o=0:=by omega
 rw[bt];have Ze:within 0 64 (hl o rs (eV+1))=true:=by
  unfold within at b8 |-;refine List.all_eq_true.2 fun c aA=>?_
  have:=List.all_eq_true.1 b8 c aA;simp only[Bool.and_eq_true,decide_eq_true_eq]at this |-;omega
 have part:k<33+(dx rs).length->eU g o<=eU ws o/\(eU g o=eU ws o\/eU g o=0):=fun jW=>by
  match k,jW with
  |0,_ =>
   have:g=ws:=by rw[<- bt];rfl
   rw[this];exact⟨Int.le_refl _,.inl rfl⟩
  |k+1,jW =>
   have vg:g=dM (ws.set (32*o) 65535) (mid.take k):=by
    rw[<- bt,mE,vA,List.take_append_of_le_length (by rw[List.length_cons,<- vA,Th];omega),List.take_succ_cons,w3];rfl
   have dU:g.getD (32*o) 0=65535:=by
    rw[vg,td (a:=32*(o:Int)+1) (b:=32*(o:Int)+32) (by omega) _ _ (FQ (vA▸acR) k) _ (by omega),zi,if_pos ⟨rfl,by omega⟩]
   have:eU g o=0:=by unfold eU;rw[if_pos dU]
   rw[this];exact⟨AR.1,.inr rfl⟩
 have whole:k=33+(dx rs).length->eg g=o/\eZ g=eV+1/\(ib g o).1=rs:=fun jW=>by
  have vg:g=dM (dM (dM ws (hn (32*(o:Int)) 32)) (cE (32*(o:Int)+1) (dx rs))) (cE (32*(o:Int)) [eV+1]):=by
   rw[<- bt,List.take_of_length_le (by rw[mE,vA,List.length_append,List.length_cons,<- vA,Th,mq];simp;omega)];unfold hl eN;rw[u2,u2]
  have dY:(dM ws (hn (32*(o:Int)) 32)).length=ws.length:=m5 _ _;have gI:(dM (dM ws (hn (32*(o:Int)) 32)) (cE (32*(o:Int)+1) (dx rs))).length=ws.length:=(m5 _ _).trans dY;have jf:=Zg 32 (32*(o:Int)) ws (by omega) (by omega);have kf:=qf (dx rs) (32*(o:Int)+1) (dM ws (hn (32*(o:Int)) 32)) (by omega) (by omega);have ot:=qf [eV+1] (32*(o:Int)) (dM (dM ws (hn (32*(o:Int)) 32)) (cE (32*(o:Int)+1) (dx rs))) (by omega) (by simp only[List.length_cons,List.length_nil];omega);simp only[List.length_cons,List.length_nil]at ot;have ZI:=O4 pI;have xz:∀i,32*o<=i->i<32*o+32->g.getD i 0=if i=32*o then eV+1 else if i<32*o+1+(dx rs).length then(dx rs).getD (i-(32*o+1)) 0 else 65535:=fun i I G=>by
   rw[vg,ot]
   by_cases c:i=32*o
   ·rw[if_pos (by omega),if_pos c,kf,if_neg (by omega),jf,if_pos (by omega)];rw[show i-Int.toNat (32*(o:Int))=0 by omega,List.getD_cons_zero,u1 (by simp only[eR,Bool.and_eq_true,decide_eq_true_eq];omega)]
   ·rw[if_neg (by omega),if_neg c,kf]
    by_cases bc:i<32*o+1+(dx rs).length
    ·rw[if_pos (by omega),if_pos bc,jf,if_pos (by omega),show(32*(o:Int)+1).toNat=32*o+1 by omega,u1 (nn ZI _ (by omega))]
    ·rw[if_neg (by omega),if_neg bc,jf,if_pos (by omega)]
  have dU:eU g o=eV+1:=by
   unfold eU;rw[xz _ (by omega) (by omega),if_pos rfl,if_neg (by omega)]
  have es:eg g=o:=by
   unfold eg;rcases YI with⟨rfl,rfl⟩|⟨rfl,rfl⟩
   ·rw[if_pos (by omega)]
   ·rw[if_neg (by omega)]
  refine⟨es,by unfold eZ;rw[es,dU],?_⟩;have YX:=uD (ws:=g) (s:=o) (by omega);have uE:∀i,i<31->(fU g o).getD i 0=g.getD (32*o+1+i) 0:=zp g o;have aG:fU g o=dx rs++(fU g o).drop (dx rs).length:=by
   refine tu (by simp;omega) fun i hi=>?_
   rw[YX]at hi;rw[DM]
   by_cases c:i<(dx rs).length
   ·rw[if_pos c,uE _ hi,xz _ (by omega) (by omega),if_neg (by omega),if_pos (by omega),show 32*o+1+i-(32*o+1)=i by omega]
   ·rw[if_neg c,rh,show(dx rs).length+(i-(dx rs).length)=i by omega]
  show(e6 32 (fU g o)).1=rs;rw[aG,MX rs 32 _ (fun k ae=>⟨(qg (pI k ae)).1,(qg (pI k ae)).2.1⟩) (by rw[<- aG];omega) (QP fun i hi=>by
   have hi:(dx rs).length+i<31:=by simp at hi;omega
   rw[rh,uE _ hi,xz _ (by omega) (by omega),if_neg (by omega),if_neg (by omega)])]
 by_cases jW:k=33+(dx rs).length
 ·obtain⟨cO,cL,eH⟩:=whole jW;rw[cL,cO];exact⟨Ze,by omega,by omega,fun h=>absurd jW (by omega),fun _=>eH⟩
 ·obtain⟨cO,cL⟩:=part (by omega);have es:eg g=s/\eZ g=eV:=by
   have e:eg g=s:=by
    unfold eg;rcases YI with⟨rfl,rfl⟩|⟨rfl,rfl⟩
    ·rw[if_neg]
     by_cases c:eU ws 0<eU ws 1
     ·rw[if_pos c]at qx;omega
     ·omega
    ·rw[if_pos]
     by_cases c:eU ws 0<eU ws 1
     ·omega
     ·rw[if_neg c]at qx;omega
   refine⟨e,by unfold eZ;rw[e,gs];exact J0.symm⟩
  rw[es.1,es.2];refine⟨Ze,by omega,by omega,fun _=>?_,fun h=>absurd h jW⟩;rw[Xq RI (fun i I G=>xw i (by omega))]
end bF
end Go.Proofs.YtlbppjmekiemiabGreatDoor

/- Plain laws: appending, joined. No condition. -/
namespace Go.Proofs.YtlbppjmekiemiabGreatDoor
namespace bF

theorem O7{f:cp}{r:List Int}{b4:List (List Int)}(h:kv f r b4=0):dC f=0/\gw r=0/\kC 0 (b4++[r])=0:=by
 unfold kv at h;split at h
 ·rename_i I;split at h
  ·rename_i G;exact⟨I,G,h⟩
  ·exact absurd h ‹_›
 ·exact absurd h ‹_›
theorem RG:∀(rs:List (List Int)) (n:Nat),kC n rs=0\/kC n rs=2\/kC n rs=3\/kC n rs=8
 |[],_=>.inl rfl
 |k::rs,n=>by
  simp only[kC];split
  ·split
   ·exact RG rs _
   ·exact .inr (.inr (.inr rfl))
  ·unfold gw;split
   ·split
    ·exact .inl rfl
    ·exact .inr (.inr (.inl rfl))
   ·exact .inr (.inl rfl)
theorem ZJ(f:cp)(r:List Int)(b4:List (List Int))(h:dC f=0):kv f r b4=0\/kv f r b4=2\/kv f r b4=3\/kv f r b4=8:=by
 unfold kv;rw[if_pos h]
 by_cases c:gw r=0
 ·rw[if_pos c];exact RG _ _
 ·rw[if_neg c];unfold gw at c |-;split
  ·split
   ·exact .inl rfl
   ·exact .inr (.inr (.inl rfl))
  ·exact .inr (.inl rfl)
theorem ZK(f:cp)(r:List Int)(b4:List (List Int)):kv f r b4≠7:=by
 by_cases h:dC f=0
 ·have:=ZJ f r b4 h;omega
 ·unfold kv;rw[if_neg h];have:=aam f;omega
theorem O8{f:cp}{r:List Int}{b4:List (List Int)}(h:(fE f r b4).2=0\/(fE f r b4).2=7) :
  ∃cs,kv f r b4=0/\qe f.words r b4=some cs/\fE f r b4=gh (cc f cs):=by
 unfold fE at h |-
 by_cases c:kv f r b4=0
 ·rw[if_pos c]at h |-;cases aA:qe f.words r b4 with
  |none=>rw[aA]at h;simp at h
  |some cs=>exact⟨cs,c,rfl,rfl⟩
 ·rw[if_neg c]at h;have:=ZK f r b4;simp only at h;omega
theorem ZL{f:cp}{r:List Int}{b4:List (List Int)}{cs:List Change}(h:kv f r b4=0)(aA:qe f.words r b4=some cs):fE f r b4=gh (cc f cs):=by
 unfold fE;rw[if_pos h,aA]
theorem ZO{ws:List Int}{fu:Int}{r:List Int}{b4:List (List Int)}{cs:List Change}(h5:kv ⟨ws,fu⟩ r b4=0)(eC:qe ws r b4=some cs) :
  2<=cs.length/\cs.length<=64/\cs.all vc=true/\within 0 64 cs=true/\∀k,k<=cs.length ->
   0<eZ (dM ws (cs.take k))/\(eZ (dM ws (cs.take k))<=60000/\eZ (dM ws (cs.take k))<=eZ ws+1)/\(k<cs.length->fA (dM ws (cs.take k))=fA ws) /\
   (k=cs.length->fA (dM ws (cs.take k))=fA ws++[r]\/fA (dM ws (cs.take k))=b4++[r]):=by
 obtain⟨aN,aX,cS⟩:=O7 h5;obtain⟨bL,b0,dm,e3⟩:=ow aN;obtain⟨bp,_,_,dq⟩:=jx bL;obtain⟨gm,hH,hW⟩:=qg aX;obtain⟨a1,bf⟩:=RH _ 0 (by omega) cS;simp only at b0 dm e3 dq;unfold qe at eC
 by_cases aw:room r.length (ib ws (eg ws)).2=true
 ·rw[if_pos aw]at eC;cases iq:(ib ws (eg ws)).2 with
  |none=>rw[iq]at aw;cases aw
  |some a =>
   rw[iq]at aw eC;simp only[room,decide_eq_true_eq]at aw;simp only[Option.getD_some,Option.some.injEq]at eC;have az:cs.length=r.length+1:=by rw[<- eC];unfold oH;rw[List.length_append,mq,mq];rfl
   refine⟨by omega,by omega,?_,?_,fun k ae=>?_⟩
   ·rw[<- eC];unfold oH;rw[List.all_append,u7 _ _ hW,u7]
    ·rfl
    ·simp only[cC,eR,List.all_cons,List.all_nil,Bool.and_true,Bool.and_eq_true,decide_eq_true_eq];omega
   ·have:=(R7 b0 gm hH hW iq aw 0 (by omega)).1;rw[eC]at this;unfold within at this |-;refine List.all_eq_true.2 fun c aA=>?_
    have:=List.all_eq_true.1 this c aA;simp only[Bool.and_eq_true,decide_eq_true_eq]at this |-;omega
   ·obtain⟨_,cL,eH,gy⟩:=R7 b0 gm hH hW iq aw k (by omega);rw[eC]at cL eH gy;exact⟨by omega,⟨by omega,by omega⟩,fun h=>eH (by omega),fun h=>.inl (gy (by omega))⟩
 ·rw[if_neg aw]at eC
  by_cases bt:eZ ws=60000
  ·rw[if_pos bt]at eC;cases eC
  rw[if_neg bt]at eC;simp only[Option.some.injEq]at eC;have az:cs.length=33+(dx (b4++[r])).length:=by rw[<- eC];unfold hl eN;rw[List.length_append,List.length_append,Cc,mq,mq,List.length_singleton];omega
  have key:=fun k ae=>alD (rs:=b4++[r]) b0 dq dm (by omega) bf (by omega) k ae
  rw[eC]at key;have abF:=xt dq (eg ws);have abz:eZ ws=eU ws (eg ws):=rfl;refine⟨by omega,by omega,?_,(key 0 (by omega)).1,fun k ae=>?_⟩
  ·rw[<- eC];unfold hl eN;rw[List.all_append,List.all_append,N1,u7 _ _ (O4 bf),u7]
   ·rfl
   ·simp only[cC,eR,List.all_cons,List.all_nil,Bool.and_true,Bool.and_eq_true,decide_eq_true_eq];omega
  ·obtain⟨_,cO,cL,eH,gy⟩:=key k (by omega);exact⟨cO,⟨by omega,cL⟩,fun h=>eH (by omega),fun h=>.inr (gy (by omega))⟩
theorem Pa{ws:List Int}{fu:Int}{r:List Int}{b4:List (List Int)}{cs:List Change}(h5:kv ⟨ws,fu⟩ r b4=0)(eC:qe ws r b4=some cs){nb:Int}(acr:-1<=nb)(acs:nb<=100000) :
  dC ⟨(cc ⟨ws,fu⟩ cs).1.words,nb⟩=0/\(cc ⟨ws,fu⟩ cs).1.words.length=ws.length/\(∀i,64<=i->(cc ⟨ws,fu⟩ cs).1.words.getD i 0=ws.getD i 0) /\
  (fA (cc ⟨ws,fu⟩ cs).1.words=fA ws++[r]\/fA (cc ⟨ws,fu⟩ cs).1.words=b4++[r]\/((cc ⟨ws,fu⟩ cs).2=false/\fA (cc ⟨ws,fu⟩ cs).1.words=fA ws)):=by
 obtain⟨aN,aX,cS⟩:=O7 h5;obtain⟨bL,b0,dm,e3⟩:=ow aN;obtain⟨bp,_,_,dq⟩:=jx bL;obtain⟨cO,cL,eH,gy,n8⟩:=ZO h5 eC;have az:=tl ⟨ws,fu⟩ cs;have aY:=fun i hi=>QZ (a:=0) (b:=64) (by omega) ⟨ws,fu⟩ cs gy i hi
 obtain⟨k,I,G,Y⟩:=Q0 ⟨ws,fu⟩ cs;simp only at b0 bp dq az aY G;obtain⟨e0,fj,g2,pP⟩:=n8 k I;have fW:cC (cc ⟨ws,fu⟩ cs).1.words=true:=by rw[G];exact Gn _ _ dq (O5 eH k)
 rw[<- G]at e0 fj g2 pP;refine⟨Dl (by rw[az];exact bp) acr acs fW (by omega) e0 fj.1,az,fun i hi=>aY i (by omega),?_⟩
 by_cases c:k=cs.length
 ·rcases pP c with h|h
  ·exact .inl h
  ·exact .inr (.inl h)
 ·refine .inr (.inr ⟨?_,g2 (by omega)⟩);cases bH:(cc ⟨ws,fu⟩ cs).2
  ·rfl
  ·exact absurd (Y bH) c
theorem W1{f:cp}(h:dC f=0):kp f=(fA f.words,0):=by unfold kp;rw[if_pos h]
end bF
end Go.Proofs.YtlbppjmekiemiabGreatDoor

/- Plain answers: texts. No condition. -/
namespace Go.Proofs.YtlbppjmekiemiabGreatDoor
namespace bF

def tk:Nat->Nat->List UInt8
 |0,_=>[]
 |f+1,u=>if u<10 then [UInt8.ofNat (48+u)]else tk f (u/10)++[UInt8.ofNat (48+u%10)]
def fZ(n:Int):List UInt8:=tk 20 n.toNat
theorem QX:∀(f u:Nat),u<10 ^ f->0<f->Go.Lib.decDigits u=tk f u
 |0,_,_,h=>absurd h (by omega)
 |f+1,u,hu,_=>by
  rw[Go.Lib.decDigits]
  by_cases c:u<10
  ·rw[dif_pos c];simp[tk,c]
  ·rw[dif_neg c];have I:u/10<10 ^ f:=by
    rw[Nat.pow_succ]at hu;exact Nat.div_lt_of_lt_mul (by omega)
   have G:0<f:=by
    cases f with
    |zero=>simp at I;omega
    |succ f=>omega
   rw[QX f (u/10) I G];simp[tk,c]
theorem aeF{n:Int}(a2:0<=n)(I:n<=9223372036854775807):Go.Lib.itoa n=fZ n:=by
 unfold Go.Lib.itoa fZ;rw[if_neg (by omega)];exact QX 20 _ (by omega) (by omega)
def jE(sep:List UInt8):List (List UInt8)->List UInt8
 |[]=>[]
 |x::xs=>match xs with
  |[]=>x
  |_::_=>x++sep++jE sep xs
theorem join_eq(sep:List UInt8):∀xs,Go.Lib.join xs sep=jE sep xs
 |[]=>rfl
 |[x]=>by simp[Go.Lib.join,List.intercalate,jE]
 |x::y::xs=>by
  have:=join_eq sep (y::xs);simp only[Go.Lib.join,List.intercalate,jE]at this |-;rw[<- this];simp[List.intersperse]
def hT(k:Int)(s:List UInt8):List (List UInt8)->Int
 |[]=>-1
 |x::r=>if x=s then k else hT (k+1) s r
def ev(s:List UInt8)(l:List (List UInt8)):Int:=hT 0 s l
def pE(s:List UInt8)(l:List (List UInt8)):Bool:=l.any fun x=>decide (x=s)
def w4(seen:List (List UInt8)):List (List UInt8)->Int
 |[]=>0
 |s::r=>if 2000<s.length then 2 else if pE s seen then 6 else w4 (seen++[s]) r
def fq(l:List (List UInt8)):Int:=if 60<l.length then 2 else w4 [] l
def n2(l:List (List UInt8))(s:List UInt8):Int×Int:=if fq l=0 then(ev s l+1,0)else(0,fq l)
def j1(l:List Int):Bool:=l.all fun n=>decide (0<=n)&&decide (n<=9223372036854775807)
def fO(l:List Int):List UInt8:=jE [32] (l.map fZ)
theorem QY:∀f u,(tk f u).length<=f
 |0,_=>by simp[tk]
 |f+1,u=>by
  simp only[tk];split
  ·simp
  ·have:=QY f (u/10);simp;omega
theorem um(n:Int):(fZ n).length<=20:=QY _ _
theorem Ku(sep:List UInt8)(m:Nat):∀xs:List (List UInt8),(∀x∈xs,x.length<=m)->(jE sep xs).length<=xs.length*(m+sep.length)
 |[],_=>by simp[jE]
 |[x],h=>by have:=h x (by simp);simp[jE];omega
 |x::y::xs,h=>by
  have I:=h x (by simp);have G:=Ku sep m (y::xs) (fun bg dK=>h bg (by simp at dK |-; exact .inr dK));simp only[jE,List.length_append,List.length_cons]at G |-;rw[Nat.add_mul (xs.length+1) 1];omega
theorem sL(l:List Int):(fO l).length<=l.length*21:=by
 have:=Ku [32] 20 (l.map fZ) (fun x aG=>by
  obtain⟨n,_,rfl⟩:=List.mem_map.1 aG;exact um n)
 simpa[fO]using this
theorem Kr(s:List UInt8):∀(l:List (List UInt8)) (k:Int),0<=k->hT k s l=-1\/(k<=hT k s l/\hT k s l<k+(l.length:Nat))
 |[],_,_=>.inl rfl
 |x::r,k,ae=>by
  simp only[hT];split
  ·exact .inr ⟨by omega,by simp only[List.length_cons];omega⟩
  ·rcases Kr s r (k+1) (by omega)with h|h
   ·exact .inl h
   ·exact .inr ⟨by omega,by simp only[List.length_cons];omega⟩
theorem aeC(s:List UInt8)(l:List (List UInt8)):decide (0<=ev s l)=pE s l:=by
 have key:∀(l:List (List UInt8)) (k:Int),0<=k->decide (0<=hT k s l)=pE s l:=by
  intro l
  induction l with
  |nil=>intro k _;rfl
  |cons x r de =>
   intro k ae;have aey:=de (k+1) (by omega);simp only[pE,List.any_cons]
   by_cases c:x=s
   ·have e:hT k s (x::r)=k:=if_pos c;rw[show decide (0<=hT k s (x::r))=true from decide_eq_true (by rw[e];exact ae)];simp[c]
   ·have e:hT k s (x::r)=hT (k+1) s r:=if_neg c;rw[show decide (0<=hT k s (x::r))=decide (0<=hT (k+1) s r)from by simp only[e],aey];simp[c,pE]
 exact key l 0 (by omega)
def n3(last:Option Int)(k:Int):Bool:=match last with
 |some p=>decide (k<=p)
 |none=>false
def zf(e t n:Int):Int:=if e=0 then(if t<1\/n<t then 4 else 0)else e
def l2(last:Option Int):List Int->Int
 |[]=>0
 |k::r=>if k<1\/50<k then 3 else if n3 last k then 6 else l2 (some k) r
def gf(v:Int)(aF:List Int)(t:Int):Int :=
 if v<1\/1000<v then 3 else if aF.length=0\/6<aF.length then 2 else zf (l2 none aF) t aF.length
def qM(i:Int)(t:Target):Bool:=decide (t.unit=i)&&decide (1<=t.image)&&decide (t.image<=60)&&decide (1<=t.dr)&&decide (t.dr<=40)
def j2(i:Int):List Target->Bool
 |[]=>true
 |t::r=>qM i t&&j2 (i+1) r
def gG(v u:Int)(ts:List Target):Int :=
 if v<1\/1000<v\/u<0\/100000<u then 3 else if ts.length=0\/4<ts.length then 2 else if j2 0 ts then 0 else 3
def fv(w:List Int):Int:=if w.length=0\/40<w.length then 2 else if cC w then 0 else 3
def j4(v:Int)(aF:List Int)(t:Int):List UInt8:=[114,111,111,116,32]++fZ v++[32]++fZ t++[32,111,102,32]++fO aF
def zq(t:Target):List UInt8:=[59,32]++fO [t.unit,t.image,t.dr]
def od(ts:List Target):List UInt8:=ts.flatMap zq
def l8(v u:Int)(ts:List Target):List UInt8:=[114,101,108,101,97,115,101,32]++fZ v++[32,117,110,116,105,108,32]++fZ u++od ts
def kk(w:List Int):List UInt8:=[105,109,97,103,101,32]++fO w
def sW(v:Int)(aF:List Int)(t:Int):List UInt8×Int:=if gf v aF t=0 then(j4 v aF t,0)else([],gf v aF t)
def nr(v u:Int)(ts:List Target):List UInt8×Int:=if gG v u ts=0 then(l8 v u ts,0)else([],gG v u ts)
def lb(w:List Int):List UInt8×Int:=if fv w=0 then(kk w,0)else([],fv w)
def gH(l:List (List UInt8))(w:List Int):Int×Int:=if fv w=0 then n2 l (kk w)else(0,fv w)
theorem S8:∀(aF:List Int) (last:Option Int),l2 last aF=0->j1 aF=true
 |[],_,_=>rfl
 |k::r,last,h=>by
  simp only[l2]at h
  by_cases c:k<1\/50<k
  ·rw[if_pos c]at h;cases h
  ·rw[if_neg c]at h
   by_cases bc:n3 last k=true
   ·rw[if_pos bc]at h;cases h
   ·rw[if_neg bc]at h;have:=S8 r _ h;unfold j1 at this |-;simp only[List.all_cons,this,Bool.and_true,Bool.and_eq_true,decide_eq_true_eq];omega
theorem q8{v:Int}{aF:List Int}{t:Int}(h:gf v aF t=0):1<=v/\v<=1000/\1<=t/\t<=(aF.length:Int)/\aF.length<=6/\j1 aF=true:=by
 unfold gf at h
 by_cases bp:v<1\/1000<v
 ·rw[if_pos bp]at h;cases h
 rw[if_neg bp]at h
 by_cases bc:aF.length=0\/6<aF.length
 ·rw[if_pos bc]at h;cases h
 rw[if_neg bc]at h;unfold zf at h
 by_cases cq:l2 none aF=0
 ·rw[if_pos cq]at h
  by_cases dq:t<1\/(aF.length:Int)<t
  ·rw[if_pos dq]at h;cases h
  ·exact⟨by omega,by omega,by omega,by omega,by omega,S8 _ _ cq⟩
 ·rw[if_neg cq]at h;exact absurd h cq
theorem U1:∀(ts:List Target) (i:Int),j2 i ts=true->0<=i->i+ts.length<=1000->∀t∈ts,0<=t.unit/\t.unit<=1000/\0<=t.image/\t.image<=1000/\0<=t.dr/\t.dr<=1000
 |[],_,_,_,_,t,bm=>by simp at bm
 |x::r,i,h,a2,I,t,bm=>by
  simp only[j2,Bool.and_eq_true]at h;simp only[List.length_cons]at I;rcases List.mem_cons.1 bm with rfl|bm
  ·have:=h.1;simp only[qM,Bool.and_eq_true,decide_eq_true_eq]at this;omega
  ·exact U1 r (i+1) h.2 (by omega) (by omega) t bm
theorem Af{v u:Int}{ts:List Target}(h:gG v u ts=0):1<=v/\v<=1000/\0<=u/\u<=100000/\1<=ts.length/\ts.length<=4/\∀t∈ts,0<=t.unit/\t.unit<=1000/\0<=t.image/\t.image<=1000/\0<=t.dr/\t.dr<=1000:=by
 unfold gG at h
 by_cases bp:v<1\/1000<v\/u<0\/100000<u
 ·rw[if_pos bp]at h;cases h
 rw[if_neg bp]at h
 by_cases bc:ts.length=0\/4<ts.length
 ·rw[if_pos bc]at h;cases h
 rw[if_neg bc]at h
 by_cases cq:j2 0 ts=true
 ·exact⟨by omega,by omega,by omega,by omega,by omega,by omega,U1 ts 0 cq (by omega) (by omega)⟩
 ·rw[if_neg cq]at h;cases h
theorem r8{w:List Int}(h:fv w=0):1<=w.length/\w.length<=40/\cC w=true:=by
 unfold fv at h
 by_cases bp:w.length=0\/40<w.length
 ·rw[if_pos bp]at h;cases h
 rw[if_neg bp]at h
 by_cases bc:cC w=true
 ·exact⟨by omega,by omega,bc⟩
 ·rw[if_neg bc]at h;cases h
theorem US{w:List Int}(h:cC w=true):j1 w=true:=List.all_eq_true.2 fun n aq=>by
 have:=vV (List.all_eq_true.1 h n aq);simp only[Bool.and_eq_true,decide_eq_true_eq];omega
end bF
end Go.Proofs.YtlbppjmekiemiabGreatDoor

/- Plain laws: texts, further. No condition. -/
namespace Go.Proofs.YtlbppjmekiemiabGreatDoor
namespace bF

theorem SW(s:List UInt8):∀(l:List (List UInt8)) (j:Int) (k:Nat),k<l.length->nth l k []=s->decide (hT j s l<j+k)=pE s (l.take k)
 |[],_,k,ae,_=>by simp at ae
 |x::r,j,0,_,av=>by
  have aG:x=s:=av;have e:hT j s (x::r)=j:=if_pos aG;rw[e,List.take_zero];exact decide_eq_false (by omega)
 |x::r,j,k+1,ae,av=>by
  by_cases c:x=s
  ·have e:hT j s (x::r)=j:=if_pos c;rw[e,List.take_succ_cons];simp only[pE,List.any_cons,c,decide_true,Bool.true_or];exact decide_eq_true (by omega)
  ·have e:hT j s (x::r)=hT (j+1) s r:=if_neg c;rw[e,List.take_succ_cons];have:=SW s r (j+1) k (by simpa using ae) av;simp only[pE,List.any_cons,c,decide_false,Bool.false_or]at this |-;rw[<- this,show j+1+(k:Int)=j+((k+1:Nat):Int)by omega]
theorem aeD{s:List UInt8}{l:List (List UInt8)}{k:Nat}(ae:k<l.length)(av:nth l k []=s):aL (ev s l) (k:Int)=pE s (l.take k):=by
 have:=SW s l 0 k ae av;rw[show(0:Int)+k=k by omega]at this;exact this
theorem S4(sep y:List UInt8):∀xs:List (List UInt8),xs≠[]->jE sep (xs++[y])=jE sep xs++sep++y
 |[],h=>absurd rfl h
 |[x],_=>by simp[jE]
 |x::bg::xs,_=>by
  have:=S4 sep y (bg::xs) (by simp);simp only[List.cons_append,jE]at this |-;rw[this];simp
theorem S3(sep:List UInt8):∀(x:List UInt8) (xs:List (List UInt8)),jE sep (x::xs)=x++xs.flatMap (fun y=>sep++y)
 |x,[]=>by simp[jE]
 |x,y::ys=>by
  have:=S3 sep y ys;rw[show jE sep (x::y::ys)=x++sep++jE sep (y::ys)from rfl,this];simp
theorem Tf(n:Int):fO [n]=fZ n:=rfl
theorem aeW(n m:Int):fO [n,m]=fZ n++[32]++fZ m:=rfl
theorem aeV{l:List Int}{n:Int}(h:l≠[]):fO (l++[n])=fO l++[32]++fZ n:=by
 unfold fO;rw[List.map_append,List.map_cons,List.map_nil];exact S4 _ _ _ (by simpa using h)
theorem W8(pre:List UInt8)(ts:List Target):jE [59,32] (pre::ts.map fun t=>fO [t.unit,t.image,t.dr])=pre++od ts:=by
 rw[S3,List.flatMap_map];rfl
end bF
end Go.Proofs.YtlbppjmekiemiabGreatDoor

/- Plain answers: trust. No condition. -/
namespace Go.Proofs.YtlbppjmekiemiabGreatDoor
namespace bF

def nm(s:Signed):Bool:=decide (1<=s.key)&&decide (s.key<=50)&&decide (1<=s.name)&&decide (s.name<=60)
def hO(l:List Signed):Int:=if 360<l.length then 2 else if l.all nm then 0 else 3
def rH(k n:Int)(s:Signed):Bool:=ar k s.key&&(ar n s.name&&true)
def vI(k n:Int)(j:Int):List Signed->Int
 |[]=>-1
 |s::r=>if rH k n s then j else vI k n (j+1) r
def nc(k n:Int)(l:List Signed):Bool:=l.any (rH k n)
def vJ(k:Int)(j:Int):List Int->Int
 |[]=>-1
 |x::r=>if x=k then j else vJ k (j+1) r
def rz(k:Int)(l:List Int):Bool:=l.any fun x=>decide (x=k)
def o1(l:List Signed)(sigs:List Int)(name k:Int):Bool:=rz k sigs&&nc k name l
def nE(l:List Signed)(sigs:List Int)(name:Int)(aF:List Int):Nat:=(aF.filter (o1 l sigs name)).length
def iI(l:List Signed)(r:jN)(sigs:List Int)(name:Int):Int×Int :=
 if hO l=0 then(if gf r.version r.keys r.dV=0 then(if 50<sigs.length then(0,2)else((nE l sigs name r.keys:Nat),0))else(0,gf r.version r.keys r.dV))else(0,hO l)
def g5(t:iT):Int:=if t.version<0\/1000<t.version then 3 else gf t.r.version t.r.keys t.r.dV
def l5:iT:=⟨⟨0,[],0⟩,0⟩
def gP(l:List Signed)(r:jN)(sigs:List Int)(name:Int):Int:=if (iI l r sigs name).2=0 then(if (iI l r sigs name).1<r.dV then 9 else 0)else(iI l r sigs name).2
def rV(b:List (List UInt8))(l:List Signed)(t:iT)(next:jN)(sigs:List Int):Int :=
 if g5 t=0 then(if gf next.version next.keys next.dV=0 then(if fq b=0 then(if next.version=t.r.version+1 then
  (if gP l t.r sigs (ev (j4 next.version next.keys next.dV) b+1)=0 then gP l next sigs (ev (j4 next.version next.keys next.dV) b+1)else gP l t.r sigs (ev (j4 next.version next.keys next.dV) b+1))else 10)else fq b)else gf next.version next.keys next.dV)else g5 t
def gK(b:List (List UInt8))(l:List Signed)(t:iT)(next:jN)(sigs:List Int):iT×Int :=
 if rV b l t next sigs=0 then(⟨next,t.version⟩,0)else(l5,rV b l t next sigs)
def gU(b:List (List UInt8))(l:List Signed)(t:iT):List jN->List (List Int)->iT×Int
 |[],_=>(t,0)
 |r::rs,a5=>if (gK b l t r (a5.headD [])).2=0 then gU b l (gK b l t r (a5.headD [])).1 rs a5.tail else(l5,(gK b l t r (a5.headD [])).2)
def n5(b:List (List UInt8))(x:Target)(w:List Int):Bool:=decide ((gH b w).2=0)&&decide ((gH b w).1=x.image)&&decide ((w.length:Int)=x.dr)
def n6(b:List (List UInt8)):List Target->List (List Int)->Bool
 |[],_=>true
 |x::xs,ws=>n5 b x (ws.headD [])&&n6 b xs ws.tail
def mV(b:List (List UInt8))(l:List Signed)(t:iT)(o:kb)(now units:Int):Int :=
 if gG o.r.version o.r.cg o.r.targets=0 then(if fq b=0 then
  (if gP l t.r o.sigs (ev (l8 o.r.version o.r.cg o.r.targets) b+1)=0 then
   (if o.r.version<=t.version then 10 else if o.r.cg<now then 11 else if (o.r.targets.length:Int)≠units\/(o.cQ.length:Int)≠units then 4 else if n6 b o.r.targets o.cQ then 0 else 5)
  else gP l t.r o.sigs (ev (l8 o.r.version o.r.cg o.r.targets) b+1))else fq b)else gG o.r.version o.r.cg o.r.targets
def takeEnd(b:List (List UInt8))(l:List Signed)(o:kb)(now units:Int)(x:iT×Int):iT×Int :=
 if x.2=0 then(if mV b l x.1 o now units=0 then(⟨x.1.r,o.r.version⟩,0)else(l5,mV b l x.1 o now units))else(l5,x.2)
def ha(b:List (List UInt8))(l:List Signed)(t:iT)(o:kb)(now units:Int):iT×Int :=
 if g5 t=0 then(if 6<o.roots.length\/o.lM.length≠o.roots.length then(l5,2)else takeEnd b l o now units (gU b l t o.roots o.lM))else(l5,g5 t)
def BQ(a b:iT):Bool:=ar a.version b.version&&(ar a.r.version b.r.version&&(ar a.r.dV b.r.dV&&gx a.r.keys b.r.keys))
theorem jZ{x y:Int}:(if x=0 then y else x)=0↔x=0/\y=0:=by
 by_cases h:x=0
 ·rw[if_pos h];exact⟨fun g=>⟨h,g⟩,fun g=>g.2⟩
 ·rw[if_neg h];exact⟨fun g=>absurd g h,fun g=>absurd g.1 h⟩
theorem Ah{t:iT}(h:g5 t=0):0<=t.version/\t.version<=1000/\gf t.r.version t.r.keys t.r.dV=0:=by
 unfold g5 at h
 by_cases c:t.version<0\/1000<t.version
 ·rw[if_pos c]at h;cases h
 ·rw[if_neg c]at h;exact⟨by omega,by omega,h⟩
theorem pg{l:List (List UInt8)}(h:fq l=0):l.length<=60:=by
 unfold fq at h
 by_cases c:60<l.length
 ·rw[if_pos c]at h;cases h
 ·omega
theorem Y4{b:List (List UInt8)}{l:List Signed}{t:iT}{next:jN}{sigs:List Int}(h:rV b l t next sigs=0) :
  g5 t=0/\gf next.version next.keys next.dV=0/\fq b=0/\next.version=t.r.version+1 /\
  gP l t.r sigs (ev (j4 next.version next.keys next.dV) b+1)=0/\gP l next sigs (ev (j4 next.version next.keys next.dV) b+1)=0:=by
 unfold rV at h;obtain⟨I,h⟩:=jZ.1 h;obtain⟨G,h⟩:=jZ.1 h;obtain⟨Y,h⟩:=jZ.1 h
 by_cases c:next.version=t.r.version+1
 ·rw[if_pos c]at h;obtain⟨aS,h⟩:=jZ.1 h;exact⟨I,G,Y,c,aS,h⟩
 ·rw[if_neg c]at h;cases h
theorem Y5{b:List (List UInt8)}{l:List Signed}{t:iT}{next:jN}{sigs:List Int}(h:(gK b l t next sigs).2=0):rV b l t next sigs=0/\gK b l t next sigs=(⟨next,t.version⟩,0):=by
 unfold gK at h |-
 by_cases c:rV b l t next sigs=0
 ·rw[if_pos c];exact⟨c,rfl⟩
 ·rw[if_neg c]at h;exact absurd h c
theorem QS(l:List Signed)(sigs:List Int)(name k:Int)(r:List Int):nE l sigs name (k::r)=(if o1 l sigs name k then 1 else 0)+nE l sigs name r:=by
 unfold nE;rw[List.filter_cons]
 by_cases h:o1 l sigs name k=true
 ·rw[if_pos h,if_pos h,List.length_cons];omega
 ·rw[if_neg h,if_neg h];omega
theorem SY(k:Int):∀(l:List Int) (j:Int),0<=j->dh 0 (vJ k j l)=rz k l
 |[],_,_=>rfl
 |x::r,j,aT=>by
  simp only[vJ,rz,List.any_cons]
  by_cases c:x=k
  ·rw[if_pos c,decide_eq_true c];exact decide_eq_true aT
  ·rw[if_neg c,decide_eq_false c];exact SY k r (j+1) (by omega)
theorem SX(k n:Int):∀(l:List Signed) (j:Int),0<=j->dh 0 (vI k n j l)=nc k n l
 |[],_,_=>rfl
 |x::r,j,aT=>by
  simp only[vI,nc,List.any_cons]
  by_cases c:rH k n x=true
  ·rw[if_pos c,c];exact decide_eq_true aT
  ·rw[if_neg c,(Bool.not_eq_true _).mp c];exact SX k n r (j+1) (by omega)
end bF
end Go.Proofs.YtlbppjmekiemiabGreatDoor

/- Plain laws: trust. No condition. -/
namespace Go.Proofs.YtlbppjmekiemiabGreatDoor
namespace bF

theorem Ag{l:List Signed}(h:hO l=0):l.length<=360/\l.all nm=true:=by
 unfold hO at h
 by_cases c:360<l.length
 ·rw[if_pos c]at h;cases h
 ·rw[if_neg c]at h
  by_cases bc:l.all nm=true
  ·exact⟨by omega,bc⟩
  ·rw[if_neg bc]at h;cases h
theorem MR{b:List (List UInt8)}{l:List Signed}:∀(rs:List jN) (rg:List (List Int)) (t:iT),g5 t=0->(gU b l t rs rg).2=0 ->
  (gU b l t rs rg).1.version=t.version/\(gU b l t rs rg).1.r.version=t.r.version+rs.length/\g5 (gU b l t rs rg).1=0/\gU b l t rs rg=((gU b l t rs rg).1,0)
 |[],rg,t,a2,_=>⟨rfl,by simp[gU],a2,rfl⟩
 |r::rs,rg,t,a2,h=>by
  by_cases c:(gK b l t r (rg.headD [])).2=0
  ·have e:gU b l t (r::rs) rg=gU b l (gK b l t r (rg.headD [])).1 rs rg.tail:=if_pos c;rw[e]at h |-;obtain⟨I,G⟩:=Y5 c;obtain⟨bL,b0,_,e3,_⟩:=Y4 I;rw[G]at h |-;obtain⟨t1,t2,_⟩:=Ah bL;have gX:g5 ⟨r,t.version⟩=0:=by
    unfold g5;simp only;rw[if_neg (by omega)];exact b0
   obtain⟨cO,cL,eH,gy⟩:=MR rs rg.tail ⟨r,t.version⟩ gX h;exact⟨cO,by rw[cL,List.length_cons];simp only;omega,eH,gy⟩
  ·have e:gU b l t (r::rs) rg=(l5,(gK b l t r (rg.headD [])).2):=if_neg c;rw[e]at h;exact absurd h c
theorem W2{b:List (List UInt8)}{l:List Signed}{t:iT}{o:kb}{now units:Int}(h:mV b l t o now units=0) :
  gG o.r.version o.r.cg o.r.targets=0/\fq b=0/\gP l t.r o.sigs (ev (l8 o.r.version o.r.cg o.r.targets) b+1)=0/\t.version<o.r.version/\now<=o.r.cg/\(o.r.targets.length:Int)=units/\(o.cQ.length:Int)=units/\n6 b o.r.targets o.cQ=true:=by
 unfold mV at h;obtain⟨I,h⟩:=jZ.1 h;obtain⟨G,h⟩:=jZ.1 h;obtain⟨Y,h⟩:=jZ.1 h
 by_cases bp:o.r.version<=t.version
 ·rw[if_pos bp]at h;cases h
 rw[if_neg bp]at h
 by_cases bc:o.r.cg<now
 ·rw[if_pos bc]at h;cases h
 rw[if_neg bc]at h
 by_cases cq:(o.r.targets.length:Int)≠units\/(o.cQ.length:Int)≠units
 ·rw[if_pos cq]at h;cases h
 rw[if_neg cq]at h
 by_cases dq:n6 b o.r.targets o.cQ=true
 ·exact⟨I,G,Y,by omega,by omega,by omega,by omega,dq⟩
 ·rw[if_neg dq]at h;cases h
theorem YU{b:List (List UInt8)}{l:List Signed}{t:iT}{o:kb}{now units:Int}(h:(ha b l t o now units).2=0) :
  g5 t=0/\o.roots.length<=6/\o.lM.length=o.roots.length/\(gU b l t o.roots o.lM).2=0/\mV b l (gU b l t o.roots o.lM).1 o now units=0/\ha b l t o now units=(⟨(gU b l t o.roots o.lM).1.r,o.r.version⟩,0):=by
 unfold ha at h |-
 by_cases bp:g5 t=0
 ·rw[if_pos bp]at h |-
  by_cases bc:6<o.roots.length\/o.lM.length≠o.roots.length
  ·rw[if_pos bc]at h;cases h
  ·rw[if_neg bc]at h |-;unfold takeEnd at h |-
   by_cases cq:(gU b l t o.roots o.lM).2=0
   ·rw[if_pos cq]at h |-
    by_cases dq:mV b l (gU b l t o.roots o.lM).1 o now units=0
    ·rw[if_pos dq];exact⟨bp,by omega,by omega,cq,dq,rfl⟩
    ·rw[if_neg dq]at h;exact absurd h dq
   ·rw[if_neg cq]at h;exact absurd h cq
 ·rw[if_neg bp]at h;exact absurd h bp
theorem abW(k n:Int)(a b:List Signed):nc k n (a++b)=(nc k n a||nc k n b):=by simp[nc]
end bF
end Go.Proofs.YtlbppjmekiemiabGreatDoor

/- Plain answers: a unit. No condition. -/
namespace Go.Proofs.YtlbppjmekiemiabGreatDoor
namespace bF

structure ih where
 slot:Int
 e2:Int
 ready:Int
def uk(l:List (List Int)):Bool:=l.all fun r=>decide (0<r.length)
def hk(s:ih)(r:List Int):ih :=
 if r.getD 0 0=1/\r.length=3/\r.getD 1 0<=1 then⟨r.getD 1 0,r.getD 2 0,0⟩
 else if r.getD 0 0=2/\r.length=2 then⟨s.slot,s.e2,r.getD 1 0⟩
 else if r.getD 0 0=3/\r.length=2 then⟨s.slot,s.e2,0⟩else s
def hX(l:List (List Int)):ih:=l.foldl hk ⟨0,0,0⟩
def c5(f:cp):ih:=hX (kp f).1
def oO(e2 slot ready:Int):List (List Int):=[1,slot,e2]::if 0<ready then [[2,ready]]else []
def e4(u:c1):Int :=
 if dC u.f=0 then(if u.f.words.length=192 then(if u.n<0\/8<u.n\/u.eG<0\/40<u.eG then 3 else 0)else 4)else dC u.f
def mT(u:c1):ih×Int:=if e4 u=0 then(c5 u.f,0)else(⟨0,0,0⟩,e4 u)
def vT:c1:=⟨mO,false,0,0⟩
def xp(image:List Int)(name:Int):cp×Int:=gn (fa (ql (qJ 6).1).1 0 0 image).1 0 image.length name
def lH(image:List Int)(name:Int):c1×Int :=
 if fv image=0 then(if (xp image name).2=0 then(⟨(fE (xp image name).1 [1,0,0] []).1,true,0,0⟩,0)else(vT,(xp image name).2))else(vT,fv image)
def aaJ(u:c1):c1:=⟨u.f,false,0,0⟩
def e8(u:c1)(f:cp)(e:Int):c1×Bool :=
 if e=0 then(⟨f,u.up,u.n,u.eG⟩,true)else if e=7 then(⟨f,false,0,0⟩,false)else(u,false)
def ff(u:c1)(r:List Int):c1×Bool :=
 e8 u (fE u.f r (oO (c5 u.f).e2 (c5 u.f).slot (c5 u.f).ready)).1 (fE u.f r (oO (c5 u.f).e2 (c5 u.f).slot (c5 u.f).ready)).2
def jz(u:c1)(s:ih)(m:Message):c1×Bool:=e8 u (fa u.f (1-s.slot) m.at_ m.words).1 (fa u.f (1-s.slot) m.at_ m.words).2
def po(u:c1)(s:ih)(m:Message):c1 :=
 if u.n≠m.n\/u.eG≠m.at_\/40<m.at_+m.words.length then u
 else if (jz u s m).2 then⟨(jz u s m).1.f,(jz u s m).1.up,(jz u s m).1.n,(jz u s m).1.eG+m.words.length⟩else(jz u s m).1
def ij(u:c1)(s:ih):c1×Bool:=e8 u (hv u.f (1-s.slot)).1 (hv u.f (1-s.slot)).2
def pQ(u:c1)(s:ih)(m:Message):c1 :=
 if 0<s.ready\/m.n<=s.e2\/8<m.n then u
 else if m.at_=0/\(u.n≠m.n\/u.eG=0)then
  (if (ij u s).2 then po ⟨(ij u s).1.f,(ij u s).1.up,m.n,0⟩ s m else(ij u s).1)
 else po u s m
def me(m:Message)(y:Bool):List Message:=[⟨3,m.unit,m.n,0,0,[],y⟩]
def oy(m:Message):List Message:=[⟨6,m.unit,m.n,0,0,[],false⟩]
def l9(u:c1)(s:ih)(m:Message):c1×Bool:=e8 u (gn u.f (1-s.slot) m.at_ m.image).1 (gn u.f (1-s.slot) m.at_ m.image).2
def BS(u:c1)(s:ih)(m:Message)(body:List Int):c1×List Message :=
 if (la u.f (1-s.slot)).2.2=0/\(la u.f (1-s.slot)).2.1=m.image/\(la u.f (1-s.slot)).1=body then
  (if (ff u [2,m.n]).2 then((ff u [2,m.n]).1,me m true)else((ff u [2,m.n]).1,[]))
 else(u,me m false)
def pR(b:List (List UInt8))(u:c1)(s:ih)(m:Message):c1×List Message :=
 if m.n<=s.e2 then(u,oy m)else if s.ready=m.n then(u,me m true)else if 0<s.ready then(u,me m false)
 else if (nC u.f (1-s.slot) m.at_).2=0/\u.n=m.n/\u.eG=m.at_ then
  (if (gH b (nC u.f (1-s.slot) m.at_).1).2=0/\(gH b (nC u.f (1-s.slot) m.at_).1).1≠0/\(gH b (nC u.f (1-s.slot) m.at_).1).1=m.image then
   (if (l9 u s m).2 then BS ⟨(l9 u s m).1.f,(l9 u s m).1.up,0,0⟩ s m (nC u.f (1-s.slot) m.at_).1
   else((l9 u s m).1,[]))
  else(u,me m false))
 else(u,me m false)
def qp(u:c1)(m:Message):c1×List Message:=if u.n=m.n then(⟨u.f,u.up,0,0⟩,oy m)else(u,oy m)
def m7(u:c1)(s:ih)(m:Message):c1×List Message :=
 if m.kind=4 then(if s.e2=m.n then(u,oy m)else if s.ready=m.n then
   (if (ff u [1,1-s.slot,m.n]).2 then((ff u [1,1-s.slot,m.n]).1,oy m)else((ff u [1,1-s.slot,m.n]).1,[]))
  else(u,[]))
 else if m.n<=s.e2 then(u,[])else if s.ready=m.n then
  (if (ff u [3,m.n]).2 then qp (ff u [3,m.n]).1 m else((ff u [3,m.n]).1,[]))
 else qp u m
def gd(m:Message):Int :=
 if m.kind<1\/7<m.kind\/m.unit<0\/4<=m.unit\/m.n<1\/8<m.n\/m.at_<0\/40<m.at_\/m.image<0\/60<m.image\/8<m.words.length then 3 else if cC m.words then 0 else 3
def he(b:List (List UInt8))(u:c1)(m:Message):c1×List Message :=
 if u.up then(if m.kind=1 then(pQ u (c5 u.f) m,[])else if m.kind=2 then pR b u (c5 u.f) m else if m.kind=4\/m.kind=5 then m7 u (c5 u.f) m else(u,[]))else(u,[])
def su(b:List (List UInt8))(u:c1)(m:Message):Int:=if fq b=0 then(if e4 u=0 then gd m else e4 u)else fq b
def h6(b:List (List UInt8))(u:c1)(m:Message):(c1×List Message)×Int :=
 if su b u m=0 then(he b u m,0)else((vT,[]),su b u m)
def q6(u:c1):c1×Int:=if e4 u=0 then(⟨⟨u.f.words,-1⟩,true,0,0⟩,0)else(vT,e4 u)
def Fc(u:c1):List Int×Int×Int:=if e4 u=0 then la u.f (c5 u.f).slot else([],0,e4 u)
def oZ(a b:Message):Bool:=ar a.kind b.kind&&(ar a.unit b.unit&&(ar a.n b.n&&(ar a.at_ b.at_&&(ar a.image b.image&&(h3 a.yes b.yes&&gx a.words b.words)))))
def kS:List Message->List Message->Bool
 |[],[]=>true
 |a::as,b::au=>oZ a b&&kS as au
 |_,_=>false
def iZ(a b:c1):Bool:=kR a.f b.f&&(h3 a.up b.up&&(ar a.n b.n&&ar a.eG b.eG))
def kT(l:List Message):Bool:=l.all fun m=>decide (m.words.length<=140737488355328)
end bF
end Go.Proofs.YtlbppjmekiemiabGreatDoor

/- Plain laws: a unit. No condition. -/
namespace Go.Proofs.YtlbppjmekiemiabGreatDoor
namespace bF

theorem EC{l r:List Int}(h:cC l=true)(av:∀x∈r,x∈l):cC r=true:=List.all_eq_true.2 fun x aG=>List.all_eq_true.1 h x (av x aG)
theorem aap{r:List Int}(I:1<=r.length)(G:r.length<=4)(Y:cC r=true):gw r=0:=by
 unfold gw;rw[if_pos ⟨I,G⟩,if_pos Y]
theorem acd(x:Int):gZ x=0\/(1<=gZ x/\gZ x<=4):=by
 unfold gZ;split
 ·exact .inr (by omega)
 ·exact .inl rfl
theorem Xn:∀(m:Nat) (l:List Int),cC l=true->∀r∈(e6 m l).1,gw r=0
 |0,_,_,r,aw=>by simp[e6]at aw
 |_+1,[],_,r,aw=>by simp[e6]at aw
 |m+1,x::xs,h,r,aw=>by
  have aG:cC xs=true:=EC h fun y cv=>List.mem_cons_of_mem _ cv
  simp only[e6]at aw;split at aw
  ·simp at aw
  ·split at aw
   ·simp at aw
   ·rename_i a2;split at aw
    ·rename_i hle;rcases List.mem_cons.1 aw with rfl|aw
     ·have:=acd x;exact aap (by rw[List.length_take];omega) (by rw[List.length_take];omega) (EC aG fun y cv=>List.mem_of_mem_take cv)
     ·exact Xn m _ (EC aG fun y cv=>List.mem_of_mem_drop cv) r aw
    ·simp at aw
theorem ail{ws:List Int}(h:cC ws=true):∀r∈fA ws,gw r=0:=by
 intro r aw;refine Xn 32 _ (EC h fun y cv=>?_) r aw;have:=List.mem_of_mem_drop cv;unfold nu aW at this;exact List.mem_of_mem_take (List.mem_of_mem_drop this)
theorem BJ(f:cp):(kp f).1.length<=32/\∀r∈(kp f).1,gw r=0:=by
 unfold kp
 by_cases c:dC f=0
 ·rw[if_pos c];obtain⟨bL,_⟩:=ow c;obtain⟨_,_,_,dq⟩:=jx bL;exact⟨(MM _).2,ail dq⟩
 ·rw[if_neg c];exact⟨by simp,fun r aw=>by simp at aw⟩
theorem K2{l:List (List Int)}(h:∀r∈l,gw r=0):uk l=true:=List.all_eq_true.2 fun r aw=>by
 have:=(qg (h r aw)).1;exact decide_eq_true (by omega)
def uU(s:ih):Prop:=(0<=s.slot/\s.slot<=1)/\(0<=s.e2/\s.e2<=65535)/\0<=s.ready/\s.ready<=65535
theorem N2{r:List Int}(h:cC r=true)(i:Nat):0<=r.getD i 0/\r.getD i 0<=65535:=by
 rw[List.getD_eq_getElem?_getD];cases hi:r[i]? with
 |none=>simp
 |some x =>
  have:=vV (List.all_eq_true.1 h x (List.mem_of_getElem? hi));simpa using this
theorem ali{s:ih}{r:List Int}(av:uU s)(aw:gw r=0):uU (hk s r):=by
 obtain⟨_,_,hW⟩:=qg aw;have j6:=N2 hW 1;have jK:=N2 hW 2;obtain⟨a,b,c⟩:=av;unfold hk;split
 ·rename_i h;exact⟨⟨j6.1,h.2.2⟩,jK,by simp,by simp⟩
 ·split
  ·exact⟨a,b,j6⟩
  ·split
   ·exact⟨a,b,by simp,by simp⟩
   ·exact⟨a,b,c⟩
theorem Ry:∀(l:List (List Int)) (s:ih),uU s->(∀r∈l,gw r=0)->uU (l.foldl hk s)
 |[],_,av,_=>av
 |r::l,s,av,h=>Ry l _ (ali av (h r (by simp))) fun x aG=>h x (by simp[aG])
theorem xT(f:cp):uU (c5 f):=Ry _ _ ⟨by simp,by simp,by simp⟩ (BJ f).2
theorem aeH(b s r:Int):hB (oO b s r)=true/\(oO b s r).length<=2:=by
 unfold oO;split<;>exact⟨by simp[hB],by simp⟩
theorem q9{u:c1}(h:e4 u=0):dC u.f=0/\u.f.words.length=192/\0<=u.n/\u.n<=8/\0<=u.eG/\u.eG<=40:=by
 unfold e4 at h
 by_cases bp:dC u.f=0
 ·rw[if_pos bp]at h
  by_cases bc:u.f.words.length=192
  ·rw[if_pos bc]at h
   by_cases cq:u.n<0\/8<u.n\/u.eG<0\/40<u.eG
   ·rw[if_pos cq]at h;cases h
   ·exact⟨bp,bc,by omega,by omega,by omega,by omega⟩
  ·rw[if_neg bc]at h;cases h
 ·rw[if_neg bp]at h;exact absurd h bp
theorem ph{m:Message}(h:gd m=0):1<=m.kind/\m.kind<=7/\0<=m.unit/\m.unit<=3/\1<=m.n/\m.n<=8/\0<=m.at_/\m.at_<=40/\0<=m.image/\m.image<=60/\m.words.length<=8/\cC m.words=true:=by
 unfold gd at h
 by_cases c:m.kind<1\/7<m.kind\/m.unit<0\/4<=m.unit\/m.n<1\/8<m.n\/m.at_<0\/40<m.at_\/m.image<0\/60<m.image\/8<m.words.length
 ·rw[if_pos c]at h;cases h
 ·rw[if_neg c]at h
  by_cases bc:cC m.words=true
  ·exact⟨by omega,by omega,by omega,by omega,by omega,by omega,by omega,by omega,by omega,by omega,by omega,bc⟩
  ·rw[if_neg bc]at h;cases h
theorem Ae{u:c1}{f:cp}{e:Int}(h:(e8 u f e).2=true):e=0/\e8 u f e=(⟨f,u.up,u.n,u.eG⟩,true):=by
 unfold e8 at h |-
 by_cases c:e=0
 ·rw[if_pos c];exact⟨c,rfl⟩
 ·rw[if_neg c]at h;split at h<;>cases h
theorem aeB{f:cp}{s:Int}(h:(la f s).2.2=0):(la f s).1.length<=140737488355328:=by
 unfold la at h |-
 by_cases c:eX f s=0
 ·rw[if_pos c];have az:f.words.length=192:=by
   unfold eX at c
   by_cases bp:e9 f=0
   ·rw[if_pos bp]at c
    by_cases bc:f.words.length=192
    ·exact bc
    ·rw[if_neg bc]at c;cases c
   ·rw[if_neg bp]at c;exact absurd c bp
  unfold ni;split
  ·have:(aW f.words (kW s+4) (kW s+4+(f.words.getD (kW s) 0).toNat)).length<=f.words.length:=by unfold aW;rw[List.length_drop,List.length_take];omega
   exact Nat.le_trans this (by omega)
  ·simp
 ·rw[if_neg c];simp
theorem MV:∀(a b:List Message),a.length≠b.length->kS a b=false
 |[],[],h=>absurd rfl h
 |[],_::_,_=>rfl
 |_::_,[],_=>rfl
 |x::a,y::b,h=>by
  simp only[kS,MV a b (by simpa using h),Bool.and_false]
end bF
end Go.Proofs.YtlbppjmekiemiabGreatDoor

/- Plain laws: what a unit hears. No condition. -/
namespace Go.Proofs.YtlbppjmekiemiabGreatDoor
namespace bF

def zn(ws:List Int):ih:=hX (fA ws)
theorem xS{f:cp}(h:dC f=0):c5 f=zn f.words:=by unfold c5 zn;rw[W1 h]
def h2(f:cp):Prop:=dC f=0/\f.words.length=192
theorem EA{f:cp}(h:h2 f):-1<=f.fuel/\f.fuel<=100000/\cC f.words=true/\0<eZ f.words/\eZ f.words<=60000:=by
 obtain⟨I,_⟩:=h;obtain⟨bL,_,dm,e3⟩:=ow I;obtain⟨_,bc,cq,dq⟩:=jx bL;exact⟨bc,cq,dq,dm,e3⟩
theorem afv{f:cp}(az:f.words.length=192)(G:-1<=f.fuel)(Y:f.fuel<=100000)(aS:cC f.words=true)(bj:0<eZ f.words)(bK:eZ f.words<=60000):h2 f :=
 ⟨Dl (by rw[az];rfl) G Y aS (by omega) bj bK,az⟩
def lO(o:Nat)(g f:cp):Prop:=h2 g/\(∀i,i<64+64*o\/128+64*o<=i->g.words.getD i 0=f.words.getD i 0)/\(f.fuel=-1->g.fuel=-1)
theorem Gz{o:Nat}{f:cp}(h:h2 f):lO o f f:=⟨h,fun _ _=>rfl,id⟩
theorem Z2{o:Nat}{h g f:cp}(I:lO o h g)(G:lO o g f):lO o h f:=⟨I.1,fun i hi=>(I.2.1 i hi).trans (G.2.1 i hi),fun e=>I.2.2 (G.2.2 e)⟩
theorem xj{f:cp}{cs:List Change}(h:f.fuel=-1):cc f cs=(⟨dM f.words cs,-1⟩,true):=by
 obtain⟨ws,fu⟩:=f;simp only at h;subst h;exact Dp
theorem Gy{o:Nat}{f:cp}{cs:List Change}(h:h2 f)(aY:o<=1)(b8:within (64+64*o:Nat) (128+64*o:Nat) cs=true)(aA:cs.all vc=true):lO o (cc f cs).1 f:=by
 obtain⟨e0,fj,g2,pP,BA⟩:=EA h;have az:=tl f cs;have sC:=fun i hi=>QZ (a:=(64+64*o:Nat)) (b:=(128+64*o:Nat)) (by omega) f cs b8 i hi
 obtain⟨f1,f2⟩:=sa f cs e0 fj;obtain⟨k,bL,b0,_⟩:=Q0 f cs;have fW:cC (cc f cs).1.words=true:=by rw[b0];exact Gn _ _ g2 (O5 aA k)
 obtain⟨_,bf,_⟩:=Ti (xs:=(cc f cs).1.words) (ws:=f.words) az (fun i hi=>sC i (by omega));exact⟨afv (az.trans h.2) f1 f2 fW (by rw[bf];exact pP) (by rw[bf];exact BA),fun i hi=>sC i (by omega),fun e=>by rw[xj e]⟩
theorem Z1{o:Nat}{g f:cp}(h:lO o g f)(b6:h2 f):c5 g=c5 f:=by
 rw[xS h.1.1,xS b6.1];unfold zn;rw[(Ti (xs:=g.words) (ws:=f.words) (h.1.2.trans b6.2.symm) fun i hi=>h.2.1 i (by omega)).2.2]
def zJ(e:Int)(f:cp):Prop:=f.fuel=-1->e≠7
theorem Lh{f:cp}{cs:List Change}:zJ (gh (cc f cs)).2 f:=fun e=>by
 rw[xj e];show(ko true:Int)≠7;decide
theorem QR{o:Nat}{f:cp}(h:h2 f)(aY:o<=1)(bv:(hv f (o:Int)).2=0\/(hv f (o:Int)).2=7):lO o (hv f (o:Int)).1 f/\zJ (hv f (o:Int)).2 f:=by
 obtain⟨_,e⟩:=aax bv;rw[e];refine⟨Gy h aY ?_ ?_,Lh⟩
 ·unfold Ai eN;exact Cd (Ce _ _ _ _ (by omega) (by omega)) (Ce _ _ _ _ (by omega) (by omega))
 ·unfold Ai eN;rw[List.all_append,N1,N1];rfl
theorem abf{o:Nat}{f:cp}{a:Int}{l:List Int}(h:h2 f)(aY:o<=1)(bv:(fa f (o:Int) a l).2=0\/(fa f (o:Int) a l).2=7):lO o (fa f (o:Int) a l).1 f/\zJ (fa f (o:Int) a l).2 f:=by
 obtain⟨_,⟨dI,eD,a3⟩,e⟩:=abe bv;rw[e]at bv |-;obtain⟨_,_,_,_,_,_,i7⟩:=Lj bv;rw[Vj bv];exact⟨Gy h aY (s3 _ _ _ _ (by omega) (by omega)) (u7 _ _ i7),Lh⟩
theorem Xt{o:Nat}{f:cp}{n m:Int}(h:h2 f)(aY:o<=1)(bv:(gn f (o:Int) n m).2=0\/(gn f (o:Int) n m).2=7):lO o (gn f (o:Int) n m).1 f/\zJ (gn f (o:Int) n m).2 f:=by
 obtain⟨_,_,e⟩:=ajh bv;rw[e]at bv |-;obtain⟨_,_,_,_,_,_,i7⟩:=Lj bv;rw[Vj bv];exact⟨Gy h aY (s3 _ _ _ _ (by omega) (by simp only[gS,List.length_cons,List.length_nil];omega)) (u7 _ _ i7),Lh⟩
theorem aat{u:c1}(h:h2 u.f)(I:0<=u.n)(G:u.n<=8)(Y:0<=u.eG)(aS:u.eG<=40):e4 u=0:=by
 unfold e4;rw[if_pos h.1,if_pos h.2,if_neg (by omega)]
theorem UX{u:c1}(h:e4 u=0):h2 u.f:=⟨(q9 h).1,(q9 h).2.1⟩
def kc(u:c1):Prop:=(0<=u.n/\u.n<=8)/\0<=u.eG/\u.eG<=40
theorem ID{o:Nat}{u:c1}{g:cp}{e:Int}(hu:h2 u.f)(aA:kc u)(h:(e=0\/e=7)->lO o g u.f/\zJ e u.f) :
  lO o (e8 u g e).1.f u.f/\kc (e8 u g e).1/\(u.f.fuel=-1->(e8 u g e).2=false->(e8 u g e).1=u):=by
 unfold e8
 by_cases c:e=0
 ·rw[if_pos c];exact⟨(h (.inl c)).1,aA,fun _ h=>by cases h⟩
 ·rw[if_neg c]
  by_cases bc:e=7
  ·rw[if_pos bc];exact⟨(h (.inr bc)).1,⟨by simp,by simp⟩,fun b6 _=>absurd bc ((h (.inr bc)).2 b6)⟩
  ·rw[if_neg bc];exact⟨Gz hu,aA,fun _ _=>rfl⟩
theorem Ro{o:Nat}{u:c1}{s:ih}{m:Message}(hu:h2 u.f)(aA:kc u)(aY:o<=1)(av:1-s.slot=(o:Int)):lO o (po u s m).f u.f/\kc (po u s m):=by
 unfold po
 by_cases c:u.n≠m.n\/u.eG≠m.at_\/40<m.at_+m.words.length
 ·rw[if_pos c];exact⟨Gz hu,aA⟩
 ·rw[if_neg c];have ay:lO o (jz u s m).1.f u.f/\kc (jz u s m).1:=by
   unfold jz;rw[av];have:=ID (o:=o) (u:=u) (g:=(fa u.f (o:Int) m.at_ m.words).1) (e:=(fa u.f (o:Int) m.at_ m.words).2) hu aA (fun bv=>abf hu aY bv);exact⟨this.1,this.2.1⟩
  by_cases bc:(jz u s m).2=true
  ·rw[if_pos bc];have e:(jz u s m).1=⟨(fa u.f (1-s.slot) m.at_ m.words).1,u.up,u.n,u.eG⟩:=by rw[show jz u s m=_ from(Ae (u:=u) bc).2]
   refine⟨ay.1,?_⟩;rw[e];obtain⟨I,G,Y⟩:=aA;exact⟨I,by simp only;omega,by simp only;omega⟩
  ·rw[if_neg bc];exact ay
theorem agL{o:Nat}{u:c1}{s:ih}{m:Message}(hu:h2 u.f)(aA:kc u)(aB:1<=m.n/\m.n<=8)(aY:o<=1)(av:1-s.slot=(o:Int)):lO o (pQ u s m).f u.f/\kc (pQ u s m):=by
 unfold pQ
 by_cases c:0<s.ready\/m.n<=s.e2\/8<m.n
 ·rw[if_pos c];exact⟨Gz hu,aA⟩
 rw[if_neg c]
 by_cases bc:m.at_=0/\(u.n≠m.n\/u.eG=0)
 ·rw[if_pos bc];have ay:lO o (ij u s).1.f u.f/\kc (ij u s).1:=by
   unfold ij;rw[av];have:=ID (o:=o) (u:=u) (g:=(hv u.f (o:Int)).1) (e:=(hv u.f (o:Int)).2) hu aA (fun bv=>QR hu aY bv);exact⟨this.1,this.2.1⟩
  by_cases cq:(ij u s).2=true
  ·rw[if_pos cq];have:=Ro (u:=⟨(ij u s).1.f,(ij u s).1.up,m.n,0⟩) (s:=s) (m:=m) ay.1.1 ⟨⟨by simp only;omega,aB.2⟩,by simp,by simp⟩ aY av;exact⟨Z2 this.1 ay.1,this.2⟩
  ·rw[if_neg cq];exact ay
 ·rw[if_neg bc];exact Ro hu aA aY av
theorem aeI{s:ih}(h:uU s):hX (oO s.e2 s.slot s.ready)=s:=by
 obtain⟨⟨dI,eD⟩,_,bp,bc⟩:=h;obtain⟨uB,e2,WY⟩:=s;simp only at dI eD bp bc;unfold oO hX;have aN:∀t:ih,hk t [1,uB,e2]=⟨uB,e2,0⟩:=fun t=>if_pos ⟨rfl,rfl,eD⟩
 by_cases c:0<WY
 ·rw[if_pos c,List.foldl_cons,aN,List.foldl_cons,List.foldl_nil];unfold hk;rw[if_neg (by simp),if_pos ⟨rfl,rfl⟩];rfl
 ·rw[if_neg c,List.foldl_cons,aN,List.foldl_nil,show WY=0 by omega]
theorem UR{u:c1}{r:List Int}(hu:h2 u.f)(aA:kc u) :
  h2 (ff u r).1.f/\kc (ff u r).1/\(∀i,64<=i->(ff u r).1.f.words.getD i 0=u.f.words.getD i 0)/\(c5 (ff u r).1.f=c5 u.f\/c5 (ff u r).1.f=hk (c5 u.f) r) /\
  ((ff u r).2=true->c5 (ff u r).1.f=hk (c5 u.f) r/\(ff u r).1=⟨(ff u r).1.f,u.up,u.n,u.eG⟩) /\
  (u.f.fuel=-1->(ff u r).1.f.fuel=-1/\((ff u r).2=false->(ff u r).1=u)):=by
 unfold ff;obtain⟨b4,ae⟩:∃b4,oO (c5 u.f).e2 (c5 u.f).slot (c5 u.f).ready=b4:=⟨_,rfl⟩
 have rB:hX b4=c5 u.f:=by rw[<- ae];exact aeI (xT u.f)
 rw[ae]
 by_cases bv:(fE u.f r b4).2=0\/(fE u.f r b4).2=7
 ·obtain⟨cs,dI,eD,a3⟩:=O8 bv;obtain⟨e0,fj,_⟩:=EA hu;obtain⟨f1,f2⟩:=sa u.f cs e0 fj;obtain⟨jf,kf,ot,kx⟩:=Pa (ws:=u.f.words) (fu:=u.f.fuel) dI eD f1 f2;have bt:(fE u.f r b4).1=(cc u.f cs).1:=by rw[a3];rfl
  have c8:h2 (fE u.f r b4).1:=by rw[bt];exact⟨jf,kf.trans hu.2⟩
  have fL:∀k,fA (cc u.f cs).1.words=k->c5 (fE u.f r b4).1=hX k:=fun k e=>by rw[bt,xS jf];unfold zn;rw[<- e]
  have I:hX (fA u.f.words++[r])=hk (c5 u.f) r:=by rw[xS hu.1];unfold hX zn;rw[List.foldl_append];rfl
  have G:hX (b4++[r])=hk (c5 u.f) r:=by rw[<- rB];unfold hX;rw[List.foldl_append];rfl
  have sB:c5 (fE u.f r b4).1=hk (c5 u.f) r\/((cc u.f cs).2=false/\c5 (fE u.f r b4).1=c5 u.f):=by
   rcases kx with kx|kx|⟨kx,CE⟩
   ·exact .inl ((fL _ kx).trans I)
   ·exact .inl ((fL _ kx).trans G)
   ·exact .inr ⟨kx,by rw[fL _ CE,xS hu.1];rfl⟩
  have b8:∀i,64<=i->(fE u.f r b4).1.words.getD i 0=u.f.words.getD i 0:=fun i hi=>by rw[bt];exact ot i hi
  rcases bv with bv|bv
  ·have bH:(cc u.f cs).2=true:=by
    rw[a3]at bv;cases bH:(cc u.f cs).2 with
    |true=>rfl
    |false=>simp only[gh,bH,ko]at bv;omega
   have av:=sB.resolve_right (fun h=>by rw[bH]at h;cases h.1);unfold e8;rw[if_pos bv];refine⟨c8,aA,b8,.inr av,fun _=>⟨av,rfl⟩,fun oz=>⟨?_,fun h=>by cases h⟩⟩;rw[bt,xj oz]
  ·have aq:¬(fE u.f r b4).2=0:=by omega
   unfold e8;rw[if_neg aq,if_pos bv];refine⟨c8,⟨by simp,by simp⟩,b8,sB.elim .inr (fun h=>.inl h.2),(fun h=>by cases h),fun oz=>?_⟩;rw[a3,xj oz]at bv;exact absurd bv (show ¬(ko true:Int)=7 by decide)
 ·unfold e8;rw[if_neg (fun h=>bv (.inl h)),if_neg (fun h=>bv (.inr h))];exact⟨hu,aA,fun _ _=>rfl,.inl rfl,(fun h=>by cases h),fun oz=>⟨oz,fun _=>rfl⟩⟩
theorem R5{b:List (List UInt8)}{u:c1}{m:Message}(h:u.up=false):he b u m=(u,[]):=by
 unfold he;rw[if_neg (by rw[h];simp)]
theorem aco{b:List (List UInt8)}{u:c1}{m:Message}(I:m.kind≠1)(G:m.kind≠2)(aS:m.kind≠4)(bj:m.kind≠5):he b u m=(u,[]):=by
 unfold he
 by_cases hu:u.up=true
 ·rw[if_pos hu,if_neg I,if_neg G,if_neg (by omega)]
 ·rw[if_neg hu]
theorem aci{b:List (List UInt8)}{u:c1}{m:Message}(h:(h6 b u m).2=0):su b u m=0/\h6 b u m=(he b u m,0):=by
 unfold h6 at h |-
 by_cases c:su b u m=0
 ·rw[if_pos c];exact⟨c,rfl⟩
 ·rw[if_neg c]at h;exact absurd h c
theorem ach{b:List (List UInt8)}{u:c1}{m:Message}(I:fq b=0)(G:e4 u=0)(Y:gd m=0):h6 b u m=(he b u m,0):=by
 unfold h6 su;rw[if_pos I,if_pos G,if_pos Y]
end bF
end Go.Proofs.YtlbppjmekiemiabGreatDoor

/- Plain laws: what a unit hears, once and again. No condition. -/
namespace Go.Proofs.YtlbppjmekiemiabGreatDoor
namespace bF

theorem Vb{s:ih}(h:uU s):∃o:Nat,o<=1/\1-s.slot=(o:Int)/\s.slot=((1-o:Nat):Int):=by
 obtain⟨⟨I,G⟩,_⟩:=h
 by_cases c:s.slot=0
 ·exact⟨1,by omega,by omega,by omega⟩
 ·exact⟨0,by omega,by omega,by omega⟩
theorem UW{u:c1}(h:e4 u=0):kc u:=by
 obtain⟨_,_,a,b,c,d⟩:=q9 h;exact⟨⟨a,b⟩,c,d⟩
theorem QK{u:c1}(h:h2 u.f)(aA:kc u):e4 u=0:=aat h aA.1.1 aA.1.2 aA.2.1 aA.2.2
def Kept(u:c1)(x:c1):Prop:=h2 x.f/\kc x/\(c5 x.f).slot=(c5 u.f).slot/\(c5 x.f).e2=(c5 u.f).e2 /\
 ∀i,64+64*(c5 u.f).slot.toNat<=i->i<128+64*(c5 u.f).slot.toNat->x.f.words.getD i 0=u.f.words.getD i 0
theorem Kx{u x:c1}{o:Nat}(hu:h2 u.f)(av:(c5 u.f).slot=((1-o:Nat):Int))(aY:o<=1)(h:lO o x.f u.f)(aA:kc x):Kept u x:=by
 have e:=Z1 h hu;refine⟨h.1,aA,by rw[e],by rw[e],fun i I G=>h.2.1 i ?_⟩;rw[av]at I G;omega
theorem S7{u x:c1}{r:List Int}(aG:Kept u x)(aw:(hk (c5 x.f) r).slot=(c5 x.f).slot/\(hk (c5 x.f) r).e2=(c5 x.f).e2):Kept u (ff x r).1:=by
 obtain⟨bL,b0,dm,e3,h8⟩:=aG;obtain⟨gD,iN,jn,n4,_⟩:=UR (r:=r) bL b0;refine⟨gD,iN,?_,?_,fun i I G=>(jn i (by omega)).trans (h8 i I G)⟩
 ·rcases n4 with e|e
  ·rw[e];exact dm
  ·rw[e,aw.1];exact dm
 ·rcases n4 with e|e
  ·rw[e];exact e3
  ·rw[e,aw.2];exact e3
theorem aln(s:ih)(n:Int):hk s [2,n]=⟨s.slot,s.e2,n⟩:=by
 unfold hk;rw[if_neg (by simp),if_pos ⟨rfl,rfl⟩];rfl
theorem alm(s:ih)(n:Int):hk s [3,n]=⟨s.slot,s.e2,0⟩:=by
 unfold hk;rw[if_neg (by simp),if_neg (by simp),if_pos ⟨rfl,rfl⟩]
theorem alo(s:ih){o n:Int}(h:o<=1):hk s [1,o,n]=⟨o,n,0⟩:=if_pos ⟨rfl,rfl,h⟩
theorem abE(u:c1)(m:Message):(qp u m).1.f=u.f:=by unfold qp;split<;>rfl
theorem abD{u:c1}(h:kc u)(m:Message):kc (qp u m).1:=by
 unfold qp;split
 ·exact⟨by simp,by simp⟩
 ·exact h
theorem S6{u x:c1}{m:Message}(h:Kept u x):Kept u (qp x m).1:=by
 obtain⟨bL,b0,dm,e3,h8⟩:=h;have e:=abE x m;exact⟨by rw[e];exact bL,abD b0 m,by rw[e];exact dm,by rw[e];exact e3,by rw[e];exact h8⟩
theorem kept_refl{u:c1}(h:h2 u.f)(aA:kc u):Kept u u:=⟨h,aA,rfl,rfl,fun _ _ _=>rfl⟩
theorem acn{b:List (List UInt8)}{u:c1}{m:Message}(hu:h2 u.f)(aA:kc u)(aB:1<=m.n/\m.n<=8) :
  Kept u (he b u m).1\/(m.kind=4/\(c5 u.f).ready=m.n/\h2 (he b u m).1.f/\kc (he b u m).1/\c5 (he b u m).1.f=⟨1-(c5 u.f).slot,m.n,0⟩/\∀i,64<=i->(he b u m).1.f.words.getD i 0=u.f.words.getD i 0):=by
 have ae:=kept_refl hu aA;obtain⟨o,aY,av,oJ⟩:=Vb (xT u.f)
 by_cases tX:u.up=true
 case neg=>rw[R5 (by simpa using tX)];exact .inl ae
 unfold he;rw[if_pos tX]
 by_cases bL:m.kind=1
 ·rw[if_pos bL];obtain⟨e0,fj⟩:=agL (u:=u) (s:=c5 u.f) (m:=m) hu aA aB aY av;exact .inl (Kx hu oJ aY e0 fj)
 rw[if_neg bL]
 by_cases b0:m.kind=2
 ·rw[if_pos b0];refine .inl ?_;unfold pR
  by_cases bp:m.n<=(c5 u.f).e2
  ·rw[if_pos bp];exact ae
  rw[if_neg bp]
  by_cases bc:(c5 u.f).ready=m.n
  ·rw[if_pos bc];exact ae
  rw[if_neg bc]
  by_cases cq:0<(c5 u.f).ready
  ·rw[if_pos cq];exact ae
  rw[if_neg cq];split
  case isFalse=>exact ae
  split
  case isFalse=>exact ae
  have ay:=ID (o:=o) (u:=u) (g:=(gn u.f (1-(c5 u.f).slot) m.at_ m.image).1) (e:=(gn u.f (1-(c5 u.f).slot) m.at_ m.image).2) hu aA (fun bv=>by rw[av]at bv |-; exact Xt hu aY bv);have oF:lO o (l9 u (c5 u.f) m).1.f u.f:=ay.1;have vq:kc (l9 u (c5 u.f) m).1:=ay.2.1;split
  case isFalse=>exact Kx hu oJ aY oF vq
  have aG:Kept u ⟨(l9 u (c5 u.f) m).1.f,(l9 u (c5 u.f) m).1.up,0,0⟩:=Kx hu oJ aY oF ⟨by simp,by simp⟩;unfold BS;split
  case isFalse=>exact aG
  have aq:=S7 (r:=[2,m.n]) aG (by rw[aln];exact⟨rfl,rfl⟩);split<;>exact aq
 rw[if_neg b0]
 by_cases e3:m.kind=4\/m.kind=5
 case neg=>rw[if_neg e3];exact .inl ae
 rw[if_pos e3];unfold m7
 by_cases dq:m.kind=4
 ·rw[if_pos dq]
  by_cases bp:(c5 u.f).e2=m.n
  ·rw[if_pos bp];exact .inl ae
  rw[if_neg bp]
  by_cases bc:(c5 u.f).ready=m.n
  case neg=>rw[if_neg bc];exact .inl ae
  rw[if_pos bc];obtain⟨gD,iN,jn,n4,_⟩:=UR (u:=u) (r:=[1,1-(c5 u.f).slot,m.n]) hu aA;have key:Kept u (ff u [1,1-(c5 u.f).slot,m.n]).1\/(m.kind=4/\(c5 u.f).ready=m.n/\h2 (ff u [1,1-(c5 u.f).slot,m.n]).1.f/\kc (ff u [1,1-(c5 u.f).slot,m.n]).1/\c5 (ff u [1,1-(c5 u.f).slot,m.n]).1.f=⟨1-(c5 u.f).slot,m.n,0⟩/\∀i,64<=i->(ff u [1,1-(c5 u.f).slot,m.n]).1.f.words.getD i 0=u.f.words.getD i 0):=by
   rcases n4 with e|e
   ·exact .inl ⟨gD,iN,by rw[e],by rw[e],fun i I _=>jn i (by omega)⟩
   ·rw[alo _ (by omega)]at e;exact .inr ⟨dq,bc,gD,iN,e,jn⟩
  split<;>exact key
 ·rw[if_neg dq]
  by_cases bp:m.n<=(c5 u.f).e2
  ·rw[if_pos bp];exact .inl ae
  rw[if_neg bp]
  by_cases bc:(c5 u.f).ready=m.n
  ·rw[if_pos bc];have aq:=S7 (r:=[3,m.n]) ae (by rw[alm];exact⟨rfl,rfl⟩);split
   ·exact .inl (S6 aq)
   ·exact .inl aq
  ·rw[if_neg bc];exact .inl (S6 ae)
theorem acp{b:List (List UInt8)}{u:c1}{m:Message}(hu:e4 u=0)(aB:gd m=0):e4 (he b u m).1=0:=by
 obtain⟨_,_,_,_,fc,gJ,_⟩:=ph aB;rcases acn (b:=b) (UX hu) (UW hu) ⟨fc,gJ⟩with h|⟨_,_,I,G,_⟩
 ·exact QK h.1 h.2.1
 ·exact QK I G
theorem aik{u:c1}(h:e4 u=0):mT u=(c5 u.f,0):=by unfold mT;rw[if_pos h]
theorem Pr{u:c1}(h:e4 u=0):q6 u=(⟨⟨u.f.words,-1⟩,true,0,0⟩,0):=by unfold q6;rw[if_pos h]
end bF
end Go.Proofs.YtlbppjmekiemiabGreatDoor

/- Plain laws: what a unit hears twice; a unit that is ready. No condition. -/
namespace Go.Proofs.YtlbppjmekiemiabGreatDoor
namespace bF

theorem ai8(m:Message):oZ m m=true:=by simp[oZ,gx,h3,ar]
theorem Xk:∀l:List Message,kS l l=true
 |[]=>rfl
 |m::l=>by simp only[kS,ai8,Xk l,Bool.and_self]
theorem ajr(m:Message)(y:Bool):kT (me m y)=true:=by simp[kT,me]
theorem ajq(m:Message):kT (oy m)=true:=by simp[kT,oy]
theorem Z7{f:cp}{s n:Int}(b6:f.words.length=192)(av:0<=s/\s<=1)(h:(nC f s n).2=0):((nC f s n).1.length:Int)=n:=by
 unfold nC at h |-
 by_cases c:eX f s=0
 ·rw[if_pos c]at h |-
  by_cases bc:0<=n/\n<=40
  ·rw[if_pos bc];obtain⟨a,bl⟩:=Int.eq_ofNat_of_zero_le bc.1;obtain⟨t,bm⟩:=Int.eq_ofNat_of_zero_le av.1;simp only[aW,List.length_drop,List.length_take,b6];omega
  ·rw[if_neg bc]at h;cases h
 ·rw[if_neg c]at h;exact absurd h c
theorem R4{b:List (List UInt8)}{u:c1}{m:Message}(tX:u.up=true)(ae:m.kind=4\/m.kind=5):he b u m=m7 u (c5 u.f) m:=by
 unfold he;rw[if_pos tX,if_neg (by omega),if_neg (by omega),if_pos ae]
end bF
end Go.Proofs.YtlbppjmekiemiabGreatDoor

/- Plain laws: an image that comes in pieces. No condition. -/
namespace Go.Proofs.YtlbppjmekiemiabGreatDoor
namespace bF

def OT(ws image:List Int)(o k:Nat):Prop :=
 (∀i,64+64*o<=i->i<68+64*o->ws.getD i 0=65535)/\(∀i,i<k->ws.getD (68+64*o+i) 0=image.getD i 0)/\∀i,68+64*o+k<=i->i<128+64*o->ws.getD i 0=65535
theorem IH{f:cp}{o:Nat}(h:h2 f)(aY:o<=1):eX f (o:Int)=0:=by
 obtain⟨dI,eD,a3,_⟩:=EA h;exact Dm (ws:=f.words) (fu:=f.fuel) h.2 dI eD a3 aY
theorem K4{ws:List Int}(h:ws.length=192):kN ws.length=true:=by rw[h];rfl
theorem aji{g image:List Int}{o:Nat}{name:Int}(az:g.length=192)(aY:o<=1)(b8:cC g=true)(dd:OT g image o image.length)(hi:cC image=true)(I:1<=image.length)(G:image.length<=40)(Y:1<=name)(aS:name<=60) :
  gn ⟨g,-1⟩ (o:Int) (image.length:Int) name=(⟨dM g (cE (64+64*(o:Int)) (gS (image.length:Int) name)),-1⟩,0) /\
  la ⟨dM g (cE (64+64*(o:Int)) (gS (image.length:Int) name)),-1⟩ (o:Int)=(image,name,0):=by
 obtain⟨a1,bf,ck⟩:=dd;have pf:lI (image.length:Int) name=true:=by
  simp only[lI,Bool.and_eq_true,decide_eq_true_eq];omega
 have bH:cC (gS (image.length:Int) name)=true:=by
  simp only[gS,cC,eR,List.all_cons,List.all_nil,Bool.and_eq_true,decide_eq_true_eq,Bool.and_true];omega
 have lV:(gS (image.length:Int) name).length=4:=rfl;have th:eX ⟨g,-1⟩ (o:Int)=0:=Dm az (by omega) (by omega) b8 aY;refine⟨?_,?_⟩
 ·unfold gn;rw[if_pos th,if_pos pf,Lk (K4 az) (by simp) (by simp) b8 (by omega) (by simp only[az,lV];omega) bH,Dp];rfl
 have pD:∀i:Nat,(dM g (cE (64+64*(o:Int)) (gS (image.length:Int) name))).getD i 0=if 64+64*o<=i/\i<68+64*o then(gS (image.length:Int) name).getD (i-(64+64*o)) 0 else g.getD i 0:=fun i=>by
  rw[qf (gS (image.length:Int) name) _ g (by omega) (by rw[az,lV];omega) i,lV]
  by_cases c:64+64*o<=i/\i<68+64*o
  ·rw[if_pos (by omega),if_pos c,a1 i (by omega) (by omega),show(64+64*(o:Int)).toNat=64+64*o by omega,u1 (nn bH _ (by omega))]
  ·rw[if_neg (by omega),if_neg c]
 have fW:cC (dM g (cE (64+64*(o:Int)) (gS (image.length:Int) name)))=true:=GF (by omega) (by rw[az,lV];omega) b8 bH;have R9:(dM g (cE (64+64*(o:Int)) (gS (image.length:Int) name))).length=192:=(m5 _ _).trans az;obtain⟨h,dd⟩:∃x,dM g (cE (64+64*(o:Int)) (gS (image.length:Int) name))=x:=⟨_,rfl⟩
 rw[dd]at fW R9 pD |-;have c0:nt h (kW (o:Int))=true/\h.getD (64+64*o) 0=(image.length:Int)/\h.getD (64+64*o+1) 0=name:=by
  rw[Pn];have dU:=pD (64+64*o);have aN:=pD (64+64*o+1);have aX:=pD (64+64*o+2);have cS:=pD (64+64*o+3);rw[if_pos (by omega)]at dU aN aX cS;rw[show 64+64*o-(64+64*o)=0 by omega]at dU;rw[show 64+64*o+1-(64+64*o)=1 by omega]at aN;rw[show 64+64*o+2-(64+64*o)=2 by omega]at aX;rw[show 64+64*o+3-(64+64*o)=3 by omega]at cS;refine⟨?_,dU,aN⟩;unfold nt;rw[dU,aN,aX,cS];simp only[gS,List.getD_cons_zero,List.getD_cons_succ,pf,decide_true,Bool.true_and]
 unfold la;rw[if_pos (Dm R9 (by omega) (by omega) fW aY),if_pos c0.1];unfold ni;rw[if_pos c0.1,Pn,c0.2.1,c0.2.2,cM];have:aW h (64+64*o+4) (64+64*o+4+image.length)=image:=by
  have uB:(aW h (64+64*o+4) (64+64*o+4+image.length)).length=image.length:=by rw[ob _ _ _ (by omega)]
  refine tu uB fun i hi=>?_
  rw[uB]at hi;rw[oa _ _ _ _ (by omega),pD,if_neg (by omega),show 64+64*o+4+i=68+64*o+i by omega,bf i hi]
 rw[this]
end bF
end Go.Proofs.YtlbppjmekiemiabGreatDoor

/- Plain answers: a gateway. No condition. -/
namespace Go.Proofs.YtlbppjmekiemiabGreatDoor
namespace bF

structure ie where
 n:Int
 version:Int
 dv:Bool
 abort:Bool
 ended:Bool
def mQ:ie:=⟨0,0,false,false,false⟩
def gp(s:ie)(r:List Int):ie :=
 if r.getD 0 0=1/\r.length=3/\1<=r.getD 1 0/\r.getD 1 0<=8 then⟨r.getD 1 0,r.getD 2 0,false,false,false⟩
 else if r.length≠2\/r.getD 1 0≠s.n\/s.n=0 then s
 else if r.getD 0 0=2/\s.abort=false then⟨s.n,s.version,true,s.abort,s.ended⟩
 else if r.getD 0 0=3/\s.dv=false then⟨s.n,s.version,s.dv,true,s.ended⟩
 else if r.getD 0 0=4/\(s.dv=true\/s.abort=true)then⟨s.n,s.version,s.dv,s.abort,true⟩else s
def ja(l:List (List Int)):ie:=l.foldl gp mQ
def bN(f:cp):ie:=ja (kp f).1
def kK:Gate:=⟨mO,false,⟨⟨0,[],0⟩,0⟩,[],[]⟩
def dG(g:Gate):Int :=
 if dC g.f=0 then(if g.cH.length<1\/4<g.cH.length\/g.did.length≠g.cH.length then 4 else g5 g.t)else dC g.f
def kP(g:Gate):ie×Int:=if dG g=0 then(bN g.f,0)else(mQ,dG g)
def uf(r:jN)(units:Int):Gate:=⟨(ql (qJ 2).1).1,true,⟨r,0⟩,bZ units.toNat false,bZ units.toNat false⟩
def jo(r:jN)(units:Int):Gate×Int :=
 if units<1\/4<units then(kK,3)else if dG (uf r units)=0 then(uf r units,0)else(kK,dG (uf r units))
def mM(s:ie):List (List Int) :=
 if s.n=0 then []else [[1,s.n,s.version]]++(if s.dv=true then [[2,s.n]]else [])++(if s.abort=true then [[3,s.n]]else [])++(if s.ended=true then [[4,s.n]]else [])
def sl(g:Gate):Gate:=⟨g.f,g.up,g.t,bZ g.cH.length false,bZ g.did.length false⟩
def xc(g:Gate)(f:cp)(e:Int):Gate×Bool :=
 if e=0 then(⟨f,g.up,g.t,g.cH,g.did⟩,true)else if e=7 then(⟨f,false,g.t,bZ g.cH.length false,bZ g.did.length false⟩,false)else(g,false)
def dN(g:Gate)(r:List Int):Gate×Bool:=xc g (fE g.f r (mM (bN g.f))).1 (fE g.f r (mM (bN g.f))).2
def hY(g:Gate):Int:=if dG g=0 then(if g.up=true then 0 else 7)else dG g
def pe(g:Gate)(s:ie)(t:iT)(v:Int):Gate×Int :=
 if (dN g [1,s.n+1,v]).2=true then(⟨(dN g [1,s.n+1,v]).1.f,(dN g [1,s.n+1,v]).1.up,t,bZ g.cH.length false,bZ g.did.length false⟩,s.n+1)else((dN g [1,s.n+1,v]).1,0)
def q5(b:List (List UInt8))(l:List Signed)(g:Gate)(o:kb)(now:Int):Int :=
 if hY g=0 then(if 0<(bN g.f).n/\(bN g.f).ended=false then 12 else if (bN g.f).n=8 then 8 else(ha b l g.t o now g.cH.length).2)else hY g
def iU(b:List (List UInt8))(l:List Signed)(g:Gate)(o:kb)(now:Int):Gate×Int×Int :=
 if q5 b l g o now=0 then((pe g (bN g.f) (ha b l g.t o now g.cH.length).1 o.r.version).1,(pe g (bN g.f) (ha b l g.t o now g.cH.length).1 o.r.version).2,0)else(kK,0,q5 b l g o now)
def qm(g:Gate):Int:=if hY g=0 then(if (bN g.f).n=0\/(bN g.f).dv=true\/(bN g.f).abort=true then 12 else 0)else hY g
def ki(g:Gate):Gate×Int:=if qm g=0 then((dN g [3,(bN g.f).n]).1,0)else(kK,qm g)
def nY(s:ie)(n:Int):Int:=if s.dv=true/\s.n=n then 4 else 5
def rf(s:ie)(unit n:Int):Message:=⟨nY s n,unit,n,0,0,[],false⟩
def ur(unit n:Int)(w:List Int)(k:Nat):Message:=⟨1,unit,n,(k:Int),0,aW w k (min (k+8) w.length),false⟩
def jq(unit n:Int)(w:List Int):Nat->Nat->List Message
 |0,_=>[]
 |d+1,k=>if k<w.length then ur unit n w k::jq unit n w d (k+8)else []
def xl(g:Gate)(c:hr)(unit:Int):Int :=
 if hY g=0 then(if (bN g.f).n=0\/(bN g.f).ended=true then 12
  else if unit<0\/(g.cH.length:Int)<=unit\/c.n≠(bN g.f).n\/(c.cQ.length:Int)<=unit\/(c.r.targets.length:Int)<=unit then 5 else 0)else hY g
def xI(c:hr)(unit n:Int):List Message×Int :=
 if 40<(nth c.cQ unit.toNat []).length then([],2)
 else(jq unit n (nth c.cQ unit.toNat []) 6 0++[⟨2,unit,n,((nth c.cQ unit.toNat []).length:Int),(nth c.r.targets unit.toNat ⟨0,0,0⟩).image,[],false⟩],0)
def tm(g:Gate)(s:ie)(c:hr)(unit:Int):List Message×Int :=
 if s.dv=true\/s.abort=true then(if nth g.did unit.toNat false=true then([],0)else([rf s unit s.n],0))
 else if nth g.cH unit.toNat false=true then([],0)else xI c unit s.n
def hw(g:Gate)(c:hr)(unit:Int):List Message×Int:=if xl g c unit=0 then tm g (bN g.f) c unit else([],xl g c unit)
def xJ(x:Bool):Nat->List Bool->Int
 |_,[]=>-1
 |k,y::l=>if y=x then(k:Int)else xJ x (k+1) l
def hasB(x:Bool)(l:List Bool):Bool:=decide (0<=xJ x 0 l)
def p0(g:Gate)(u:Int):Gate:=⟨g.f,g.up,g.t,setAt g.cH u.toNat true,g.did⟩
def pk(g:Gate)(u:Int):Gate:=⟨g.f,g.up,g.t,g.cH,setAt g.did u.toNat true⟩
def s2(g:Gate)(s:ie)(u:Int):Gate:=if hasB false (p0 g u).cH=true then p0 g u else(dN (p0 g u) [2,s.n]).1
def sb(g:Gate)(s:ie)(u:Int):Gate:=if hasB false (pk g u).did=true then pk g u else(dN (pk g u) [4,s.n]).1
def g8(g:Gate)(s:ie)(m:Message):Gate×List Message :=
 if m.kind=3 then(if s.n≠m.n\/s.ended=true\/s.dv=true\/s.abort=true\/m.yes=false then(g,[])else(s2 g s m.unit,[]))
 else if m.kind=6 then(if s.n≠m.n\/s.ended=true\/(s.dv=false/\s.abort=false)then(g,[])else(sb g s m.unit,[]))
 else if m.kind=7 then(if s.n≠m.n\/s.ended=true\/s.dv=true\/s.abort=true then(g,[rf s m.unit m.n])else(g,[]))
 else(g,[])
def iJ(g:Gate)(m:Message):Gate×List Message:=if g.up=true then g8 g (bN g.f) m else(g,[])
def sv(g:Gate)(m:Message):Int:=if dG g=0 then(if m.unit<0\/(g.cH.length:Int)<=m.unit\/m.n<1\/8<m.n then 3 else 0)else dG g
def hS(g:Gate)(m:Message):(Gate×List Message)×Int:=if sv g m=0 then(iJ g m,0)else((kK,[]),sv g m)
def te(g:Gate):Gate×Int :=
 if dG g=0 then(⟨⟨g.f.words,-1⟩,true,g.t,bZ g.cH.length false,bZ g.did.length false⟩,0)else(kK,dG g)
def mx(a b:List Bool):Bool:=decide (a=b)
def BP(a b:Gate):Bool:=kR a.f b.f&&(h3 a.up b.up&&(BQ a.t b.t&&(mx a.cH b.cH&&mx a.did b.did)))
end bF
end Go.Proofs.YtlbppjmekiemiabGreatDoor

/- Plain laws: a gateway. No condition. -/
namespace Go.Proofs.YtlbppjmekiemiabGreatDoor
namespace bF

structure uT(s:ie):Prop where
 nj:0<=s.n
 oS:s.n<=8
 v0:0<=s.version
 v1:s.version<=65535
 one:s.dv=true->s.abort=true->False
 fin:s.ended=true->s.dv=true\/s.abort=true
 none:s.n=0->s=mQ
theorem afw:uT mQ:=⟨by simp[mQ],by simp[mQ],by simp[mQ],by simp[mQ],fun h=>by simp[mQ]at h,fun h=>by simp[mQ]at h,fun _=>rfl⟩
theorem alh{s:ie}{r:List Int}(av:uT s)(aw:gw r=0):uT (gp s r):=by
 obtain⟨_,_,hW⟩:=qg aw;have jK:=N2 hW 2;unfold gp;split
 ·rename_i h;exact⟨by simp only;omega,h.2.2.2,jK.1,jK.2,fun h=>(by cases h),fun h=>(by cases h),fun e=>(by simp only at e;omega)⟩
 ·split
  ·exact av
  ·rename_i I G;have aq:s.n≠0:=fun e=>G (.inr (.inr e))
   split
   ·rename_i h;exact⟨av.nj,av.oS,av.v0,av.v1,fun _ bl=>(by simp only at bl;rw[h.2]at bl;cases bl),fun _=>.inl rfl,fun e=>absurd e aq⟩
   ·split
    ·rename_i h;exact⟨av.nj,av.oS,av.v0,av.v1,fun bl _=>(by simp only at bl;rw[h.2]at bl;cases bl),fun _=>.inr rfl,fun e=>absurd e aq⟩
    ·split
     ·rename_i h;exact⟨av.nj,av.oS,av.v0,av.v1,av.one,fun _=>h.2,fun e=>absurd e aq⟩
     ·exact av
theorem Rw:∀(l:List (List Int)) (s:ie),uT s->(∀r∈l,gw r=0)->uT (l.foldl gp s)
 |[],_,av,_=>av
 |r::l,s,av,h=>Rw l _ (alh av (h r (by simp))) fun x aG=>h x (by simp[aG])
theorem rP(f:cp):uT (bN f):=Rw _ _ afw (BJ f).2
theorem alg{s:ie}{n v:Int}(I:1<=n)(dJ:n<=8):gp s [1,n,v]=⟨n,v,false,false,false⟩:=if_pos ⟨rfl,rfl,I,dJ⟩
theorem NJ{s:ie}(aq:s.n≠0)(bl:s.abort=false):gp s [2,s.n]=⟨s.n,s.version,true,s.abort,s.ended⟩:=by
 unfold gp;rw[if_neg (by simp),if_neg (by simpa using aq),if_pos ⟨rfl,bl⟩]
theorem YJ{s:ie}(aq:s.n≠0)(aA:s.dv=false):gp s [3,s.n]=⟨s.n,s.version,s.dv,true,s.ended⟩:=by
 unfold gp;rw[if_neg (by simp),if_neg (by simpa using aq),if_neg (by simp),if_pos ⟨rfl,aA⟩]
theorem NK{s:ie}(aq:s.n≠0)(aA:s.dv=true\/s.abort=true):gp s [4,s.n]=⟨s.n,s.version,s.dv,s.abort,true⟩:=by
 unfold gp;rw[if_neg (by simp),if_neg (by simpa using aq),if_neg (by simp),if_neg (by simp),if_pos ⟨rfl,aA⟩]
theorem aeJ{s:ie}(h:uT s):ja (mM s)=s:=by
 unfold mM
 by_cases c:s.n=0
 ·rw[if_pos c,h.none c];rfl
 rw[if_neg c];have Sh:1<=s.n:=by have:=h.nj;omega
 have dJ:=h.oS;have I:=h.one;have G:=h.fin;obtain⟨n,v,aay,ZC,I2⟩:=s;simp only at c Sh dJ I G |-;unfold ja;rw[List.foldl_append,List.foldl_append,List.foldl_append,List.foldl_cons,List.foldl_nil,alg Sh dJ];cases aay<;>cases ZC<;>cases I2
 ·rfl
 ·exact absurd (G rfl) (by simp)
 ·simp only[Bool.false_eq_true,if_false,if_true,List.foldl_nil,List.foldl_cons];exact YJ (s:=⟨n,v,false,false,false⟩) c rfl
 ·simp only[Bool.false_eq_true,if_false,if_true,List.foldl_nil,List.foldl_cons];rw[show gp ⟨n,v,false,false,false⟩ [3,n]=⟨n,v,false,true,false⟩from YJ (s:=⟨n,v,false,false,false⟩) c rfl];exact NK (s:=⟨n,v,false,true,false⟩) c (.inr rfl)
 ·simp only[Bool.false_eq_true,if_false,if_true,List.foldl_nil,List.foldl_cons];exact NJ (s:=⟨n,v,false,false,false⟩) c rfl
 ·simp only[Bool.false_eq_true,if_false,if_true,List.foldl_nil,List.foldl_cons];rw[show gp ⟨n,v,false,false,false⟩ [2,n]=⟨n,v,true,false,false⟩from NJ (s:=⟨n,v,false,false,false⟩) c rfl];exact NK (s:=⟨n,v,true,false,false⟩) c (.inl rfl)
 ·exact(I rfl rfl).elim
 ·exact(I rfl rfl).elim
theorem Ey{f:cp}(h:dC f=0):bN f=ja (fA f.words):=by unfold bN;rw[W1 h]
theorem rO{g:Gate}{r:List Int}(hu:dC g.f=0) :
  dC (dN g r).1.f=0/\(dN g r).1.t=g.t/\(dN g r).1.cH.length=g.cH.length/\(dN g r).1.did.length=g.did.length /\
  (bN (dN g r).1.f=bN g.f\/bN (dN g r).1.f=gp (bN g.f) r) /\
  ((dN g r).2=true->bN (dN g r).1.f=gp (bN g.f) r/\(dN g r).1=⟨(dN g r).1.f,g.up,g.t,g.cH,g.did⟩) /\
  (g.f.fuel=-1->(dN g r).1.f.fuel=-1/\((dN g r).2=false->(dN g r).1=g)):=by
 unfold dN;obtain⟨b4,ae⟩:∃b4,mM (bN g.f)=b4:=⟨_,rfl⟩
 have rB:ja b4=bN g.f:=by rw[<- ae];exact aeJ (rP g.f)
 rw[ae]
 by_cases bv:(fE g.f r b4).2=0\/(fE g.f r b4).2=7
 ·obtain⟨cs,dI,eD,a3⟩:=O8 bv;obtain⟨bL,_,_,_⟩:=ow hu;obtain⟨_,e0,fj,_⟩:=jx bL;obtain⟨f1,f2⟩:=sa g.f cs e0 fj;obtain⟨jf,kf,ot,kx⟩:=Pa (ws:=g.f.words) (fu:=g.f.fuel) dI eD f1 f2;have bt:(fE g.f r b4).1=(cc g.f cs).1:=by rw[a3];rfl
  have c8:dC (fE g.f r b4).1=0:=by rw[bt];exact jf
  have fL:∀k,fA (cc g.f cs).1.words=k->bN (fE g.f r b4).1=ja k:=fun k e=>by rw[bt,Ey jf,<- e]
  have I:ja (fA g.f.words++[r])=gp (bN g.f) r:=by rw[Ey hu];unfold ja;rw[List.foldl_append];rfl
  have G:ja (b4++[r])=gp (bN g.f) r:=by rw[<- rB];unfold ja;rw[List.foldl_append];rfl
  have sB:bN (fE g.f r b4).1=gp (bN g.f) r\/((cc g.f cs).2=false/\bN (fE g.f r b4).1=bN g.f):=by
   rcases kx with kx|kx|⟨kx,CE⟩
   ·exact .inl ((fL _ kx).trans I)
   ·exact .inl ((fL _ kx).trans G)
   ·exact .inr ⟨kx,by rw[fL _ CE,Ey hu]⟩
  rcases bv with bv|bv
  ·have bH:(cc g.f cs).2=true:=by
    rw[a3]at bv;cases bH:(cc g.f cs).2 with
    |true=>rfl
    |false=>simp only[gh,bH,ko]at bv;omega
   have av:=sB.resolve_right (fun h=>by rw[bH]at h;cases h.1);unfold xc;rw[if_pos bv];refine⟨c8,rfl,rfl,rfl,.inr av,fun _=>⟨av,rfl⟩,fun oz=>⟨?_,fun h=>by cases h⟩⟩;rw[bt,xj oz]
  ·have aq:¬(fE g.f r b4).2=0:=by omega
   unfold xc;rw[if_neg aq,if_pos bv];refine⟨c8,rfl,by simp[bZ],by simp[bZ],sB.elim .inr (fun h=>.inl h.2),(fun h=>by cases h),fun oz=>?_⟩;rw[a3,xj oz]at bv;exact absurd bv (show ¬(ko true:Int)=7 by decide)
 ·unfold xc;rw[if_neg (fun h=>bv (.inl h)),if_neg (fun h=>bv (.inr h))];exact⟨hu,rfl,rfl,rfl,.inl rfl,(fun h=>by cases h),fun oz=>⟨oz,fun _=>rfl⟩⟩
theorem iH{g:Gate}(h:dG g=0):dC g.f=0/\1<=g.cH.length/\g.cH.length<=4/\g.did.length=g.cH.length/\g5 g.t=0:=by
 unfold dG at h
 by_cases bp:dC g.f=0
 ·rw[if_pos bp]at h
  by_cases bc:g.cH.length<1\/4<g.cH.length\/g.did.length≠g.cH.length
  ·rw[if_pos bc]at h;cases h
  ·rw[if_neg bc]at h;exact⟨bp,by omega,by omega,by omega,h⟩
 ·rw[if_neg bp]at h;exact absurd h bp
theorem Dj{g:Gate}(I:dC g.f=0)(G:1<=g.cH.length)(Y:g.cH.length<=4)(aS:g.did.length=g.cH.length)(bj:g5 g.t=0):dG g=0:=by
 unfold dG;rw[if_pos I,if_neg (by omega),bj]
theorem IE{g x:Gate}(h:dG g=0)(I:dC x.f=0)(G:x.t=g.t)(Y:x.cH.length=g.cH.length)(aS:x.did.length=g.did.length):dG x=0:=by
 obtain⟨_,a,b,c,d⟩:=iH h;exact Dj I (by omega) (by omega) (by omega) (by rw[G];exact d)
theorem Dk{g:Gate}{r:List Int}(h:dG g=0):dG (dN g r).1=0:=by
 obtain⟨gD,iN,jn,n4,_⟩:=rO (r:=r) (iH h).1;exact IE h gD iN jn n4
theorem uA{α:Type}(l:List α)(i:Nat)(x:α):(setAt l i x).length=l.length:=by simp[setAt]
theorem QH{g:Gate}{u:Int}(h:dG g=0):dG (p0 g u)=0:=IE h (iH h).1 rfl (uA _ _ _) rfl
theorem QF{g:Gate}{u:Int}(h:dG g=0):dG (pk g u)=0:=IE h (iH h).1 rfl rfl (uA _ _ _)
theorem acm{g:Gate}{m:Message}(h:dG g=0)(aB:1<=m.n):dG (iJ g m).1=0 /\
  (bN (iJ g m).1.f=bN g.f \/
   (m.kind=3/\m.yes=true/\m.n=(bN g.f).n/\(bN g.f).ended=false/\(bN g.f).dv=false/\(bN g.f).abort=false/\hasB false (setAt g.cH m.unit.toNat true)=false /\
    bN (iJ g m).1.f=⟨(bN g.f).n,(bN g.f).version,true,(bN g.f).abort,(bN g.f).ended⟩) \/
   (m.kind=6/\m.n=(bN g.f).n/\((bN g.f).dv=true\/(bN g.f).abort=true)/\bN (iJ g m).1.f=⟨(bN g.f).n,(bN g.f).version,(bN g.f).dv,(bN g.f).abort,true⟩)):=by
 unfold iJ
 by_cases ei:g.up=true
 case neg=>rw[if_neg ei];exact⟨h,.inl rfl⟩
 rw[if_pos ei];unfold g8
 by_cases dm:m.kind=3
 ·rw[if_pos dm]
  by_cases c:(bN g.f).n≠m.n\/(bN g.f).ended=true\/(bN g.f).dv=true\/(bN g.f).abort=true\/m.yes=false
  ·rw[if_pos c];exact⟨h,.inl rfl⟩
  ·rw[if_neg c];simp only[not_or,Bool.not_eq_true,ne_eq,Decidable.not_not,Bool.not_eq_false]at c;obtain⟨bp,bc,cq,dq,hE⟩:=c;unfold s2;have aR:=QH (u:=m.unit) h
   by_cases xb:hasB false (p0 g m.unit).cH=true
   ·rw[if_pos xb];exact⟨aR,.inl rfl⟩
   ·rw[if_neg xb];obtain⟨_,_,_,_,KV,_⟩:=rO (r:=[2,(bN g.f).n]) (iH aR).1;refine⟨Dk aR,KV.elim .inl (fun e=>.inr (.inl ⟨dm,hE,bp.symm,bc,cq,dq,Bool.eq_false_iff.2 xb,?_⟩))⟩;rw[e];exact NJ (s:=bN g.f) (by omega) dq
 rw[if_neg dm]
 by_cases jF:m.kind=6
 ·rw[if_pos jF]
  by_cases c:(bN g.f).n≠m.n\/(bN g.f).ended=true\/((bN g.f).dv=false/\(bN g.f).abort=false)
  ·rw[if_pos c];exact⟨h,.inl rfl⟩
  ·rw[if_neg c];simp only[not_or,Bool.not_eq_true,ne_eq,Decidable.not_not]at c;obtain⟨bp,bc,cq⟩:=c;have Pv:(bN g.f).dv=true\/(bN g.f).abort=true:=by
    cases sr:(bN g.f).dv<;>cases AF:(bN g.f).abort<;>simp_all
   unfold sb;have aR:=QF (u:=m.unit) h
   by_cases xb:hasB false (pk g m.unit).did=true
   ·rw[if_pos xb];exact⟨aR,.inl rfl⟩
   ·rw[if_neg xb];obtain⟨_,_,_,_,KV,_⟩:=rO (r:=[4,(bN g.f).n]) (iH aR).1;refine⟨Dk aR,KV.elim .inl (fun e=>.inr (.inr ⟨jF,bp.symm,Pv,?_⟩))⟩;rw[e];exact NK (s:=bN g.f) (by omega) Pv
 rw[if_neg jF]
 by_cases l1:m.kind=7
 ·rw[if_pos l1];split<;>exact⟨h,.inl rfl⟩
 ·rw[if_neg l1];exact⟨h,.inl rfl⟩
theorem S5(s:ie):hB (mM s)=true/\(mM s).length<=4:=by
 unfold mM;split
 ·exact⟨rfl,by simp⟩
 ·split<;>split<;>split<;>exact⟨by simp[hB],by simp⟩
theorem r7{ws:List Int}{fu:Int}{up:Bool}{al:Int}{ah:List Int}{ak aj:Int}{aa ab:List Bool}(h:dG ⟨⟨ws,fu⟩,up,⟨⟨al,ah,ak⟩,aj⟩,aa,ab⟩=0) :
  len ws*8<=140737488355328/\len ah*8<=140737488355328/\len aa<=1000/\len ab<=1000:=by
 obtain⟨I,_,Y,aS,bj⟩:=iH h;simp only at I Y aS bj;obtain⟨bL,_⟩:=ow I;obtain⟨bp,_⟩:=jx bL;have bK:=rQ bp;have c4:=(q8 (Ah bj).2.2).2.2.2.2.1;simp only[len]at *
 try simp only at bK c4
 omega
theorem QG{g:Gate}(h:dG g=0):len g.f.words*8<=140737488355328/\len g.t.r.keys*8<=140737488355328/\len g.cH<=1000/\len g.did<=1000:=by
 obtain⟨⟨ws,fu⟩,up,⟨⟨al,ah,ak⟩,aj⟩,aa,ab⟩:=g;exact r7 h
theorem R3{g:Gate}{m:Message}(h:dG g=0):(iJ g m).1.cH.length=g.cH.length/\(iJ g m).2.length<=1/\kT (iJ g m).2=true:=by
 unfold iJ
 by_cases ei:g.up=true
 case neg=>rw[if_neg ei];exact⟨rfl,by simp,rfl⟩
 rw[if_pos ei];unfold g8;have aR:=QH (u:=m.unit) h;have bH:=QF (u:=m.unit) h;split
 ·split
  ·exact⟨rfl,by simp,rfl⟩
  ·refine⟨?_,by simp,rfl⟩;simp only[s2];split
   ·exact uA _ _ _
   ·obtain⟨_,_,jn,_⟩:=rO (r:=[2,(bN g.f).n]) (iH aR).1;exact jn.trans (uA _ _ _)
 ·split
  ·split
   ·exact⟨rfl,by simp,rfl⟩
   ·refine⟨?_,by simp,rfl⟩;simp only[sb];split
    ·rfl
    ·obtain⟨_,_,jn,_⟩:=rO (r:=[4,(bN g.f).n]) (iH bH).1;exact jn
  ·split
   ·split<;>exact⟨rfl,by simp,by simp[kT,rf]⟩
   ·exact⟨rfl,by simp,rfl⟩
theorem wE{g:Gate}(h:hY g=0):dG g=0:=by
 unfold hY at h
 by_cases c:dG g=0
 ·exact c
 ·rw[if_neg c]at h;exact absurd h c
theorem ace{g:Gate}{m:Message}(h:(hS g m).2=0):dG g=0/\(0<=m.unit/\m.unit<g.cH.length/\1<=m.n/\m.n<=8)/\hS g m=(iJ g m,0):=by
 unfold hS at h |-
 by_cases c:sv g m=0
 ·rw[if_pos c];unfold sv at c
  by_cases bp:dG g=0
  ·rw[if_pos bp]at c
   by_cases bc:m.unit<0\/(g.cH.length:Int)<=m.unit\/m.n<1\/8<m.n
   ·rw[if_pos bc]at c;cases c
   ·exact⟨bp,by omega,rfl⟩
  ·rw[if_neg bp]at c;exact absurd c bp
 ·rw[if_neg c]at h;exact absurd h c
theorem R0{g:Gate}{m:Message}(h:dG g=0)(I:0<=m.unit/\m.unit<g.cH.length/\1<=m.n/\m.n<=8):hS g m=(iJ g m,0):=by
 unfold hS sv;rw[if_pos (by rw[if_pos h,if_neg (by omega)])]
theorem E4{g:Gate}(h:dG g=0):kP g=(bN g.f,0):=by unfold kP;rw[if_pos h]
theorem abA{g:Gate}(h:(ki g).2=0):dG g=0/\(bN g.f).n≠0/\(bN g.f).dv=false/\(bN g.f).abort=false/\ki g=((dN g [3,(bN g.f).n]).1,0):=by
 unfold ki at h |-
 by_cases c:qm g=0
 ·rw[if_pos c];unfold qm hY at c
  by_cases bp:dG g=0
  ·rw[if_pos bp]at c
   by_cases bc:g.up=true
   ·rw[if_pos bc,if_pos rfl]at c
    by_cases cq:(bN g.f).n=0\/(bN g.f).dv=true\/(bN g.f).abort=true
    ·rw[if_pos cq]at c;cases c
    ·simp only[not_or,Bool.not_eq_true]at cq;exact⟨bp,cq.1,cq.2.1,cq.2.2,rfl⟩
   ·rw[if_neg bc,if_neg (by decide)]at c;cases c
  ·rw[if_neg bp,if_neg bp]at c;exact absurd c bp
 ·rw[if_neg c]at h;exact absurd h c
theorem Pq{g:Gate}(h:dG g=0):te g=(⟨⟨g.f.words,-1⟩,true,g.t,bZ g.cH.length false,bZ g.did.length false⟩,0):=by unfold te;rw[if_pos h]
theorem aal{f:cp}(h:dC f=0):dC ⟨f.words,-1⟩=0:=by
 obtain⟨bL,b0,dm,e3⟩:=ow h;obtain⟨bp,_,_,dq⟩:=jx bL;exact Dl bp (by simp) (by simp) dq b0 dm e3
end bF
end Go.Proofs.YtlbppjmekiemiabGreatDoor

/- Plain laws: what is due. No condition. -/
namespace Go.Proofs.YtlbppjmekiemiabGreatDoor
namespace bF

theorem aaL{g:Gate}{c:hr}{u:Int}(h:(hw g c u).2=0):dG g=0/\(bN g.f).n≠0/\(bN g.f).ended=false/\0<=u/\u<g.cH.length/\c.n=(bN g.f).n/\u<c.cQ.length/\u<c.r.targets.length/\hw g c u=tm g (bN g.f) c u:=by
 unfold hw at h |-
 by_cases e:xl g c u=0
 ·rw[if_pos e];unfold xl at e
  by_cases aN:hY g=0
  ·rw[if_pos aN]at e
   by_cases aX:(bN g.f).n=0\/(bN g.f).ended=true
   ·rw[if_pos aX]at e;cases e
   ·rw[if_neg aX]at e
    by_cases cS:u<0\/(g.cH.length:Int)<=u\/c.n≠(bN g.f).n\/(c.cQ.length:Int)<=u\/(c.r.targets.length:Int)<=u
    ·rw[if_pos cS]at e;cases e
    ·simp only[not_or,Bool.not_eq_true]at aX;exact⟨wE aN,aX.1,aX.2,by omega,by omega,by omega,by omega,by omega,rfl⟩
  ·rw[if_neg aN]at e;exact absurd e aN
 ·rw[if_neg e]at h;exact absurd h e
end bF
end Go.Proofs.YtlbppjmekiemiabGreatDoor

/- Plain answers: the document's unit. No condition. -/
namespace Go.Proofs.YtlbppjmekiemiabGreatDoor
namespace bF

def iy(s:Bool)(e:Int):Bool:=s || !ar e 0
def vU(u:c1)(r:List Int):Int:=(fE u.f r (oO (c5 u.f).e2 (c5 u.f).slot (c5 u.f).ready)).2
theorem B2(u:c1)(s:Bool)(f:cp)(e:Int):iy s e=(s || !(e8 u f e).2):=by
 unfold iy e8
 by_cases h:e=0
 ·subst h;rfl
 ·rw[if_neg h];have:ar e 0=false:=decide_eq_false h;rw[this]
  by_cases c4:e=7
  ·rw[if_pos c4]
  ·rw[if_neg c4]
theorem NM(u:c1)(s:Bool)(r:List Int):iy s (vU u r)=(s || !(ff u r).2):=B2 u s _ _
def pd(s:Bool)(u n k:Int)(y:Bool):List Message:=match s with|true=>[] | false=>[⟨k,u,n,0,0,[],y⟩]
theorem aab{p q:Bool}{C gE:Prop}(eC:(p=true->q=true)->C)(c8:p=true->q=false->gE):J p (J q C gE) C:=by
 cases p
 ·exact eC (by simp)
 ·cases q
  ·exact c8 rfl rfl
  ·exact eC (by simp)
theorem Z9{v:Bool}{hp B Zp B':Prop}(k6:v=true->hp)(bA:v=false->B'):J v (J v hp B) (J v Zp B'):=by
 cases v
 ·exact bA rfl
 ·exact k6 rfl
theorem Rp{u:c1}{s:ih}{m:Message}{K:c1×List Message->Prop}{st:Bool}{c:Prop}(fL:st=!(jz u s m).2)(aA:u.n=m.n->u.eG=m.at_->c)(aB:0<=m.at_/\m.at_<=40/\m.words.length<=8)(D:K (po u s m,[])) :
  J (ar u.n m.n) (J (ar u.eG m.at_) (J (dh (U (m.at_+((len m.words:Nat):Int))) 40) (c/\J (!st) (K (⟨(jz u s m).1.f,(jz u s m).1.up,(jz u s m).1.n,U (m.at_+((len m.words:Nat):Int))⟩,[])) (K ((jz u s m).1,[]))) (K (u,[]))) (K (u,[]))) (K (u,[])):=by
 subst fL;unfold po at D;rw[cb (by simp only[len];omega) (by simp only[len];omega)];refine cI (fun h=>cI (fun G=>b3 (fun Y=>⟨aA h G,?_⟩) (fun Y=>?_)) (fun G=>?_)) (fun h=>?_)
 ·rw[fY]at Y;rw[if_neg (by simp only[len]at Y;omega)]at D;refine ew (fun g=>?_) (fun g=>?_)
  ·have RF:(jz u s m).2=true:=by simpa using g
   rw[if_pos RF]at D;have:=(Ae (u:=u) RF).2;have e:(jz u s m).1.eG=m.at_:=by
    have aX:jz u s m=_:=this;rw[aX];exact G
   rw[e]at D;exact D
  ·rw[if_neg (by simpa using g)]at D;exact D
 ·rw[eL]at Y;rw[if_pos (by simp only[len]at Y;omega)]at D;exact D
 ·rw[if_pos (.inr (.inl G))]at D;exact D
 ·rw[if_pos (.inl h)]at D;exact D
end bF
end Go.Proofs.YtlbppjmekiemiabGreatDoor

/- Plain laws: the factory's unit, the document's. No condition. -/
namespace Go.Proofs.YtlbppjmekiemiabGreatDoor
namespace bF

theorem Ll(l:List Int)(a i:Nat)(m:List Int)(h:a+m.length<=l.length):(put l a m).getD i 0=if a<=i/\i<a+m.length then m.getD (i-a) 0 else l.getD i 0:=by
 unfold put;rw[DM,DM];simp only[List.length_append,List.length_take];rw[show min a l.length=a by omega]
 by_cases bp:i<a
 ·rw[if_pos (by omega),if_pos bp,if_neg (by omega)];simp[List.getD_eq_getElem?_getD,List.getElem?_take,bp]
 ·by_cases bc:i<a+m.length
  ·rw[if_pos bc,if_neg bp,if_pos (by omega)]
  ·rw[if_neg bc,if_neg (by omega),rh];congr 1;omega
theorem vZ(l:List Int)(a:Nat)(m:List Int)(h:a+m.length<=l.length):(put l a m).length=l.length:=by
 unfold put;simp only[List.length_append,List.length_take,List.length_drop];omega
theorem M2{α:Type}(X:List α)(n:Nat)(h:len X<=n):aW X 0 (min n (len X))=X:=by
 rw[Fj,Nat.min_eq_right h];exact List.take_length
def lC:List Int:=setAt (bZ 192 65535) 0 1
theorem so:lC.length=192:=by
 unfold lC setAt bZ;rw[List.length_set,List.length_replicate]
theorem RC(i:Nat)(h:i<192):lC.getD i 0=if i=0 then 1 else 65535:=by
 unfold lC setAt;rw[zi];unfold bZ;rw[List.length_replicate]
 by_cases c:i=0
 ·rw[if_pos ⟨c,by omega⟩,if_pos c]
 ·rw[if_neg (by omega),if_neg c];rw[List.getD_eq_getElem?_getD,List.getElem?_replicate,if_pos h];rfl
def ug(l:List Int)(name:Int):List Int:=put (put (put lC 1 [42243,1,0,0]) 64 (gS l.length name)) 68 l
theorem UE(l:List Int)(name:Int)(h:l.length<=40):(ug l name).length=192:=by
 have dI:(put lC 1 [42243,1,0,0]).length=192:=by rw[vZ _ _ _ (by rw[so];simp),so]
 have eD:(put (put lC 1 [42243,1,0,0]) 64 (gS l.length name)).length=192:=by rw[vZ _ _ _ (by rw[dI];simp[gS]),dI]
 unfold ug;rw[vZ _ _ _ (by rw[eD];omega),eD]
theorem ae5(l:List Int)(name:Int)(h:l.length<=40)(i:Nat)(hi:i<192):(ug l name).getD i 0 =
  if 68<=i/\i<68+l.length then l.getD (i-68) 0 else if 64<=i/\i<68 then(gS l.length name).getD (i-64) 0 else if 1<=i/\i<5 then [42243,1,0,0].getD (i-1) 0 else if i=0 then 1 else 65535:=by
 have dI:(put lC 1 [42243,1,0,0]).length=192:=by rw[vZ _ _ _ (by rw[so];simp),so]
 have eD:(put (put lC 1 [42243,1,0,0]) 64 (gS l.length name)).length=192:=by rw[vZ _ _ _ (by rw[dI];simp[gS]),dI]
 unfold ug;rw[Ll _ _ _ _ (by rw[eD];omega),Ll _ _ _ _ (by rw[dI];simp[gS]),Ll _ _ _ _ (by rw[so];simp),RC i hi];rfl
theorem abm:(ql (qJ 6).1).1=⟨lC,-1⟩:=by kernel_rfl
theorem abq:cC lC=true:=by kernel_rfl
theorem ajg:e6 32 (List.replicate 31 65535)=([],some 0):=by kernel_rfl
theorem KZ{l:List Int}{name:Int}(hi:fv l=0)(gD:1<=name)(iN:name<=60):lH l name=(⟨⟨ug l name,-1⟩,true,0,0⟩,0):=by
 obtain⟨i1,i2,i3⟩:=r8 hi;have Aq:=abm;have nJ:=so;have DJ:=abq;have vj:=RC;obtain⟨gE,c8⟩:∃gE,lC=gE:=⟨_,rfl⟩
 rw[c8]at Aq nJ DJ vj;have th:eX ⟨gE,-1⟩ ((0:Nat):Int)=0:=Dm nJ (by omega) (by omega) DJ (by omega);have Rm:fa ⟨gE,-1⟩ 0 0 l=(⟨dM gE (cE 68 l),-1⟩,0):=by
  unfold fa;rw[show eX ⟨gE,-1⟩ 0=0 from th,if_pos rfl,if_pos (by omega),show(68:Int)+64*0+0=68 by omega,Lk (K4 nJ) (by simp) (by simp) DJ (by omega) (by simp only[nJ];omega) i3,Dp];rfl
 have Ax:∀i:Nat,i<192->(dM gE (cE 68 l)).getD i 0=if 68<=i/\i<68+l.length then l.getD (i-68) 0 else if i=0 then 1 else 65535:=fun i hi=>by
  rw[qf l 68 gE (by omega) (by rw[nJ];omega) i,vj i hi]
  by_cases c:68<=i/\i<68+l.length
  ·rw[if_pos (by omega),if_pos c,if_neg (by omega),show(68:Int).toNat=68 from rfl,u1 (nn i3 _ (by omega))]
  ·rw[if_neg (by omega),if_neg c]
 have Jv:cC (dM gE (cE 68 l))=true:=GF (by omega) (by rw[nJ];omega) DJ i3;have Ay:(dM gE (cE 68 l)).length=192:=(m5 _ _).trans nJ;obtain⟨g,bt⟩:∃g,dM gE (cE 68 l)=g:=⟨_,rfl⟩
 rw[bt]at Rm Ax Jv Ay;have dd:OT g l 0 l.length:=by
  refine⟨fun i I G=>?_,fun i I=>?_,fun i I G=>?_⟩
  ·rw[Ax i (by omega),if_neg (by omega),if_neg (by omega)]
  ·rw[Ax _ (by omega),if_pos (by omega),show 68+64*0+i-68=i by omega]
  ·rw[Ax i (by omega),if_neg (by omega),if_neg (by omega)]
 obtain⟨Xs,_⟩:=aji (name:=name) Ay (by omega) Jv dd i3 i1 i2 gD iN;have bH:cC (gS (l.length:Int) name)=true:=by
  simp only[gS,cC,eR,List.all_cons,List.all_nil,Bool.and_eq_true,decide_eq_true_eq,Bool.and_true];omega
 have lV:(gS (l.length:Int) name).length=4:=rfl;have pD:∀i:Nat,i<192->(dM g (cE (64+64*((0:Nat):Int)) (gS (l.length:Int) name))).getD i 0=if 68<=i/\i<68+l.length then l.getD (i-68) 0 else if 64<=i/\i<68 then(gS l.length name).getD (i-64) 0 else if i=0 then 1 else 65535:=fun i hi=>by
  rw[qf (gS (l.length:Int) name) _ g (by omega) (by rw[Ay,lV];omega) i,lV,Ax i hi]
  by_cases c:64<=i/\i<68
  ·rw[if_pos (by omega),if_neg (by omega),if_neg (by omega),if_neg (by omega),if_pos c,show(64+64*((0:Nat):Int)).toNat=64 by omega,u1 (nn bH _ (by rw[lV];omega))]
  ·rw[if_neg (by omega),if_neg c]
 have RQ:cC (dM g (cE (64+64*((0:Nat):Int)) (gS (l.length:Int) name)))=true:=GF (by omega) (by rw[Ay,lV];omega) Jv bH;have DQ:(dM g (cE (64+64*((0:Nat):Int)) (gS (l.length:Int) name))).length=192:=(m5 _ _).trans Ay;obtain⟨h,acz⟩:∃h,dM g (cE (64+64*((0:Nat):Int)) (gS (l.length:Int) name))=h:=⟨_,rfl⟩
 rw[acz]at Xs pD RQ DQ;have aa7:xp l name=(⟨h,-1⟩,0):=by
  unfold xp;rw[Aq,Rm];exact Xs
 have w0:h.getD 0 0=1:=by rw[pD 0 (by omega)];simp
 have j6:h.getD 32 0=65535:=by rw[pD 32 (by omega),if_neg (by omega),if_neg (by omega),if_neg (by omega)]
 have RJ:eU h 0=1:=by unfold eU;rw[w0];rfl
 have abB:eU h 1=0:=by unfold eU;rw[show 32*1=32 from rfl,j6];rfl
 have Er:eg h=0:=by unfold eg;rw[RJ,abB];rfl
 have anw:eZ h=1:=by unfold eZ;rw[Er,RJ]
 have aje:ib h 0=([],some 0):=by
  have:(nu h 0).drop 1=List.replicate 31 65535:=by
   have uB:((nu h 0).drop 1).length=31:=by unfold nu;rw[List.length_drop,ob _ _ _ (by omega)]
   refine tu (by rw[uB,List.length_replicate]) fun i hi=>?_
   rw[uB]at hi;rw[rh];unfold nu;rw[oa _ _ _ _ (by omega),pD _ (by omega),if_neg (by omega),if_neg (by omega),if_neg (by omega)];rw[List.getD_eq_getElem?_getD,List.getElem?_replicate,if_pos hi];rfl
  unfold ib;rw[this];exact ajg
 have ac:qe h [1,0,0] []=some (cE 2 [1,0,0]++cE 1 [42243]):=by
  unfold qe;rw[Er,aje];rfl
 have aau:dC ⟨h,-1⟩=0:=Dl (K4 DQ) (by omega) (by omega) RQ (by omega) (by omega) (by omega);have ZE:kv ⟨h,-1⟩ [1,0,0] []=0:=by
  unfold kv;rw[if_pos aau,if_pos (by rfl)];rfl
 have app:fE ⟨h,-1⟩ [1,0,0] []=(⟨ug l name,-1⟩,0):=by
  rw[ZL ZE ac,Dp];have:dM h (cE 2 [1,0,0]++cE 1 [42243])=ug l name:=by
   rw[u2];have Kw:(dM h (cE 2 [1,0,0])).length=192:=(m5 _ _).trans DQ;refine tu (by rw[m5,Kw,UE _ _ i2]) fun i hi=>?_
   rw[m5,Kw]at hi;rw[qf [42243] 1 _ (by omega) (by rw[Kw];simp) i,qf [1,0,0] 2 h (by omega) (by rw[DQ];simp) i,pD i hi,ae5 _ _ i2 i hi]
   by_cases bp:i=1
   ·subst bp;simp;decide
   by_cases bc:i=2
   ·subst bc;simp;decide
   by_cases cq:i=3
   ·subst cq;simp;decide
   by_cases dq:i=4
   ·subst dq;simp;decide
   rw[if_neg (by simp;omega),if_neg (by simp;omega),if_neg (show ¬(1<=i/\i<5)by omega)]
  rw[this];rfl
 unfold lH;rw[if_pos hi,aa7,if_pos rfl,app]
theorem ajd{m:Message}{l:List Message}(h:l=[]\/l=oy m\/∃y,l=me m y):l.length<=1/\kT l=true:=by
 rcases h with h|h|⟨y,h⟩
 ·subst h;exact⟨by simp,rfl⟩
 ·subst h;exact⟨by simp[oy],ajq m⟩
 ·subst h;exact⟨by simp[me],ajr m y⟩
def r2(m:Message)(l:List Message):Prop:=l=[]\/l=oy m\/∃y,l=me m y
theorem kI{m:Message}{c:Prop}[Decidable c]{x y:c1×List Message}(aG:r2 m x.2)(cv:r2 m y.2):r2 m (if c then x else y).2:=by
 split
 ·exact aG
 ·exact cv
theorem JM{b:List (List UInt8)}{u:c1}{m:Message}:r2 m (he b u m).2:=by
 have a2:∀x:c1,r2 m (x,([]:List Message)).2:=fun _=>.inl rfl
 have I:∀x:c1,r2 m (x,oy m).2:=fun _=>.inr (.inl rfl)
 have G:∀(x:c1) (y:Bool),r2 m (x,me m y).2:=fun _ y=>.inr (.inr ⟨y,rfl⟩)
 have bt:∀x:c1,r2 m (qp x m).2:=fun x=>kI (I _) (I _)
 have av:∀(x:c1) (s:ih) (w:List Int),r2 m (BS x s m w).2:=fun x s w=>kI (kI (G _ _) (a2 _)) (G _ _)
 exact kI (kI (a2 _) (kI (kI (I _) (kI (G _ _) (kI (G _ _) (kI (kI (kI (av _ _ _) (a2 _)) (G _ _)) (G _ _))))) (kI (kI (kI (I _) (kI (kI (I _) (a2 _)) (a2 _))) (kI (a2 _) (kI (kI (bt _) (a2 _)) (bt _)))) (a2 _)))) (a2 _)
theorem acq{b:List (List UInt8)}{u:c1}{m:Message}:(he b u m).2.length<=1/\kT (he b u m).2=true:=ajd (m:=m) JM
end bF
end Go.Proofs.YtlbppjmekiemiabGreatDoor

/- Plain laws: the gateway, as the document has it. No condition. -/
namespace Go.Proofs.YtlbppjmekiemiabGreatDoor
namespace bF

def qE(r:List Int):Prop:=r.getD 0 0=1/\r.length=3/\1<=r.getD 1 0/\r.getD 1 0<=8
theorem Rz:∀l:List (List Int),(∀r∈l,¬qE r)->l.foldl gp mQ=mQ
 |[],_=>rfl
 |r::l,h=>by
  rw[List.foldl_cons];have:gp mQ r=mQ:=(if_neg (h r (by simp))).trans (if_pos (.inr (.inr rfl)));rw[this];exact Rz l fun x aG=>h x (by simp[aG])
theorem alf(pre post:List (List Int)){b:List Int}(h:qE b):ja (pre++b::post)=post.foldl gp ⟨b.getD 1 0,b.getD 2 0,false,false,false⟩:=by
 unfold ja;rw[List.foldl_append,List.foldl_cons];congr 1;exact if_pos h
theorem alp{N V:Int}{c a e:Bool}{r:List Int}(G:r.length=2)(I:r.getD 1 0=N)(jU:N≠0):gp ⟨N,V,c,a,e⟩ r =
  if r.getD 0 0=2/\a=false then⟨N,V,true,a,e⟩else if r.getD 0 0=3/\c=false then⟨N,V,c,true,e⟩else if r.getD 0 0=4/\(c=true\/a=true)then⟨N,V,c,a,true⟩else⟨N,V,c,a,e⟩:=by
 unfold gp;rw[if_neg (by omega),if_neg (by simp only;omega)]
theorem YM{N V:Int}{c a e:Bool}{r:List Int}(ay:¬qE r)(h:r.length≠2\/r.getD 1 0≠N):gp ⟨N,V,c,a,e⟩ r=⟨N,V,c,a,e⟩ :=
 (if_neg ay).trans (if_pos (by rcases h with h|h;exact .inl h;exact .inr (.inl h)))
theorem alA{b:List (List UInt8)}{l:List Signed}{t:iT}{o:kb}{now units:Int}(h:(ha b l t o now units).2=0):g5 (ha b l t o now units).1=0:=by
 obtain⟨I,_,_,aS,bj,bK⟩:=YU h;obtain⟨_,_,eH,_⟩:=MR o.roots o.lM _ I aS;obtain⟨gm,_⟩:=W2 bj;obtain⟨ia,iP,_⟩:=Af gm;rw[bK];unfold g5;simp only;rw[if_neg (by omega)];exact(Ah eH).2.2
theorem abn:(ql (qJ 2).1).1=⟨setAt (bZ (Int.toNat (64:Int)) (65535:Int)) (Int.toNat (0:Int)) (1:Int),-1⟩:=by kernel_rfl
theorem abo:dC (ql (qJ 2).1).1=0:=by kernel_rfl
theorem Es{r:jN}{units:Int}(I:1<=units)(G:units<=4):dG (uf r units)=gf r.version r.keys r.dV:=by
 unfold dG uf;simp only;rw[if_pos abo];have Bf:(bZ units.toNat false).length=units.toNat:=by unfold bZ;rw[List.length_replicate]
 rw[Bf,if_neg (by omega)];unfold g5;rw[if_neg (by simp only;omega)]
theorem KY{r:jN}{units:Int}(I:1<=units)(G:units<=4)(Y:gf r.version r.keys r.dV=0):jo r units=(uf r units,0):=by
 unfold jo;rw[if_neg (by omega),if_pos (by rw[Es I G];exact Y)]
theorem UN{r:jN}{units:Int}(I:1<=units)(G:units<=4)(Y:gf r.version r.keys r.dV≠0):jo r units=(kK,gf r.version r.keys r.dV):=by
 unfold jo;rw[if_neg (by omega),if_neg (by rw[Es I G];exact Y),Es I G]
theorem ZY{b:List (List UInt8)}{l:List Signed}{g:Gate}{o:kb}{now:Int}:dG (iU b l g o now).1=0\/(iU b l g o now).1=kK:=by
 unfold iU
 by_cases c:q5 b l g o now=0
 ·rw[if_pos c];unfold q5 at c;obtain⟨hu,c⟩:=jZ.1 c;have bt:=wE hu;have bm:(ha b l g.t o now g.cH.length).2=0:=by
   by_cases bp:0<(bN g.f).n/\(bN g.f).ended=false
   ·rw[if_pos bp]at c;cases c
   ·rw[if_neg bp]at c
    by_cases bc:(bN g.f).n=8
    ·rw[if_pos bc]at c;cases c
    ·rw[if_neg bc]at c;exact c
  left;simp only;obtain⟨bL,b0,dm,e3,h8⟩:=iH bt;unfold pe;split
  ·refine Dj ?_ ?_ ?_ ?_ ?_
   ·exact(rO (g:=g) (r:=[1,(bN g.f).n+1,o.r.version]) bL).1
   ·simp only[bZ,List.length_replicate];omega
   ·simp only[bZ,List.length_replicate];omega
   ·simp only[bZ,List.length_replicate];omega
   ·exact alA bm
  ·exact Dk bt
 ·rw[if_neg c];exact .inr rfl
def O1(g:Gate):Prop:=(List.length g.f.words<=140737488355328)/\((List.length g.t.r.keys<=140737488355328)/\((len g.cH<=140737488355328)/\(len g.did<=140737488355328)))
theorem als{g:Gate}(h:dG g=0\/g=kK):O1 g:=by
 rcases h with h|h
 ·obtain⟨a,b,c,d⟩:=QG h;exact⟨by simp only[len]at a;omega,by simp only[len]at b;omega,by omega,by omega⟩
 ·subst h;exact⟨by simp[kK,mO],by simp[kK],by simp[kK,len],by simp[kK,len]⟩
end bF
end Go.Proofs.YtlbppjmekiemiabGreatDoor

/- Plain answers: a vehicle. No condition. -/
namespace Go.Proofs.YtlbppjmekiemiabGreatDoor
namespace bF

def lx:List (List Int)->Int
 |[]=>0
 |w::l=>if fv w=0 then lx l else fv w
def ou(c:hr)(n:Int)(units:Nat):Int :=
 if c.n≠n\/c.cQ.length≠units\/c.r.targets.length≠units then 4
 else if lx c.cQ=0 then gG c.r.version c.r.cg c.r.targets else lx c.cQ
def pj:List c1->Int
 |[]=>0
 |u::l=>if e4 u=0 then pj l else e4 u
def ov(units:Nat):Int->List hr->Int
 |_,[]=>0
 |n,c::l=>if ou c n units=0 then ov units (n+1) l else ou c n units
def nD(units:Nat):List Message->Int
 |[]=>0
 |m::l=>if gd m=0 then(if (units:Int)<=m.unit then 5 else nD units l)else gd m
def mr(v:cX):Int :=
 if fq v.b=0 then(if hO v.s=0 then(if dG v.g=0 then
  (if v.units.length=v.g.cH.length then(if pj v.units=0 then
   (if 8<v.cr.length\/24<v.W.length then 2 else if ov v.units.length 1 v.cr=0 then
    (if nD v.units.length v.W=0 then(if v.now<0\/100000<v.now then 3 else 0)else nD v.units.length v.W)
   else ov v.units.length 1 v.cr)else pj v.units)else 4)else dG v.g)else hO v.s)else fq v.b
def iY:cX:=⟨[],[],kK,[],[],[],0⟩
def hI(W l:List Message):List Message:=W++l.take (24-W.length)
def ld(v:cX)(l:List Message):cX:=⟨v.b,v.s,v.g,v.units,v.cr,hI v.W l,v.now⟩
def nB(v:cX)(o:kb):Gate×Int×Int:=iU v.b v.s v.g o v.now
def q7(cs:List hr)(n:Int)(o:kb):List hr:=if 0<n then cs.take (n-1).toNat++[⟨n,o.r,o.cQ⟩]else cs
def lK(v:cX)(o:kb):cX×Int :=
 if (nB v o).2.2=0 then(⟨v.b,v.s,(nB v o).1,v.units,q7 v.cr (nB v o).2.1 o,v.W,v.now⟩,0)else(v,(nB v o).2.2)
def qj(v:cX)(k:Nat):cX:=⟨v.b,v.s,v.g,v.units,v.cr,v.W.eraseIdx k,v.now⟩
def mP:Message:=⟨0,0,0,0,0,[],false⟩
def mb(m:Message):Bool:=decide (m.kind=3)||decide (m.kind=6)||decide (m.kind=7)
def CB(v:cX)(m:Message):cX :=
 if (hS v.g m).2=0 then ld ⟨v.b,v.s,(hS v.g m).1.1,v.units,v.cr,v.W,v.now⟩ (hS v.g m).1.2 else v
def jd(v:cX)(k:Int):c1:=v.units.getD k.toNat vT
def rT(v:cX)(k:Int)(u:c1):cX:=⟨v.b,v.s,v.g,v.units.set k.toNat u,v.cr,v.W,v.now⟩
def CC(v:cX)(m:Message):cX :=
 if (h6 v.b (jd v m.unit) m).2=0 then ld (rT v m.unit (h6 v.b (jd v m.unit) m).1.1) (h6 v.b (jd v m.unit) m).1.2 else v
def iF(v:cX)(k:Nat):cX :=
 if mb (v.W.getD k mP)=true then CB (qj v k) (v.W.getD k mP)else CC (qj v k) (v.W.getD k mP)
def Ju(v:cX)(k:Int):cX:=⟨v.b,v.s,⟨⟨v.g.f.words,k⟩,v.g.up,v.g.t,v.g.cH,v.g.did⟩,v.units,v.cr,v.W,v.now⟩
def Aw(u:c1)(k:Int):c1:=⟨⟨u.f.words,k⟩,u.up,u.n,u.eG⟩
def w5(v:cX):cX:=⟨v.b,v.s,(te v.g).1,v.units,v.cr,v.W,v.now⟩
def j3(v:cX)(kind unit k:Int):cX×Int :=
 if unit < -1\/(v.units.length:Int)<=unit then(v,5)else if kind=6/\(k<0\/100000<k)then(v,3)
 else if kind=6 then(if unit<0 then(Ju v k,0)else(rT v unit (Aw (jd v unit) k),0))
 else if unit<0 then(w5 v,0)else(rT v unit (q6 (jd v unit)).1,0)
def Gq(k n:Int):List Message:=[⟨7,k,n,0,0,[],false⟩]
def jP(v:cX)(k:Int):cX×Int :=
 if (jd v k).up=true then(if (mT (jd v k)).1.ready<1\/8<(mT (jd v k)).1.ready then(v,12)else(ld v (Gq k (mT (jd v k)).1.ready),0))else(v,7)
def qK:hr:=⟨0,⟨0,0,[]⟩,[]⟩
def jh(v:cX):hr:=if 0<(kP v.g).1.n then v.cr.getD ((kP v.g).1.n-1).toNat qK else qK
def lJ(v:cX)(k:Int):cX×Int :=
 if (v.cr.length:Int)<(kP v.g).1.n then(v,5)
 else if (hw v.g (jh v) k).2=0 then(ld v (hw v.g (jh v) k).1,0)else(v,(hw v.g (jh v) k).2)
def j0(v:cX)(kind k:Int):cX×Int :=
 if k<0\/(v.W.length:Int)<=k then(v,5)
 else if kind=3 then(iF v k.toNat,0)else if kind=4 then(qj v k.toNat,0)
 else if kind=5 then(if v.W.length=24 then(v,8)else(ld v [v.W.getD k.toNat mP],0))else(v,0)
def rr(v:cX):cX×Int:=if (ki v.g).2=0 then(⟨v.b,v.s,(ki v.g).1,v.units,v.cr,v.W,v.now⟩,0)else(v,(ki v.g).2)
def uF(v:cX):cX×Int:=if v.now=100000 then(v,8)else(⟨v.b,v.s,v.g,v.units,v.cr,v.W,v.now+1⟩,0)
def fp(v:cX)(x:m4):cX×Int :=
 if x.kind=1 then lK v x.o
 else if x.kind=3\/x.kind=4\/x.kind=5 then j0 v x.kind x.k
 else if x.kind=6\/x.kind=7 then j3 v x.kind x.unit x.k
 else if x.kind=8 then rr v
 else if x.kind=2\/x.kind=9 then(if x.unit<0\/(v.units.length:Int)<=x.unit then(v,5)else if x.kind=2 then lJ v x.unit else jP v x.unit)
 else if x.kind=10 then uF v else(v,4)
def xk(v:cX)(x:m4):cX×Int :=
 if mr v=0 then(if (fp v x).2=0 then((fp v x).1,0)else(iY,(fp v x).2))else(iY,mr v)
def pU:cX->List m4->cX×List Int
 |v,[]=>(v,[])
 |v,x::l=>((pU (if (fp v x).2=0 then(fp v x).1 else v) l).1,(fp v x).2::(pU (if (fp v x).2=0 then(fp v x).1 else v) l).2)
def E9(v:cX)(l:List m4):cX×List Int×Int :=
 if mr v=0 then(if 160<l.length then(iY,[],2)else((pU v l).1,(pU v l).2,0))else(iY,[],mr v)
def hV(b:List (List UInt8)):List (List Int)->List c1×Int
 |[]=>([],0)
 |w::l =>
  if (gH b w).2=0 then(if (gH b w).1=0 then([],5)
   else if (lH w (gH b w).1).2=0 then(if (hV b l).2=0 then((lH w (gH b w).1).1::(hV b l).1,0)else([],(hV b l).2))else([],(lH w (gH b w).1).2))
  else([],(gH b w).2)
def oU(b:List (List UInt8))(s:List Signed)(r:jN)(cQ:List (List Int)):cX×Int :=
 if fq b=0 then(if hO s=0 then(if (jo r cQ.length).2=0 then
  (if (hV b cQ).2=0 then(⟨b,s,(jo r cQ.length).1,(hV b cQ).1,[],[],0⟩,0)else(iY,(hV b cQ).2))
  else(iY,(jo r cQ.length).2))else(iY,hO s))else(iY,fq b)
def wx(l:List (List Int)):Bool:=l.all fun w=>decide (w.length<=1000)
def nv(l:List Message):Bool:=l.all fun m=>decide (m.words.length<=1000)
end bF
end Go.Proofs.YtlbppjmekiemiabGreatDoor

/- Plain laws: a vehicle that is one. No condition. -/
namespace Go.Proofs.YtlbppjmekiemiabGreatDoor
namespace bF

theorem Fg{α:Type}{l:List α}{k:Nat}(h:k<l.length)(d:α):setAt l k (nth l k d)=l:=by
 unfold setAt nth;rw[List.getD_eq_getElem?_getD,List.getElem?_eq_getElem h];exact List.set_getElem_self h
theorem iu{α:Type}{l:List α}{k:Nat}(h:k<l.length)(d:α):nth l k d∈l:=by
 have:nth l k d=l[k]:=by simp[nth,List.getD_eq_getElem?_getD,h]
 rw[this];exact List.getElem_mem h
theorem QL:∀{l:List c1},pj l=0->∀u∈l,e4 u=0
 |[],_,u,hu=>by cases hu
 |x::l,h,u,hu=>by
  obtain⟨I,G⟩:=jZ.1 h;rcases List.mem_cons.1 hu with rfl|hu
  ·exact I
  ·exact QL G u hu
theorem QI:∀{l:List (List Int)},lx l=0->∀w∈l,fv w=0
 |[],_,u,hu=>by cases hu
 |x::l,h,u,hu=>by
  obtain⟨I,G⟩:=jZ.1 h;rcases List.mem_cons.1 hu with rfl|hu
  ·exact I
  ·exact QI G u hu
theorem QJ{n:Nat}:∀{l:List Message},nD n l=0->∀m∈l,gd m=0/\m.unit<n
 |[],_,u,hu=>by cases hu
 |x::l,h,u,hu=>by
  obtain⟨I,G⟩:=jZ.1 h
  by_cases c:(n:Int)<=x.unit
  ·rw[if_pos c]at G;cases G
  ·rw[if_neg c]at G;rcases List.mem_cons.1 hu with rfl|hu
   ·exact⟨I,by omega⟩
   ·exact QJ G u hu
theorem aaj{c:hr}{n:Int}{k:Nat}(h:ou c n k=0):c.n=n/\c.cQ.length=k/\c.r.targets.length=k/\(∀w∈c.cQ,fv w=0)/\gG c.r.version c.r.cg c.r.targets=0:=by
 unfold ou at h
 by_cases a:c.n≠n\/c.cQ.length≠k\/c.r.targets.length≠k
 ·rw[if_pos a]at h;cases h
 ·rw[if_neg a]at h;obtain⟨I,G⟩:=jZ.1 h;simp only[not_or,Decidable.not_not,ne_eq]at a;exact⟨a.1,a.2.1,a.2.2,QI I,G⟩
theorem QD{k:Nat}:∀{l:List hr} {n:Int},ov k n l=0->∀i,i<l.length->∀d,ou (nth l i d) (n+i) k=0
 |[],_,_,i,hi,_=>by simp at hi
 |x::l,n,h,i,hi,d=>by
  obtain⟨I,G⟩:=jZ.1 h;cases i with
  |zero=>simp only[nth,List.getD_cons_zero];rw[show n+((0:Nat):Int)=n by omega];exact I
  |succ i =>
   have:=QD G i (by simpa using hi) d;rw[show n+1+(i:Int)=n+((i+1:Nat):Int)by omega]at this;simpa[nth]using this
structure wY(v:cX):Prop where
 b:fq v.b=0
 s:hO v.s=0
 g:dG v.g=0
 n:v.units.length=v.g.cH.length
 u:∀u∈v.units,e4 u=0
 m6:v.cr.length<=8
 lG:v.W.length<=24
 c:ov v.units.length 1 v.cr=0
 m:∀m∈v.W,gd m=0/\m.unit<v.units.length
 t0:0<=v.now
 t1:v.now<=100000
theorem xd{v:cX}(h:mr v=0):wY v:=by
 unfold mr at h;obtain⟨I,h⟩:=jZ.1 h;obtain⟨G,h⟩:=jZ.1 h;obtain⟨Y,h⟩:=jZ.1 h
 by_cases bp:v.units.length=v.g.cH.length
 ·rw[if_pos bp]at h;obtain⟨aS,h⟩:=jZ.1 h
  by_cases bc:8<v.cr.length\/24<v.W.length
  ·rw[if_pos bc]at h;cases h
  ·rw[if_neg bc]at h;obtain⟨bj,h⟩:=jZ.1 h;obtain⟨bK,h⟩:=jZ.1 h
   by_cases cq:v.now<0\/100000<v.now
   ·rw[if_pos cq]at h;cases h
   ·exact⟨I,G,Y,bp,QL aS,by omega,by omega,bj,QJ bK,by omega,by omega⟩
 ·rw[if_neg bp]at h;cases h
theorem wY.o4{v:cX}(h:wY v):1<=v.units.length/\v.units.length<=4:=by
 obtain⟨_,a,b,_⟩:=iH h.g;rw[h.n];exact⟨a,b⟩
theorem XF{l:List (List Int)}(h:∀w∈l,fv w=0):wx l=true:=List.all_eq_true.2 fun w b8=>by
 have:=(r8 (h w b8)).2.1;exact decide_eq_true (by omega)
theorem XD{l:List Message}(h:∀m∈l,m.words.length<=8):nv l=true:=List.all_eq_true.2 fun m aB=>by
 have:=h m aB;exact decide_eq_true (by omega)
theorem Xx(W:List Message):hI W []=W:=by simp[hI]
theorem Xw(W:List Message)(m:Message)(l:List Message):hI W (m::l)=if W.length<24 then hI (W++[m]) l else hI W l:=by
 unfold hI
 by_cases c:W.length<24
 ·rw[if_pos c,show 24-W.length=(24-(W++[m]).length)+1 by simp;omega,List.take_succ_cons];simp
 ·rw[if_neg c,show 24-W.length=0 by omega];simp
end bF
end Go.Proofs.YtlbppjmekiemiabGreatDoor

/- Plain laws: what begins a campaign; what a vehicle's steps keep. No condition. -/
namespace Go.Proofs.YtlbppjmekiemiabGreatDoor
namespace bF

theorem UY{b:List (List UInt8)}:∀{ts:List Target} {ws:List (List Int)},n6 b ts ws=true->ts.length=ws.length->∀w∈ws,fv w=0
 |[],[],_,_,w,b8=>by cases b8
 |[],_::_,_,h,_,_=>by simp at h
 |_::_,[],_,h,_,_=>by simp at h
 |t::ts,x::ws,h,az,w,b8=>by
  simp only[n6,List.headD_cons,List.tail_cons,Bool.and_eq_true]at h;rcases List.mem_cons.1 b8 with rfl|b8
  ·have:=h.1;simp only[n5,Bool.and_eq_true,decide_eq_true_eq]at this;have G:=this.1.1;unfold gH at G
   by_cases c:fv w=0
   ·exact c
   ·rw[if_neg c]at G;exact absurd G c
  ·exact UY h.2 (by simpa using az) w b8
theorem Gw{b:List (List UInt8)}{l:List Signed}{g:Gate}{o:kb}{now:Int}(h:(iU b l g o now).2.2=0) :
  dG g=0/\g.up=true/\¬(0<(bN g.f).n/\(bN g.f).ended=false)/\(bN g.f).n≠8/\(ha b l g.t o now g.cH.length).2=0 /\
  iU b l g o now=((pe g (bN g.f) (ha b l g.t o now g.cH.length).1 o.r.version).1,(pe g (bN g.f) (ha b l g.t o now g.cH.length).1 o.r.version).2,0):=by
 unfold iU at h |-
 by_cases c:q5 b l g o now=0
 ·rw[if_pos c];unfold q5 at c;obtain⟨hu,c⟩:=jZ.1 c;have tX:g.up=true:=by
   unfold hY at hu;rw[if_pos (wE hu)]at hu
   by_cases d:g.up=true
   ·exact d
   ·rw[if_neg d]at hu;cases hu
  by_cases bp:0<(bN g.f).n/\(bN g.f).ended=false
  ·rw[if_pos bp]at c;cases c
  ·rw[if_neg bp]at c
   by_cases bc:(bN g.f).n=8
   ·rw[if_pos bc]at c;cases c
   ·rw[if_neg bc]at c;exact⟨wE hu,tX,bp,bc,c,rfl⟩
 ·rw[if_neg c]at h;exact absurd h c
theorem ZZ{g:Gate}{s:ie}{t:iT}{v:Int}:(pe g s t v).2=0\/((pe g s t v).2=s.n+1/\(dN g [1,s.n+1,v]).2=true):=by
 unfold pe;split
 ·rename_i h;exact .inr ⟨rfl,h⟩
 ·exact .inl rfl
theorem YT{b:List (List UInt8)}{l:List Signed}{t:iT}{o:kb}{now units:Int}(h:(ha b l t o now units).2=0) :
  gG o.r.version o.r.cg o.r.targets=0/\(o.r.targets.length:Int)=units/\(o.cQ.length:Int)=units/\(∀w∈o.cQ,fv w=0)/\now<=o.r.cg/\(ha b l t o now units).1.version=o.r.version/\t.version<o.r.version:=by
 obtain⟨I,_,_,aS,bj,bK⟩:=YU h;obtain⟨cO,_,_,_⟩:=MR o.roots o.lM _ I aS;obtain⟨gm,_,_,qS,E1,WW,WX,aii⟩:=W2 bj;exact⟨gm,WW,WX,UY aii (by omega),E1,by rw[bK],by omega⟩
theorem alB{α:Type}(l:List α)(k:Nat):l.take (min k l.length)=l.take k:=by
 by_cases h:k<=l.length
 ·rw[Nat.min_eq_left h]
 ·rw[Nat.min_eq_right (by omega),List.take_length,List.take_of_length_le (by omega)]
theorem Gx{v:cX}{o:kb}(h:(nB v o).2.2=0):(nB v o).2.1=0\/((nB v o).2.1=(bN v.g.f).n+1/\1<=(nB v o).2.1/\(nB v o).2.1<=8):=by
 unfold nB at h |-;obtain⟨_,_,_,aS,_,bK⟩:=Gw h;rw[bK];obtain⟨a,b,_⟩:=rP v.g.f;rcases ZZ (g:=v.g) (s:=bN v.g.f) (t:=(ha v.b v.s v.g.t o v.now v.g.cH.length).1) (v:=o.r.version)with h|⟨h,_⟩
 ·exact .inl h
 ·exact .inr ⟨h,by simp only;omega,by simp only;omega⟩
theorem R1(g:Gate)(m:Message):(hS g m).1.2=[]\/∃k,(hS g m).1.2=[⟨k,m.unit,m.n,0,0,[],false⟩]:=by
 unfold hS
 by_cases c:sv g m=0
 ·rw[if_pos c];unfold iJ;split
  ·unfold g8;split
   ·split
    ·exact .inl rfl
    ·exact .inl rfl
   ·split
    ·split
     ·exact .inl rfl
     ·exact .inl rfl
    ·split
     ·split
      ·exact .inr ⟨_,rfl⟩
      ·exact .inl rfl
     ·exact .inl rfl
  ·exact .inl rfl
 ·rw[if_neg c];exact .inl rfl
theorem R2(b:List (List UInt8))(u:c1)(m:Message):(h6 b u m).1.2=[]\/∃k y,(h6 b u m).1.2=[⟨k,m.unit,m.n,0,0,[],y⟩]:=by
 unfold h6
 by_cases c:su b u m=0
 ·rw[if_pos c];rcases JM (b:=b) (u:=u) (m:=m)with h|h|⟨y,h⟩
  ·exact .inl h
  ·exact .inr ⟨_,_,h⟩
  ·exact .inr ⟨_,_,h⟩
 ·rw[if_neg c];exact .inl rfl
theorem Fk{l:List Message}{k u n:Int}{y:Bool}(h:l=[]\/l=[⟨k,u,n,0,0,[],y⟩]):l.length<=1000/\nv l=true:=by
 rcases h with h|h
 ·subst h;exact⟨by simp,rfl⟩
 ·subst h;exact⟨by simp,by simp[nv]⟩
theorem acf(g:Gate)(m:Message):(hS g m).1.2.length<=1000/\nv (hS g m).1.2=true:=by
 rcases R1 g m with h|⟨k,h⟩
 ·exact Fk (k:=0) (u:=0) (n:=0) (y:=false) (.inl h)
 ·exact Fk (.inr h)
theorem acj(b:List (List UInt8))(u:c1)(m:Message):(h6 b u m).1.2.length<=1000/\nv (h6 b u m).1.2=true:=by
 rcases R2 b u m with h|⟨k,y,h⟩
 ·exact Fk (k:=0) (u:=0) (n:=0) (y:=false) (.inl h)
 ·exact Fk (.inr h)
theorem Vf(u n:Int)(w:List Int):∀(d k:Nat),(jq u n w d k).length<=d/\∀m∈jq u n w d k,m.words.length<=8
 |0,_=>⟨by simp[jq],fun m aB=>by simp[jq]at aB⟩
 |d+1,k=>by
  unfold jq;obtain⟨I,G⟩:=Vf u n w d (k+8);split
  ·refine⟨by simp only[List.length_cons];omega,fun m aB=>?_⟩;rcases List.mem_cons.1 aB with rfl|aB
   ·simp only[ur,aW,List.length_drop,List.length_take];omega
   ·exact G m aB
  ·exact⟨by simp,fun m aB=>by simp at aB⟩
theorem IZ(g:Gate)(c:hr)(u:Int):(hw g c u).1.length<=1000/\nv (hw g c u).1=true:=by
 have none:([]:List Message).length<=1000/\nv []=true:=⟨by simp,rfl⟩
 unfold hw;split
 ·unfold tm;split
  ·split
   ·exact none
   ·exact⟨by simp,rfl⟩
  ·split
   ·exact none
   ·unfold xI;split
    ·exact none
    ·obtain⟨I,G⟩:=Vf u (bN g.f).n (nth c.cQ u.toNat []) 6 0;refine⟨by simp only[List.length_append,List.length_cons,List.length_nil];omega,XD fun m aB=>?_⟩;rcases List.mem_append.1 aB with aB|aB
     ·exact G m aB
     ·simp only[List.mem_singleton]at aB;subst aB;simp
 ·exact none
theorem aij(g:Gate):0<=(kP g).1.n/\(kP g).1.n<=8:=by
 unfold kP;split
 ·exact⟨(rP g.f).nj,(rP g.f).oS⟩
 ·simp[mQ]
end bF
end Go.Proofs.YtlbppjmekiemiabGreatDoor

/- Plain answers: vehicles compared; the rest of the vehicle's laws. No condition. -/
namespace Go.Proofs.YtlbppjmekiemiabGreatDoor
namespace bF

def eF{α:Type}(f:α->α->Bool):List α->List α->Bool
 |[],[]=>true
 |a::as,b::au=>f a b&&eF f as au
 |_,_=>false
theorem tr{α:Type}(f:α->α->Bool):∀(a b:List α),a.length≠b.length->eF f a b=false
 |[],[],h=>absurd rfl h
 |[],_::_,_=>rfl
 |_::_,[],_=>rfl
 |x::a,y::b,h=>by
  simp only[eF,tr f a b (by simpa using h),Bool.and_false]
theorem xn{α:Type}{f:α->α->Bool}(h:∀x,f x x=true):∀l:List α,eF f l l=true
 |[]=>rfl
 |x::l=>by simp only[eF,h x,xn h l,Bool.and_true]
def nG(a b:Signed):Bool:=ar a.key b.key&&ar a.name b.name
def my(a b:bF.Target):Bool:=ar a.unit b.unit&&(ar a.image b.image&&ar a.dr b.dr)
def ix(a b:hr):Bool:=ar a.n b.n&&(ar a.r.version b.r.version&&(ar a.r.cg b.r.cg&&(eF my a.r.targets b.r.targets&&jH a.cQ b.cQ)))
def BO(a b:Gate):Bool:=kR a.f b.f&&(h3 a.up b.up&&(ar a.t.version b.t.version&&(ar a.t.r.version b.t.r.version&&(ar a.t.r.dV b.t.r.dV&&(gx a.t.r.keys b.t.r.keys&&(mx a.cH b.cH&&mx a.did b.did))))))
def o0(a b:cX):Bool:=BO a.g b.g&&(eF eqs a.b b.b&&(eF nG a.s b.s&&(eF iZ a.units b.units&&(ar a.now b.now&&(eF ix a.cr b.cr&&kS a.W b.W)))))
def pW(l:List c1):Bool:=l.all fun u=>decide (u.f.words.length<=140737488355328)
def NO(c:hr):Bool:=decide (c.r.targets.length<=140737488355328)&&(decide (c.cQ.length<=140737488355328)&&hB c.cQ)
def o2(l:List hr):Bool:=l.all NO
theorem M4{l:List c1}(h:pW l=true){u:c1}(hu:u∈l):u.f.words.length<=140737488355328:=by simpa using List.all_eq_true.1 h _ hu
theorem YP{l:List hr}(h:o2 l=true){c:hr}(aA:c∈l):c.r.targets.length<=140737488355328/\c.cQ.length<=140737488355328/\hB c.cQ=true:=by simpa[NO]using List.all_eq_true.1 h _ aA
structure ZA(v:cX):Prop where
 ws:eW v.g.f.words
 aF:eW v.g.t.r.keys
 aa:v.g.cH.length<=140737488355328
 ab:v.g.did.length<=140737488355328
 b:v.b.length<=140737488355328
 s:v.s.length<=140737488355328
 us:v.units.length<=140737488355328
 u:pW v.units=true
 cs:v.cr.length<=140737488355328
 c:o2 v.cr=true
 ns:v.W.length<=140737488355328
 m:kT v.W=true
def o3(v:cX):Bool:=decide (v.g.f.words.length<=140737488355328)&&(decide (v.g.t.r.keys.length<=140737488355328)&&(decide (v.g.cH.length<=140737488355328)&&(decide (v.g.did.length<=140737488355328)&&(decide (v.b.length<=140737488355328)&&(decide (v.s.length<=140737488355328)&&(decide (v.units.length<=140737488355328)&&(pW v.units&&(decide (v.cr.length<=140737488355328)&&(o2 v.cr&&(decide (v.W.length<=140737488355328)&&kT v.W))))))))))
theorem B5{v:cX}:o3 v=true↔ZA v:=by
 simp only[o3,Bool.and_eq_true,decide_eq_true_eq];exact⟨fun⟨a,b,c,d,e,f,g,h,i,j,k,l⟩=>⟨a,b,c,d,e,f,g,h,i,j,k,l⟩,fun⟨a,b,c,d,e,f,g,h,i,j,k,l⟩=>⟨a,b,c,d,e,f,g,h,i,j,k,l⟩⟩
theorem BR(v:cX):o0 v v=true:=by
 have I:eF eqs v.b v.b=true:=xn (fun x=>by simp[eqs]) _;have G:eF nG v.s v.s=true:=xn (fun x=>by simp[nG,ar]) _;have Y:eF iZ v.units v.units=true:=xn (fun x=>by simp[iZ,kR,ar,h3,gx]) _;have aS:∀l,eF my l l=true:=xn (fun x=>by simp[my,ar]);have bj:eF ix v.cr v.cr=true:=xn (fun x=>by simp[ix,aS,ar,jH]) _;have bK:BO v.g v.g=true:=by simp[BO,kR,ar,h3,gx,mx]
 simp[o0,I,G,Y,bj,bK,Xk,ar]
theorem UO{r:jN}{n:Int}(h:(jo r n).2=0):1<=n/\n<=4:=by
 unfold jo at h;split at h
 ·cases h
 ·omega
def oT(b:List (List UInt8))(s:List UInt8):List (List UInt8)×Int:=if 0<=ev s b then(b,ev s b+1)else(b++[s],(b.length:Int)+1)
def mK(v k:Int):List Int:=bZ (3+9*k+v).toNat (100*v+k)
structure o9 where
 b:List (List UInt8)
 first:List (List Int)
 ts:List bF.Target
 mL:List (List Int)
def k2(v k:Int)(f:o9):o9 :=
 ⟨(oT f.b (lb (mK v k)).1).1,if v=0 then f.first++[mK v k]else f.first,f.ts++[⟨k,(oT f.b (lb (mK v k)).1).2,((mK v k).length:Int)⟩],f.mL++[mK v k]⟩
def nI(v:Int):Nat->Int->o9->o9
 |0,_,f=>f
 |n+1,k,f=>nI v n (k+1) (k2 v k f)
structure ls where
 b:List (List UInt8)
 l:List Signed
 first:List (List Int)
 offers:List kb
def ain(v cg:Int)(f:o9):Cv:=⟨max v 1,cg,f.ts⟩
def Fz(v cg:Int)(f:o9):List UInt8:=(nr (max v 1) cg f.ts).1
def sf(cg v:Int)(a:ls)(f:o9):ls :=
 if v=0 then⟨f.b,a.l,f.first,a.offers⟩
 else⟨(oT f.b (Fz v cg f)).1,(if v=3 then a.l else a.l++[⟨3,(oT f.b (Fz v cg f)).2⟩])++[⟨5,(oT f.b (Fz v cg f)).2⟩],f.first,a.offers++[⟨[],[],ain v cg f,[3,5],f.mL⟩]⟩
def qk(a:ls):o9:=⟨a.b,a.first,[],[]⟩
def lB(units:Nat)(cg v:Int)(a:ls):ls:=sf cg v a (nI v units 0 (qk a))
theorem KW(b:List (List UInt8))(s:List UInt8):(oT b s).1.length<=b.length+1:=by
 unfold oT;split
 ·exact Nat.le_succ _
 ·simp
def SU(units:Nat):Bool:=(List.range 4).all fun v=>(List.range units).all fun k=>ar (lb (mK v k)).2 0
def DA(units:Nat)(cg v:Int)(a:ls):Bool:=ar (nr (max v 1) cg (nI v units 0 (qk a)).ts).2 0
def An(units:Nat)(cg:Int):ls:=lB units cg 0 ⟨[],[],[],[]⟩
def Ao(units:Nat)(cg:Int):ls:=lB units cg 1 (An units cg)
def Ap(units:Nat)(cg:Int):ls:=lB units cg 2 (Ao units cg)
def oA(units:Nat)(cg:Int):ls:=lB units cg 3 (Ap units cg)
def Jb(units:Nat)(cg:Int):List kb:=(oA units cg).offers
def Rj:jN:=⟨1,[3,4,5],2⟩
def rj(units:Nat)(cg:Int):cX×Int:=oU (oA units cg).b (oA units cg).l Rj (oA units cg).first
def Jc(units:Nat)(cg:Int):Bool:=SU units&&(DA units cg 1 (An units cg)&&(DA units cg 2 (Ao units cg)&&(DA units cg 3 (Ap units cg)&&(ar (rj units cg).2 0&&ar ((rj units cg).1.units.length:Int) units))))
end bF
end Go.Proofs.YtlbppjmekiemiabGreatDoor

/- Plain laws: the vehicle's net. No condition. -/
namespace Go.Proofs.YtlbppjmekiemiabGreatDoor
namespace bF

theorem afa{α:Type}{l:List α}{x:α}(h:x∈l)(d:α):∃i,i<l.length/\nth l i d=x:=by
 obtain⟨i,hi,e⟩:=List.getElem_of_mem h;exact⟨i,hi,by simp[nth,List.getD_eq_getElem?_getD,hi,e]⟩
theorem wY.va{v:cX}(aQ:wY v):∀c∈v.cr,c.cQ.length=v.units.length/\c.r.targets.length=v.units.length/\(∀w∈c.cQ,fv w=0)/\gG c.r.version c.r.cg c.r.targets=0:=fun c aA=>by
 obtain⟨i,hi,e⟩:=afa aA qK;have:=aaj (QD aQ.c i hi qK);rw[e]at this;exact this.2
end bF
end Go.Proofs.YtlbppjmekiemiabGreatDoor

/- Plain answers: offers in a script; the tour. No condition. -/
namespace Go.Proofs.YtlbppjmekiemiabGreatDoor
namespace bF

theorem Xy(v:cX)(k:Int)(u:c1):(rT v k u).units.length=v.units.length:=List.length_set
end bF
end Go.Proofs.YtlbppjmekiemiabGreatDoor

/- Plain laws: what each step of a vehicle keeps. No condition. -/
namespace Go.Proofs.YtlbppjmekiemiabGreatDoor
namespace bF

def ox(m:Message):Message:=⟨m.kind,m.unit,m.n,m.at_,0,m.words,m.yes⟩
def pM(n:Nat)(m:Message):Bool:=decide (gd (ox m)=0)&&decide (m.unit<(n:Int))
def vb(n:Nat)(c:hr):Bool:=decide (c.cQ.length=n)&&(decide (c.r.targets.length=n)&&((c.cQ.all fun w=>decide (fv w=0))&&decide (gG c.r.version c.r.cg c.r.targets=0)))
structure fB(v:cX):Prop where
 b:fq v.b=0
 s:hO v.s=0
 g:dG v.g=0
 n:v.units.length=v.g.cH.length
 u:∀u∈v.units,e4 u=0
 m6:v.cr.length<=8
 lG:v.W.length<=24
 c:v.cr.all (vb v.units.length)=true
 m:v.W.all (pM v.units.length)=true
 t0:0<=v.now
 t1:v.now<=100000
def okW(v:cX):Bool:=decide (fq v.b=0)&&(decide (hO v.s=0)&&(decide (dG v.g=0)&&(decide (v.units.length=v.g.cH.length)&&((v.units.all fun u=>decide (e4 u=0))&&(decide (v.cr.length<=8)&&(decide (v.W.length<=24)&&(v.cr.all (vb v.units.length)&&(v.W.all (pM v.units.length)&&(decide (0<=v.now)&&decide (v.now<=100000))))))))))
theorem oW{v:cX}:okW v=true↔fB v:=by
 simp only[okW,Bool.and_eq_true,decide_eq_true_eq,List.all_eq_true (p:=fun u=>decide (e4 u=0))];exact⟨fun⟨a,b,c,d,e,f,g,h,i,j,k⟩=>⟨a,b,c,d,e,f,g,h,i,j,k⟩,fun⟨a,b,c,d,e,f,g,h,i,j,k⟩=>⟨a,b,c,d,e,f,g,h,i,j,k⟩⟩
theorem fB.va{v:cX}(aQ:fB v):∀c∈v.cr,c.cQ.length=v.units.length/\c.r.targets.length=v.units.length/\(∀w∈c.cQ,fv w=0)/\gG c.r.version c.r.cg c.r.targets=0:=fun c aA=>by
 have:=List.all_eq_true.1 aQ.c c aA;simpa only[vb,Bool.and_eq_true,decide_eq_true_eq,List.all_eq_true]using this
theorem fB.msg{v:cX}(aQ:fB v):∀m∈v.W,gd (ox m)=0/\m.unit<(v.units.length:Int):=fun m aB=>by
 have:=List.all_eq_true.1 aQ.m m aB;simpa only[pM,Bool.and_eq_true,decide_eq_true_eq]using this
theorem aan{m:Message}(h:gd m=0):gd (ox m)=0:=by
 obtain⟨I,G,Y,aS,bj,bK,c4,dJ,hd,lS,k5,mC⟩:=ph h;unfold gd ox;simp only;rw[if_neg (by omega),if_pos mC]
theorem Bv{v:cX}(aQ:wY v):fB v :=
 ⟨aQ.b,aQ.s,aQ.g,aQ.n,aQ.u,aQ.m6,aQ.lG,List.all_eq_true.2 fun c aA=>by
  obtain⟨dI,eD,a3,a4⟩:=aQ.va c aA;simp only[vb,Bool.and_eq_true,decide_eq_true_eq];exact⟨dI,eD,List.all_eq_true.2 fun w b8=>decide_eq_true (a3 w b8),a4⟩,List.all_eq_true.2 fun m aB=>by
  obtain⟨dI,eD⟩:=aQ.m m aB;simp only[pM,Bool.and_eq_true,decide_eq_true_eq];exact⟨aan dI,eD⟩,aQ.t0,aQ.t1⟩
theorem fB.o4{v:cX}(h:fB v):1<=v.units.length/\v.units.length<=4:=by
 obtain⟨_,a,b,_⟩:=iH h.g;rw[h.n];exact⟨a,b⟩
theorem fB.gate{v:cX}(aQ:fB v){g:Gate}(I:dG g=0)(G:g.cH.length=v.g.cH.length):fB ⟨v.b,v.s,g,v.units,v.cr,v.W,v.now⟩ :=
 ⟨aQ.b,aQ.s,I,aQ.n.trans G.symm,aQ.u,aQ.m6,aQ.lG,aQ.c,aQ.m,aQ.t0,aQ.t1⟩
theorem fB.unit{v:cX}(aQ:fB v){u:c1}{k:Int}(I:e4 u=0):fB (rT v k u):=by
 have e:=Xy v k u;refine⟨aQ.b,aQ.s,aQ.g,e.trans aQ.n,fun x aG=>?_,aQ.m6,aQ.lG,by rw[e];exact aQ.c,by rw[e];exact aQ.m,aQ.t0,aQ.t1⟩;rcases List.mem_or_eq_of_mem_set aG with q|q
 ·exact aQ.u x q
 ·rw[q];exact I
theorem fB.send{v:cX}(aQ:fB v){l:List Message}(h:∀m∈l,pM v.units.length m=true):fB (ld v l):=by
 have lG:=aQ.lG;refine⟨aQ.b,aQ.s,aQ.g,aQ.n,aQ.u,aQ.m6,?_,aQ.c,List.all_eq_true.2 fun m aB=>?_,aQ.t0,aQ.t1⟩
 ·show(v.W++l.take (24-v.W.length)).length<=24;simp;omega
 ·rcases List.mem_append.1 (show m∈v.W++l.take (24-v.W.length)from aB)with q|q
  ·exact List.all_eq_true.1 aQ.m m q
  ·exact h m (List.mem_of_mem_take q)
theorem fB.drop{v:cX}(aQ:fB v)(k:Nat):fB (qj v k):=by
 have lG:=aQ.lG;refine⟨aQ.b,aQ.s,aQ.g,aQ.n,aQ.u,aQ.m6,?_,aQ.c,List.all_eq_true.2 fun m aB=>?_,aQ.t0,aQ.t1⟩
 ·exact Nat.le_trans (List.length_eraseIdx_le v.W k) lG
 ·exact List.all_eq_true.1 aQ.m m (List.mem_of_mem_eraseIdx aB)
theorem Bl{n:Nat}{k u q:Int}{y:Bool}(I:1<=k/\k<=7)(G:0<=u/\u<(n:Int))(Y:n<=4)(aS:1<=q/\q<=8):pM n ⟨k,u,q,0,0,[],y⟩=true:=by
 have:gd (ox ⟨k,u,q,0,0,[],y⟩)=0:=by
  unfold gd ox;simp only[List.length_nil];rw[if_neg (by omega)];rfl
 simp only[pM,this,Bool.and_eq_true,decide_eq_true_eq];exact⟨trivial,G.2⟩
theorem acg{v:cX}(aQ:fB v){m:Message}(h:(hS v.g m).2=0):fB (ld ⟨v.b,v.s,(hS v.g m).1.1,v.units,v.cr,v.W,v.now⟩ (hS v.g m).1.2):=by
 obtain⟨gi,iR⟩:=aQ.o4;obtain⟨I,⟨fc,gJ,hz,ue⟩,Y⟩:=ace h;rw[Y];have aq:=aQ.n;refine(aQ.gate (acm I hz).1 (R3 I).1).send fun y cv=>?_
 have key:∀s:ie,pM v.units.length (rf s m.unit m.n)=true:=fun s=>by
  refine Bl ?_ ⟨fc,by omega⟩ iR ⟨hz,ue⟩;unfold nY;split<;>omega
 have cv:y∈(iJ v.g m).2:=cv;unfold iJ at cv;split at cv
 ·unfold g8 at cv;split at cv
  ·split at cv<;>simp at cv
  split at cv
  ·split at cv<;>simp at cv
  split at cv
  ·split at cv
   ·rw[List.mem_singleton.1 cv];exact key _
   ·simp at cv
  ·simp at cv
 ·simp at cv
theorem ack{v:cX}(aQ:fB v){m:Message}(aB:m.unit<(v.units.length:Int))(h:(h6 v.b (jd v m.unit) m).2=0):fB (ld (rT v m.unit (h6 v.b (jd v m.unit) m).1.1) (h6 v.b (jd v m.unit) m).1.2):=by
 obtain⟨gi,iR⟩:=aQ.o4;obtain⟨I,G⟩:=aci h;unfold su at I;obtain⟨_,I⟩:=jZ.1 I;obtain⟨hu,I⟩:=jZ.1 I;obtain⟨_,_,hz,_,Bh,Bi,_⟩:=ph I;rw[G];refine(aQ.unit (acp hu I)).send fun y cv=>?_
 rw[Xy];have cv:y∈(he v.b (jd v m.unit) m).2:=cv;rcases JM (b:=v.b) (u:=jd v m.unit) (m:=m)with e|e|⟨q,e⟩
 ·rw[e]at cv;simp at cv
 ·rw[e]at cv;rw[List.mem_singleton.1 cv];exact Bl (by omega) ⟨hz,aB⟩ iR ⟨Bh,Bi⟩
 ·rw[e]at cv;rw[List.mem_singleton.1 cv];exact Bl (by omega) ⟨hz,aB⟩ iR ⟨Bh,Bi⟩
theorem ZR{v:cX}(aQ:fB v){k:Nat}(ae:k<v.W.length):fB (iF v k):=by
 have aB:=List.all_eq_true.1 aQ.m _ (iu ae mP);simp only[pM,Bool.and_eq_true,decide_eq_true_eq]at aB;have aB:(v.W.getD k mP).unit<(v.units.length:Int):=aB.2;have b7:=aQ.drop k;unfold iF;split
 ·unfold CB;split
  ·rename_i h;exact acg b7 h
  ·exact b7
 ·unfold CC;split
  ·rename_i h;exact ack b7 aB h
  ·exact b7
theorem Za{v:cX}(aQ:fB v){k:Int}(a2:0<=k)(I:k<(v.units.length:Int)):e4 (jd v k)=0:=aQ.u _ (iu (by omega) vT)
theorem aff{v:cX}(aQ:fB v)(kind k:Int):fB (j0 v kind k).1:=by
 unfold j0;split
 ·exact aQ
 rename_i c;split
 ·exact ZR aQ (by omega)
 split
 ·exact aQ.drop _
 split
 ·split
  ·exact aQ
  ·exact aQ.send fun m aB=>by
    rw[List.mem_singleton.1 aB];exact List.all_eq_true.1 aQ.m _ (iu (by omega) mP)
 ·exact aQ
theorem aak{f:cp}{k:Int}(h:e9 f=0)(a2:-1<=k)(I:k<=100000):e9 ⟨f.words,k⟩=0:=by
 obtain⟨a,_,_,d⟩:=jx h;unfold e9;rw[if_pos a,if_pos (by simp[a2,I,d])]
theorem IF{f:cp}{k:Int}(h:dC f=0)(a2:-1<=k)(I:k<=100000):dC ⟨f.words,k⟩=0:=by
 obtain⟨a,b,c,d⟩:=ow h;have e:e9 ⟨f.words,k⟩=0:=aak a a2 I;unfold dC;rw[if_pos e,if_pos (show 64<=f.words.length from b),if_pos ⟨c,d⟩]
theorem aas{u:c1}{k:Int}(h:e4 u=0)(a2:-1<=k)(I:k<=100000):e4 (Aw u k)=0:=by
 obtain⟨a,b,c⟩:=q9 h;have e:dC ⟨u.f.words,k⟩=0:=IF a a2 I;unfold e4 Aw;simp only;rw[if_pos e,if_pos b,if_neg (by omega)]
theorem Z8{u:c1}(h:e4 u=0):e4 (q6 u).1=0:=by
 rw[Pr h];obtain⟨a,b,c⟩:=q9 h;have e:dC ⟨u.f.words,-1⟩=0:=IF a (by omega) (by omega);unfold e4;simp only;rw[if_pos e,if_pos b,if_neg (by omega)]
theorem Zj{α:Type}(n:Nat)(x:α):(bZ n x).length=n:=by simp[bZ]
theorem agS{v:cX}(aQ:fB v)(kind unit k:Int):fB (j3 v kind unit k).1:=by
 obtain⟨a1,bf,ck,eP,gg⟩:=iH aQ.g;unfold j3;split
 ·exact aQ
 rename_i bp;split
 ·exact aQ
 rename_i bc;split
 ·split
  ·refine aQ.gate (Dj (IF a1 (by omega) (by omega)) bf ck eP gg) rfl
  ·exact aQ.unit (aas (Za aQ (by omega) (by omega)) (by omega) (by omega))
 split
 ·unfold w5;rw[Pq aQ.g];refine aQ.gate (Dj (aal a1) ?_ ?_ ?_ gg) ?_<;>simp only[Zj]<;>omega
 ·exact aQ.unit (Z8 (Za aQ (by omega) (by omega)))
theorem abx{v:cX}(aQ:fB v):fB (rr v).1:=by
 unfold rr;split
 ·rename_i h;obtain⟨I,_,_,_,bj⟩:=abA h;rw[bj];refine aQ.gate (Dk I) ?_;obtain⟨_,_,jn,_⟩:=rO (r:=[3,(bN v.g.f).n]) (iH I).1;exact jn
 ·exact aQ
theorem alG{v:cX}(aQ:fB v):fB (uF v).1:=by
 unfold uF;split
 ·exact aQ
 ·exact⟨aQ.b,aQ.s,aQ.g,aQ.n,aQ.u,aQ.m6,aQ.lG,aQ.c,aQ.m,by have:=aQ.t0;show 0<=v.now+1;omega,by have:=aQ.t1;show v.now+1<=100000;omega⟩
theorem ZS{v:cX}(aQ:fB v){k:Int}(a2:0<=k)(I:k<(v.units.length:Int)):fB (jP v k).1:=by
 unfold jP;split
 ·split
  ·exact aQ
  ·rename_i c;exact aQ.send fun m aB=>by
    unfold Gq at aB;rw[List.mem_singleton.1 aB];exact Bl (by omega) ⟨a2,I⟩ aQ.o4.2 ⟨by omega,by omega⟩
 ·exact aQ
theorem QB{n:Nat}{c:hr}:vb n c=true↔c.cQ.length=n/\c.r.targets.length=n/\(∀w∈c.cQ,fv w=0)/\gG c.r.version c.r.cg c.r.targets=0:=by
 simp only[vb,Bool.and_eq_true,decide_eq_true_eq,List.all_eq_true]
theorem Ve{n:Nat}{u q:Int}{w:List Int}(b8:fv w=0)(hu:0<=u/\u<(n:Int))(aq:n<=4)(aH:1<=q/\q<=8):∀(d k:Nat),∀m∈jq u q w d k,pM n m=true
 |0,_,m,aB=>by simp[jq]at aB
 |d+1,k,m,aB=>by
  obtain⟨_,jK,alR⟩:=r8 b8;unfold jq at aB;split at aB
  ·rename_i ae;rcases List.mem_cons.1 aB with rfl|aB
   ·have az:(aW w k (min (k+8) w.length)).length<=8:=by simp only[aW,List.length_drop,List.length_take];omega
    have aY:cC (aW w k (min (k+8) w.length))=true:=M3 alR _ _;have:gd (ox (ur u q w k))=0:=by
     unfold gd ox ur;simp only;rw[if_neg (by omega),if_pos aY]
    simp only[pM,this,Bool.and_eq_true,decide_eq_true_eq];exact⟨trivial,hu.2⟩
   ·exact Ve b8 hu aq aH d (k+8) m aB
  ·simp at aB
theorem agP{v:cX}(aQ:fB v){k:Int}:fB (lJ v k).1:=by
 unfold lJ;split
 ·exact aQ
 rename_i hlen;split
 ·rename_i h;obtain⟨d1,d2,d3,d4,d5,d6,d7,d8,d9⟩:=aaL h;rw[d9];have aq:=aQ.n;obtain⟨gi,iR⟩:=aQ.o4;have av:=rP v.g.f;have nj:=av.nj;have oS:=av.oS;have ae:0<=k/\k<(v.units.length:Int):=⟨d4,by omega⟩
  have aH:1<=(bN v.g.f).n/\(bN v.g.f).n<=8:=by omega
  refine aQ.send fun m aB=>?_
  have aB:m∈(tm v.g (bN v.g.f) (jh v) k).1:=aB;have aA:jh v=v.cr.getD ((bN v.g.f).n-1).toNat qK:=by
   unfold jh;rw[E4 d1,if_pos (show 0<(bN v.g.f).n by omega)]
  rw[E4 d1]at hlen;have hlen:¬(v.cr.length:Int)<(bN v.g.f).n:=hlen;have lY:jh v∈v.cr:=by rw[aA];exact iu (by omega) qK
  obtain⟨bp,bc,cq,dq⟩:=QB.1 (List.all_eq_true.1 aQ.c _ lY);generalize jh v=c at *;unfold tm at aB;split at aB
  ·split at aB
   ·simp at aB
   ·rw[List.mem_singleton.1 aB];refine Bl ?_ ae iR aH;unfold nY;split<;>omega
  ·split at aB
   ·simp at aB
   ·have b8:fv (nth c.cQ k.toNat [])=0:=cq _ (iu (by omega) []);unfold xI at aB;split at aB
    ·simp at aB
    ·rename_i az;rcases List.mem_append.1 aB with aB|aB
     ·exact Ve b8 ae iR aH _ _ m aB
     ·rw[List.mem_singleton.1 aB];have:gd (ox ⟨2,k,(bN v.g.f).n,((nth c.cQ k.toNat []).length:Int),(nth c.r.targets k.toNat ⟨0,0,0⟩).image,[],false⟩)=0:=by
       unfold gd ox;simp only[List.length_nil];rw[if_neg (by omega)];rfl
      simp only[pM,this,Bool.and_eq_true,decide_eq_true_eq];exact⟨trivial,ae.2⟩
 ·exact aQ
theorem agT{v:cX}(aQ:fB v)(o:kb)(h:(lK v o).2=0):fB (lK v o).1:=by
 unfold lK at h |-
 by_cases c:(nB v o).2.2=0
 ·rw[if_pos c];have jU:=Gx c;unfold nB at c jU |-;have mD:=ZY (b:=v.b) (l:=v.s) (g:=v.g) (o:=o) (now:=v.now);obtain⟨a1,bf,ck,eP,gg,g6⟩:=Gw c;obtain⟨gm,hH,hW,qS,E1,WW,WX⟩:=YT gg;obtain⟨_,v1,v4,_⟩:=iH a1;have xH:(iU v.b v.s v.g o v.now).1.cH.length=v.g.cH.length:=by
   rw[g6];show(pe v.g (bN v.g.f) (ha v.b v.s v.g.t o v.now v.g.cH.length).1 o.r.version).1.cH.length=_;unfold pe;split
   ·exact Zj _ _
   ·obtain⟨_,_,jn,_⟩:=rO (r:=[1,(bN v.g.f).n+1,o.r.version]) (iH a1).1;exact jn
  have vt:dG (iU v.b v.s v.g o v.now).1=0:=by
   rcases mD with q|q
   ·exact q
   ·rw[q]at xH;have:(kK.cH.length)=0:=rfl;omega
  have aq:=aQ.n;have m6:=aQ.m6;have X:=aQ.gate vt xH;refine⟨aQ.b,aQ.s,vt,aQ.n.trans xH.symm,aQ.u,?_,aQ.lG,?_,aQ.m,aQ.t0,aQ.t1⟩
  ·show(q7 v.cr (iU v.b v.s v.g o v.now).2.1 o).length<=8;unfold q7;split
   ·simp;omega
   ·exact m6
  ·show(q7 v.cr (iU v.b v.s v.g o v.now).2.1 o).all (vb v.units.length)=true;unfold q7;split
   ·refine List.all_eq_true.2 fun x aG=>?_
    rcases List.mem_append.1 aG with q|q
    ·exact List.all_eq_true.1 aQ.c x (List.mem_of_mem_take q)
    ·rw[List.mem_singleton.1 q];exact QB.2 ⟨by show o.cQ.length=_;omega,by show o.r.targets.length=_;omega,qS,gm⟩
   ·exact aQ.c
 ·rw[if_neg c]at h;exact absurd h c
theorem YN{v:cX}(aQ:fB v){x:m4}(h:(fp v x).2=0):fB (fp v x).1:=by
 unfold fp at h |-
 by_cases bp:x.kind=1
 ·rw[if_pos bp]at h |-; exact agT aQ x.o h
 rw[if_neg bp]at h |-
 by_cases bc:x.kind=3\/x.kind=4\/x.kind=5
 ·rw[if_pos bc];exact aff aQ _ _
 rw[if_neg bc]at h |-
 by_cases cq:x.kind=6\/x.kind=7
 ·rw[if_pos cq];exact agS aQ _ _ _
 rw[if_neg cq]at h |-
 by_cases dq:x.kind=8
 ·rw[if_pos dq];exact abx aQ
 rw[if_neg dq]at h |-
 by_cases hE:x.kind=2\/x.kind=9
 ·rw[if_pos hE]at h |-
  by_cases gv:x.unit<0\/(v.units.length:Int)<=x.unit
  ·rw[if_pos gv];exact aQ
  ·rw[if_neg gv]
   by_cases r6:x.kind=2
   ·rw[if_pos r6];exact agP aQ
   ·rw[if_neg r6];exact ZS aQ (by omega) (by omega)
 rw[if_neg hE]at h |-
 by_cases gv:x.kind=10
 ·rw[if_pos gv];exact alG aQ
 ·rw[if_neg gv];exact aQ
end bF
end Go.Proofs.YtlbppjmekiemiabGreatDoor

/- Plain answers: any vehicle copied; what happens to a right one. No condition. -/
namespace Go.Proofs.YtlbppjmekiemiabGreatDoor
namespace bF

def XE(l:List (List Int)):Bool:=l.all fun w=>decide (w.length*8<=140737488355328)
def wA(c:hr):Bool:=decide (c.r.targets.length*24<=140737488355328)&&(decide (c.cQ.length*24<=140737488355328)&&XE c.cQ)
def ks(v:cX):Bool:=decide (v.g.f.words.length*8<=140737488355328)&&(decide (v.g.t.r.keys.length*8<=140737488355328)&&(decide (v.g.cH.length<=140737488355328)&&(decide (v.g.did.length<=140737488355328)&&(decide (v.b.length*16<=140737488355328)&&(decide (v.s.length*16<=140737488355328)&&(decide (v.units.length*56<=140737488355328)&&((v.units.all fun u=>decide (u.f.words.length*8<=140737488355328))&&(decide (v.cr.length*72<=140737488355328)&&(v.cr.all wA&&(decide (v.W.length*72<=140737488355328)&&(v.W.all fun m=>decide (m.words.length*8<=140737488355328))))))))))))
structure zM(v:cX):Prop where
 ws:v.g.f.words.length*8<=140737488355328
 aF:v.g.t.r.keys.length*8<=140737488355328
 aa:v.g.cH.length<=140737488355328
 ab:v.g.did.length<=140737488355328
 b:v.b.length*16<=140737488355328
 s:v.s.length*16<=140737488355328
 us:v.units.length*56<=140737488355328
 u:∀u∈v.units,u.f.words.length*8<=140737488355328
 cs:v.cr.length*72<=140737488355328
 c:∀c∈v.cr,wA c=true
 ns:v.W.length*72<=140737488355328
 m:∀m∈v.W,m.words.length*8<=140737488355328
theorem B4{v:cX}:ks v=true↔zM v:=by
 simp only[ks,Bool.and_eq_true,decide_eq_true_eq,List.all_eq_true];exact⟨fun⟨a,b,c,d,e,f,g,h,i,j,k,l⟩=>⟨a,b,c,d,e,f,g,h,i,j,k,l⟩,fun⟨a,b,c,d,e,f,g,h,i,j,k,l⟩=>⟨a,b,c,d,e,f,g,h,i,j,k,l⟩⟩
theorem B3{c:hr}:wA c=true↔c.r.targets.length*24<=140737488355328/\c.cQ.length*24<=140737488355328/\∀w∈c.cQ,w.length*8<=140737488355328:=by
 simp only[wA,XE,Bool.and_eq_true,decide_eq_true_eq,List.all_eq_true]
theorem YR{v:cX}(aQ:zM v):o3 v=true:=by
 refine B5.2 ⟨?_,?_,aQ.aa,aQ.ab,?_,?_,?_,List.all_eq_true.2 fun u hu=>decide_eq_true ?_,?_,List.all_eq_true.2 fun c aA=>?_,?_,List.all_eq_true.2 fun m aB=>decide_eq_true ?_⟩
 ·have:=aQ.ws;show _<=_;omega
 ·have:=aQ.aF;show _<=_;omega
 ·have:=aQ.b;omega
 ·have:=aQ.s;omega
 ·have:=aQ.us;omega
 ·have:=aQ.u u hu;omega
 ·have:=aQ.cs;omega
 ·obtain⟨a,b,d⟩:=B3.1 (aQ.c c aA);simp only[NO,Bool.and_eq_true,decide_eq_true_eq,hB,List.all_eq_true];exact⟨by omega,by omega,fun w b8=>by have:=d w b8;omega⟩
 ·have:=aQ.ns;omega
 ·have:=aQ.m m aB;omega
theorem ajb(v w:cX):o0 v w=(eF eqs v.b w.b&&(eF nG v.s w.s&&(BP v.g w.g&&(eF iZ v.units w.units&&(ar v.now w.now&&(kS v.W w.W&&eF ix v.cr w.cr)))))):=by
 unfold o0 BO BP BQ;generalize eF eqs v.b w.b=dI,eF nG v.s w.s=eD,eF iZ v.units w.units=a3,ar v.now w.now=a4,kS v.W w.W=mn,eF ix v.cr w.cr=mo,kR v.g.f w.g.f=oj,h3 v.g.up w.g.up=qd,ar v.g.t.version w.g.t.version=a9,ar v.g.t.r.version w.g.t.r.version=jf,ar v.g.t.r.dV w.g.t.r.dV=kf,gx v.g.t.r.keys w.g.t.r.keys=ot,mx v.g.cH w.g.cH=kx,mx v.g.did w.g.did=CE;cases dI<;>cases eD<;>cases a3<;>cases a4<;>cases mn<;>cases mo<;>simp[Bool.and_assoc]
def vi(now:Int):Int:=if now<0\/100000<now then 3 else 0
def hQ(n:Nat)(W:List Message)(now:Int):Int:=if nD n W=0 then vi now else nD n W
def na(n:Nat)(i:Int)(cs:List hr)(W:List Message)(now:Int):Int:=if ov n i cs=0 then hQ n W now else ov n i cs
def vh(n:Nat)(cs:List hr)(W:List Message)(now:Int):Int:=if 8<cs.length\/24<W.length then 2 else na n 1 cs W now
def kZ(n:Nat)(us:List c1)(cs:List hr)(W:List Message)(now:Int):Int:=if pj us=0 then vh n cs W now else pj us
def iO(b:List (List UInt8))(s:List Signed)(cx:Gate)(acc:List c1)(l:List (List Int)):cX×Int :=
 if (hV b l).2=0 then(⟨b,s,cx,acc++(hV b l).1,[],[],0⟩,0)else(iY,(hV b l).2)
theorem SZ(s:List UInt8)(l:List (List UInt8)):-1<=ev s l/\ev s l<(l.length:Int):=by
 have key:∀(l:List (List UInt8)) (k:Int),0<=k->-1<=hT k s l/\hT k s l<k+(l.length:Int):=by
  intro l
  induction l with
  |nil=>intro k ae;simp[hT];omega
  |cons x r de =>
   intro k ae;have:=de (k+1) (by omega);simp only[hT,List.length_cons];split<;>omega
 have:=key l 0 (Int.le_refl 0);unfold ev;omega
def qN(v:cX):Bool:=okW v&&(v.W.all fun m=>decide (gd m=0))
theorem xU{v:cX}:qN v=true↔fB v/\∀m∈v.W,gd m=0:=by
 simp only[qN,Bool.and_eq_true,oW,List.all_eq_true,decide_eq_true_eq]
theorem afA{v:cX}(h:mr v=0):qN v=true:=xU.2 ⟨Bv (xd h),fun m aB=>((xd h).m m aB).1⟩
def nR(v:cX)(x:m4):cX×Int:=if (fp v x).2=0 then((fp v x).1,0)else(iY,(fp v x).2)
theorem lD{v:cX}{x:m4}{w:cX}{e:Int}(h:fp v x=(w,e))(a2:e≠0):nR v x=(iY,e):=by unfold nR;rw[h,if_neg a2]
theorem oD{v:cX}{x:m4}{w:cX}(h:fp v x=(w,0)):nR v x=(w,0):=by unfold nR;rw[h,if_pos rfl]
theorem YL(v:cX){x:m4}(h:x.kind<1\/10<x.kind):fp v x=(v,4):=by
 unfold fp;rw[if_neg (by omega),if_neg (by omega),if_neg (by omega),if_neg (by omega),if_neg (by omega),if_neg (by omega)]
theorem YQ{v:cX}(aQ:fB v)(aB:∀m∈v.W,gd m=0):ks v=true:=by
 obtain⟨a1,bf,ck,eP⟩:=QG aQ.g;obtain⟨gi,iR⟩:=aQ.o4;have ay:=pg aQ.b;have av:=(Ag aQ.s).1;have dJ:=aQ.m6;have pC:=aQ.lG;refine B4.2 ⟨a1,bf,by simp only[len]at ck;omega,by simp only[len]at eP;omega,by omega,by omega,by omega,fun u hu=>?_,by omega,fun c aA=>?_,by omega,fun m qy=>?_⟩
 ·have:=(q9 (aQ.u u hu)).2.1;omega
 ·obtain⟨a,b,d,_⟩:=aQ.va c aA;exact B3.2 ⟨by omega,by omega,fun w b8=>by have:=(r8 (d w b8)).2.1;omega⟩
 ·have:=(ph (aB m qy)).2.2.2.2.2.2.2.2.2.2.1;omega
theorem afn{α:Type}{l:List α}{i:Nat}(h:i<l.length)(x d:α):nth (setAt l i x) i d=x:=by simp[nth,setAt,h]
theorem ajl{α:Type}(l:List α)(i:Nat)(x y:α):setAt (setAt l i x) i y=setAt l i y:=by simp[setAt]
theorem aeU{α:Type}(l:List α)(i:Nat)(x:α):len (setAt l i x)=len l:=by simp[setAt,len]
theorem Rd{α:Type}(l:List α)(k:Nat)(h:k<l.length):cat (aW l 0 k) (aW l (k+1) (k+1+(l.length-(k+1))))=l.eraseIdx k:=by
 rw[List.eraseIdx_eq_take_drop_succ,show k+1+(l.length-(k+1))=l.length by omega];simp[cat,aW]
end bF
end Go.Proofs.YtlbppjmekiemiabGreatDoor

/- Plain laws: a right vehicle stays one, whatever happens. No condition. -/
namespace Go.Proofs.YtlbppjmekiemiabGreatDoor
namespace bF

def nW(m:Message):Prop:=0<=m.image/\m.image<=60
theorem aao{m:Message}(h:gd (ox m)=0)(hi:nW m):gd m=0:=by
 obtain⟨I,G,Y,aS,bj,bK,c4,dJ,hd,lS,k5,mC⟩:=ph h;obtain⟨i1,i2⟩:=hi;unfold gd;simp only[ox]at I G Y aS bj bK c4 dJ k5 mC;rw[if_neg (by omega),if_pos mC]
theorem vH{W l:List Message}(h:∀m∈W,nW m)(az:∀m∈l,nW m):∀m∈hI W l,nW m:=fun m aB=>by
 unfold hI at aB;rcases List.mem_append.1 aB with q|q
 ·exact h m q
 ·exact az m (List.mem_of_mem_take q)
theorem SV{W:List Message}(h:∀m∈W,nW m)(k:Nat):∀m∈W.eraseIdx k,nW m:=fun m aB=>h m (List.mem_of_mem_eraseIdx aB)
theorem U0:∀{ts:List Target} {i:Int},j2 i ts=true->∀t∈ts,0<=t.image/\t.image<=60
 |[],_,_,t,bm=>by cases bm
 |x::r,i,h,t,bm=>by
  simp only[j2,Bool.and_eq_true]at h;rcases List.mem_cons.1 bm with rfl|bm
  ·have:=h.1;simp only[qM,Bool.and_eq_true,decide_eq_true_eq]at this;omega
  ·exact U0 h.2 t bm
theorem Vd(u n:Int)(w:List Int):∀(d k:Nat),∀m∈jq u n w d k,nW m
 |0,_,m,aB=>by simp[jq]at aB
 |d+1,k,m,aB=>by
  unfold jq at aB;split at aB
  ·rcases List.mem_cons.1 aB with rfl|aB
   ·exact⟨by simp[ur],by simp[ur]⟩
   ·exact Vd u n w d (k+8) m aB
  ·simp at aB
theorem aaK{g:Gate}{c:hr}{u:Int}(h:j2 0 c.r.targets=true):∀m∈(hw g c u).1,nW m:=by
 have none:∀m∈([]:List Message),nW m:=fun m aB=>by simp at aB
 have bg:∀k a b y,nW ⟨k,a,b,0,0,[],y⟩:=fun k a b y=>⟨by simp,by simp⟩
 unfold hw;split
 ·unfold tm;split
  ·split
   ·exact none
   ·intro m aB;rw[List.mem_singleton.1 aB];exact bg _ _ _ _
  ·split
   ·exact none
   ·unfold xI;split
    ·exact none
    ·intro m aB;rcases List.mem_append.1 aB with aB|aB
     ·exact Vd _ _ _ _ _ m aB
     ·rw[List.mem_singleton.1 aB]
      by_cases q:u.toNat<c.r.targets.length
      ·exact U0 h _ (iu q ⟨0,0,0⟩)
      ·have e:nth c.r.targets u.toNat ⟨0,0,0⟩=⟨0,0,0⟩:=by
        unfold nth;rw[List.getD_eq_getElem?_getD,List.getElem?_eq_none (by omega)];rfl
       show nW ⟨_,_,_,_,(nth c.r.targets u.toNat ⟨0,0,0⟩).image,_,_⟩;rw[e];exact⟨by simp,by simp⟩
 ·exact none
theorem aaq{v u:Int}{ts:List Target}(h:gG v u ts=0):j2 0 ts=true:=by
 unfold gG at h;split at h
 ·cases h
 ·split at h
  ·cases h
  ·by_cases q:j2 0 ts=true
   ·exact q
   ·rw[if_neg q]at h;cases h
theorem alk{v:cX}(aQ:fB v)(aB:∀m∈v.W,nW m){x:m4}(h:(fp v x).2=0):∀m∈(fp v x).1.W,nW m:=by
 have one:∀(l:List Message) k a b y,(l=[]\/l=[⟨k,a,b,0,0,[],y⟩])->∀m∈l,nW m:=fun l k a b y e m aB=>by
  rcases e with rfl|rfl
  ·simp at aB
  ·rw[List.mem_singleton.1 aB];exact⟨by simp,by simp⟩
 unfold fp at h |-
 by_cases bp:x.kind=1
 ·rw[if_pos bp];unfold lK;split
  ·exact aB
  ·exact aB
 rw[if_neg bp]at h |-
 by_cases bc:x.kind=3\/x.kind=4\/x.kind=5
 ·rw[if_pos bc];unfold j0;split
  ·exact aB
  split
  ·unfold iF;have b7:=SV aB x.k.toNat;split
   ·unfold CB;split
    ·rcases R1 (qj v x.k.toNat).g (v.W.getD x.k.toNat mP)with e|⟨k,e⟩
     ·exact vH b7 (one _ 0 0 0 false (.inl e))
     ·exact vH b7 (one _ _ _ _ _ (.inr e))
    ·exact b7
   ·unfold CC;split
    ·rcases R2 (qj v x.k.toNat).b (jd (qj v x.k.toNat) (v.W.getD x.k.toNat mP).unit) (v.W.getD x.k.toNat mP)with e|⟨k,y,e⟩
     ·exact vH b7 (one _ 0 0 0 false (.inl e))
     ·exact vH b7 (one _ _ _ _ _ (.inr e))
    ·exact b7
  split
  ·exact SV aB _
  split
  ·rename_i c _ _ _;split
   ·exact aB
   ·refine vH aB fun m q=>?_
    rw[List.mem_singleton.1 q];exact aB _ (iu (l:=v.W) (k:=x.k.toNat) (by omega) mP)
  ·exact aB
 rw[if_neg bc]at h |-
 by_cases cq:x.kind=6\/x.kind=7
 ·rw[if_pos cq];unfold j3;split;exact aB;split;exact aB;split
  ·split;exact aB;exact aB
  split;exact aB;exact aB
 rw[if_neg cq]at h |-
 by_cases dq:x.kind=8
 ·rw[if_pos dq];unfold rr;split;exact aB;exact aB
 rw[if_neg dq]at h |-
 by_cases hE:x.kind=2\/x.kind=9
 ·rw[if_pos hE]at h |-
  by_cases gv:x.unit<0\/(v.units.length:Int)<=x.unit
  ·rw[if_pos gv];exact aB
  rw[if_neg gv]at h |-
  by_cases r6:x.kind=2
  ·rw[if_pos r6];unfold lJ;split
   ·exact aB
   ·rename_i az;split
    ·refine vH aB (aaK ?_);have aw:=E4 aQ.g;rw[aw]at az;have nj:=(rP v.g.f).nj;unfold jh;rw[aw];simp only at az
     by_cases q:0<(bN v.g.f).n
     ·rw[if_pos q];obtain⟨_,_,_,a⟩:=aQ.va _ (iu (l:=v.cr) (k:=((bN v.g.f).n-1).toNat) (by omega) qK);exact aaq a
     ·rw[if_neg q];rfl
    ·exact aB
  ·rw[if_neg r6];unfold jP;split
   ·split
    ·exact aB
    ·exact vH aB (one _ _ _ _ _ (.inr rfl))
   ·exact aB
 rw[if_neg hE]at h |-
 by_cases gv:x.kind=10
 ·rw[if_pos gv];unfold uF;split;exact aB;exact aB
 ·rw[if_neg gv];exact aB
theorem afB{v:cX}(aG:qN v=true){x:m4}(h:(fp v x).2=0):qN (fp v x).1=true:=by
 obtain⟨aQ,aB⟩:=xU.1 aG;have gN:=YN aQ h;have aD:=alk aQ (fun m q=>by obtain⟨_,_,_,_,_,_,_,_,a,b,_⟩:=ph (aB m q);exact⟨a,b⟩) h;exact xU.2 ⟨gN,fun m q=>aao (gN.msg m q).1 (aD m q)⟩
theorem alv{v:cX}(h:qN v=true):o3 v=true:=YR (B4.1 (YQ (xU.1 h).1 (xU.1 h).2))
theorem zo:o3 iY=true:=rfl
theorem alw{v:cX}(h:qN v=true)(x:m4):o3 (nR v x).1=true:=by
 unfold nR;split
 ·rename_i q;exact alv (afB h q)
 ·exact zo
theorem UD{b:List (List UInt8)}(ay:fq b=0):∀(l:List (List Int)),(hV b l).1.length<=l.length/\∀u∈(hV b l).1,u.f.words.length<=192
 |[]=>⟨by simp[hV],fun u hu=>by simp[hV]at hu⟩
 |w::l=>by
  obtain⟨I,G⟩:=UD ay l;have none:([]:List c1).length<=(w::l).length/\∀u∈([]:List c1),u.f.words.length<=192:=⟨by simp,fun u hu=>by simp at hu⟩
  unfold hV;split
  ·rename_i c;split
   ·exact none
   ·rename_i bc;split
    ·split
     ·refine⟨by simp only[List.length_cons];omega,fun u hu=>?_⟩;rcases List.mem_cons.1 hu with rfl|hu
      ·have bp:fv w=0:=by
        unfold gH at c
        by_cases q:fv w=0
        ·exact q
        ·rw[if_neg q]at c;exact absurd c q
       have e:gH b w=(ev (kk w) b+1,0):=(if_pos bp).trans (if_pos ay);obtain⟨i1,i2⟩:=SZ (kk w) b;have Ph:=pg ay;rw[e]at bc |-;rw[KZ (name:=ev (kk w) b+1) bp (by simp only at bc;omega) (by omega)];have:=UE w (ev (kk w) b+1) (r8 bp).2.1;show(ug w (ev (kk w) b+1)).length<=192;omega
      ·exact G u hu
     ·exact none
    ·exact none
  ·exact none
theorem alx(b:List (List UInt8))(s:List Signed)(r:jN)(a8:List (List Int)):o3 (oU b s r a8).1=true:=by
 unfold oU
 by_cases I:fq b=0
 case neg=>rw[if_neg I];exact zo
 rw[if_pos I]
 by_cases G:hO s=0
 case neg=>rw[if_neg G];exact zo
 rw[if_pos G]
 by_cases Y:(jo r a8.length).2=0
 case neg=>rw[if_neg Y];exact zo
 rw[if_pos Y]
 by_cases aS:(hV b a8).2=0
 case neg=>rw[if_neg aS];exact zo
 rw[if_pos aS];have ay:=pg I;have av:=(Ag G).1;obtain⟨gD,n4⟩:=UO Y;have bt:O1 (jo r a8.length).1:=by
  by_cases q:gf r.version r.keys r.dV=0
  ·rw[KY gD n4 q];exact als (.inl (by rw[Es gD n4];exact q))
  ·rw[UN gD n4 q]at Y;exact absurd Y q
 obtain⟨a1,bf,ck,eP⟩:=bt;obtain⟨fc,gJ⟩:=UD I a8;exact B5.2 ⟨a1,bf,ck,eP,by show b.length<=_;omega,by show s.length<=_;omega,by show(hV b a8).1.length<=_;omega,List.all_eq_true.2 fun u hu=>decide_eq_true (by have:=gJ u hu;omega),by simp,rfl,by simp,rfl⟩
theorem alu{v:cX}(ay:iE (.E (.list .str) v.b))(av:iE (.E (.list .signed) v.s))(b8:iE (.E (.list .int) v.g.f.words))(ae:iE (.E (.list .int) v.g.t.r.keys))(aY:iE (.E (.list .bool) v.g.cH))(bH:iE (.E (.list .bool) v.g.did))
  (hu:iE (.E (.list .aO) v.units)) (aA:iE (.E (.list .aP) v.cr)) (aq:iE (.E (.list .message) v.W)):ks v=true:=by
 have L:∀{t:z} {l:List t.den},iE (.E (.list t) l)->l.length*t.bytes<=140737488355328:=fun h=>Nat.le_trans (NP h).1 (by decide)
 have gz:∀{t:z} {l:List t.den},iE (.E (.list t) l)->∀x∈l,∀(j:Nat) (c:C),(t.cells x)[j]? = some c->iE c:=fun {t l} h x aG j c e=>by
  obtain⟨i,hi,rfl⟩:=List.mem_iff_getElem.1 aG;exact(NP h).2 i j c hi (by simpa[nth,List.getD_eq_getElem?_getD,hi]using e)
 have ck:=L aY;have eP:=L bH;refine B4.2 ⟨L b8,L ae,by simpa[z.bytes]using ck,by simpa[z.bytes]using eP,L ay,L av,L hu,fun u h=>L (gz hu u h 0 _ rfl),L aA,fun c h=>B3.2 ⟨L (gz aA c h 3 _ rfl),L (gz aA c h 4 _ rfl),fun w G=>L (gz (gz aA c h 4 _ rfl) w G 0 _ rfl)⟩,L aq,fun m h=>L (gz aq m h 5 _ rfl)⟩
end bF
end Go.Proofs.YtlbppjmekiemiabGreatDoor
