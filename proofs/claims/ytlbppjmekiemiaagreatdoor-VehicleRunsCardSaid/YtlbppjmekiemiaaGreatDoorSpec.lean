/- Plain answers of the functions, and plain lemmas on them. No condition. -/
import Derived.Test.YtlbppjmekiemiaaGreatDoorVmd
import Derived.IntWalk
import Derived.Lib.ItoaNum
import Derived.Lib.Join
import Derived.KernelRfl
/- Plain answers: flash. No condition. -/
namespace Go.Proofs.YtlbppjmekiemiaaGreatDoor
namespace bE

def gj(a b:List Int):Bool:=decide (a=b)
def eS(w:Int):Bool:=decide (0<=w)&&decide (w<=65535)
def cK(l:List Int):Bool:=l.all eS
def lU(k:Int):List Int->Int
 |[]=>-1
 |w::l=>if eS w then lU (k+1) l else k
def lT(l:List Int):Int:=lU 0 l
def kK(n:Nat):Bool:=n==32||n==64||n==96||n==128||n==160||n==192
def e3(f:cm):Int :=
 if kK f.words.length then(if decide (-1<=f.fuel)&&decide (f.fuel<=100000)&&cK f.words then 0 else 3)else 4
def ky(fu:Int):Int:=if 0<fu then fu-1 else fu
def eI(ws:List Int)(cs:List Change):List Int:=cs.foldl (fun ws c=>ws.set c.at_.toNat (oI c.word (ws.getD c.at_.toNat 0))) ws
def b9(f:cm)(cs:List Change):cm×Bool :=
 if f.fuel<0 then(⟨eI f.words cs,f.fuel⟩,true)
 else if (cs.length:Int)<=f.fuel then(⟨eI f.words cs,f.fuel-cs.length⟩,true)
 else(⟨eI f.words (cs.take f.fuel.toNat),0⟩,false)
def hb(at_:Int):Nat->List Change
 |0=>[]
 |n+1=>⟨at_,none⟩::hb (at_+1) n
def eH(dG:Int):List Change:=hb (32*dG) 32
def cX(at_:Int):List Int->List Change
 |[]=>[]
 |w::l=>⟨at_,some w⟩::cX (at_+1) l
def mE:cm:=⟨[],0⟩
def j7(b:Bool):Int:=match b with|true=>0|false=>7
def gl(r:cm×Bool):cm×Int:=(r.1,j7 r.2)
def ja(f:cm)(at_:Int)(l:List Int):cm×Int :=
 if e3 f=0 then
  (if 0<=at_/\at_<=f.words.length/\(l.length:Int)<=f.words.length-at_ then
   (if cK l then gl (b9 f (cX at_ l))else(mE,3))
  else(mE,5))
 else(mE,e3 f)
def n9(a b:cm):Bool:=decide (a.fuel=b.fuel)&&gj a.words b.words
def tk(n:Int):cm×Int:=if 1<=n/\n<=6 then(⟨c6 (n*32).toNat 65535,-1⟩,0)else(mE,3)
def AG(f:cm)(at_ n:Int):List Int×Int :=
 if e3 f=0 then
  (if 0<=at_/\0<=n/\at_+n<=f.words.length then(a2 f.words at_.toNat (at_+n).toNat,0)else([],5))
 else([],e3 f)
def k5(n:Nat)(cs:List Change):Bool:=cs.all fun c=>decide (0<=c.at_)&&decide (c.at_<n)
def nv:Int:=18446744073709551616
def uT(a:Int):Bool:=decide (0<=a)&&decide (a<18446744073709551616)
end bE
end Go.Proofs.YtlbppjmekiemiaaGreatDoor

/- Plain lemmas for the conditions of runs. No condition. -/
namespace Go.Proofs.YtlbppjmekiemiaaGreatDoor
namespace bE

theorem cc{n:Int}(I:-9223372036854775808<=n)(G:n<=9223372036854775807):W n=n:=by
 unfold W IntKind.wrap;simp only[IntKind.signed,IntKind.bits];simp;omega

theorem oS{a b:Int}:aN a b=true↔a<b:=by simp[aN]
theorem wY{a b:Int}:aN a b=false↔b<=a:=by simp[aN]
theorem fV{a b:Int}:dc a b=true↔a<=b:=by simp[dc]
theorem eC{a b:Int}:dc a b=false↔b<a:=by simp[dc]
theorem kA{a b:Int}:au a b=true↔a=b:=by simp[au]
theorem oy{a b:Int}:au a b=false↔a≠b:=by simp[au]
theorem HQ{a b:List UInt8}:eqs a b=true↔a=b:=by simp[eqs]
theorem HP{a b:List UInt8}:eqs a b=false↔a≠b:=by simp[eqs]
theorem not_true{b:Bool}:(!b)=true↔b=false:=by cases b<;>simp
theorem not_false{b:Bool}:(!b)=false↔b=true:=by cases b<;>simp
theorem gb{b:Bool}{p q:Prop}(h:b=true)(ag:p):J b p q:=by subst h;exact ag
theorem fa{b:Bool}{p q:Prop}(h:b=false)(aI:q):J b p q:=by subst h;exact aI
theorem cn{b:Bool}{p q:Prop}(ag:b=true->p)(aI:b=false->q):J b p q:=by cases b;exact aI rfl;exact ag rfl
theorem acv{α:Type}(l:List α):len l=l.length:=rfl
theorem cS{a b:Int}{p q:Prop}(h:a<b)(ag:p):J (aN a b) p q:=gb (oS.2 h) ag
theorem co{a b:Int}{p q:Prop}(h:b<=a)(aI:q):J (aN a b) p q:=fa (wY.2 h) aI
theorem bq{a b:Int}{p q:Prop}(ag:a<b->p)(aI:b<=a->q):J (aN a b) p q:=cn (fun h=>ag (oS.1 h)) (fun h=>aI (wY.1 h))
theorem ji{a b:Int}{p q:Prop}(h:a=b)(ag:p):J (au a b) p q:=gb (kA.2 h) ag
theorem iC{a b:Int}{p q:Prop}(h:a≠b)(aI:q):J (au a b) p q:=fa (oy.2 h) aI
theorem cz{a b:Int}{p q:Prop}(ag:a=b->p)(aI:a≠b->q):J (au a b) p q:=cn (fun h=>ag (kA.1 h)) (fun h=>aI (oy.1 h))
theorem Tk{a b:Int}{p q:Prop}(h:a≠b)(ag:p):J (!au a b) p q:=gb (not_true.2 (oy.2 h)) ag
theorem u5{a b:Int}{p q:Prop}(h:a=b)(aI:q):J (!au a b) p q:=fa (not_false.2 (kA.2 h)) aI
theorem bN{a b:Int}{p q:Prop}(ag:a≠b->p)(aI:a=b->q):J (!au a b) p q:=cn (fun h=>ag (oy.1 (not_true.1 h))) (fun h=>aI (kA.1 (not_false.1 h)))
theorem eF{b:Bool}{p q:Prop}(ag:b=false->p)(aI:b=true->q):J (!b) p q:=cn (fun h=>ag (not_true.1 h)) (fun h=>aI (not_false.1 h))
theorem JU{b:Bool}{p q:Prop}(h:b=false)(ag:p):J (!b) p q:=gb (not_true.2 h) ag
theorem Aq{b:Bool}{p q:Prop}(h:b=true)(aI:q):J (!b) p q:=fa (not_false.2 h) aI
theorem ep{α:Type}{l:List α}{k:Nat}(h:k<l.length)(d:α):l.drop k=nth l k d::l.drop (k+1):=by
 rw[List.drop_eq_getElem_cons h];simp[nth,List.getD_eq_getElem?_getD,h]
def eQ{α:Type}(l:List α):Prop:=l.length<=140737488355328
theorem cM(n:Nat):Int.toNat (n:Int)=n:=rfl
theorem di{k:Nat}(h:k<9223372036854775807):W ((k:Int)+1)=((k+1:Nat):Int):=by rw[cc (by omega) (by omega)];omega
theorem ie{α:Type}{l:List α}{k:Nat}(h:k<l.length)(d:α):l.take (k+1)=l.take k++[nth l k d]:=by
 rw[List.take_succ_eq_append_getElem h];simp[nth,List.getD_eq_getElem?_getD,h]
theorem BC{α:Type}{p:α->Bool}{l:List α}{k:Nat}(h:k<l.length)(d:α)(bl:(l.take k).all p=true)(bO:p (nth l k d)=true):(l.take (k+1)).all p=true:=by
 rw[ie h d,List.all_append,bl];simp[bO]
theorem all_false{α:Type}{p:α->Bool}{l:List α}{k:Nat}(h:k<l.length)(d:α)(bO:p (nth l k d)=false):l.all p=false:=by
 rw[<- List.take_append_drop k l,List.all_append,ep h d];simp[bO]
theorem HG(f:cm):b9 f []=(f,true):=by
 unfold b9;cases f with
 |mk ws fu =>
  simp only[eI,List.foldl_nil,List.length_nil];split
  ·rfl
  ·rw[if_pos (by simp;omega)];simp
theorem HE(ws:List Int)(fu:Int)(c:Change)(cs:List Change) :
  b9 ⟨ws,fu⟩ (c::cs)=if fu=0 then(⟨ws,0⟩,false)else b9 ⟨ws.set c.at_.toNat (oI c.word (ws.getD c.at_.toNat 0)),ky fu⟩ cs:=by
 unfold b9 ky;simp only[List.length_cons]
 by_cases a6:fu=0
 ·subst a6;simp only[if_true];rw[if_neg (by omega),if_neg (by omega)];simp[eI]
 ·rw[if_neg a6]
  by_cases I:fu<0
  ·rw[if_pos I,if_neg (show ¬0<fu by omega),if_pos I];simp[eI]
  ·rw[if_neg I,if_pos (show 0<fu by omega),if_neg (show ¬fu-1<0 by omega)]
   by_cases G:((cs.length+1:Nat):Int)<=fu
   ·rw[if_pos G,if_pos (by omega)];simp only[eI,List.foldl_cons];congr 2;omega
   ·rw[if_neg G,if_neg (by omega)];have:fu.toNat=(fu-1).toNat+1:=by omega
    rw[this,List.take_succ_cons];simp[eI]
theorem sr(cs:List Change):∀ws:List Int,(eI ws cs).length=ws.length:=by
 induction cs with
 |nil=>intro ws;rfl
 |cons c cs dd=>intro ws;simp only[eI,List.foldl_cons];exact(dd _).trans (by simp)
theorem sz(f:cm)(cs:List Change):(b9 f cs).1.words.length=f.words.length:=by
 unfold b9;split
 ·exact sr _ _
 ·split
  ·exact sr _ _
  ·exact sr _ _
theorem A9(a:Int):∀n,(hb a n).length=n:=by
 intro n
 induction n generalizing a with
 |zero=>rfl
 |succ n dd=>simp[hb,dd]
theorem lP:∀(l:List Int) (a:Int),(cX a l).length=l.length
 |[],_=>rfl
 |w::l,a=>by simp[cX,lP l]
end bE
end Go.Proofs.YtlbppjmekiemiaaGreatDoor

/- Plain lemmas on flash. No condition. -/
namespace Go.Proofs.YtlbppjmekiemiaaGreatDoor
namespace bE

theorem NQ(n m:Nat)(aq:n<65536)(aB:m<65536):qm (n:Int) (m:Int)=((n &&& m:Nat):Int):=by
 have I:n &&& m<=n:=Nat.and_le_left;have e:(BitVec.ofInt 64 (n:Int) &&& BitVec.ofInt 64 (m:Int)).toNat=n &&& m:=by
  rw[BitVec.toNat_and];have ei:(BitVec.ofInt 64 (n:Int)).toNat=n:=by rw[BitVec.ofInt_natCast,BitVec.toNat_ofNat];omega
  have eU:(BitVec.ofInt 64 (m:Int)).toNat=m:=by rw[BitVec.ofInt_natCast,BitVec.toNat_ofNat];omega
  rw[ei,eU]
 unfold qm;rw[e,cc (by omega) (by omega)]

theorem DC{w:Int}(h:eS w=true):∃n:Nat,w=n/\n<65536:=by
 simp only[eS,Bool.and_eq_true,decide_eq_true_eq]at h;exact⟨w.toNat,by omega,by omega⟩
theorem adb{n:Nat}(h:n<65536):eS (n:Int)=true:=by simp[eS];omega
theorem ada{a b:Int}(bh:eS a=true)(aA:eS b=true):eS (qm a b)=true:=by
 obtain⟨n,rfl,aq⟩:=DC bh;obtain⟨m,rfl,aB⟩:=DC aA;rw[NQ n m aq aB];exact adb (Nat.lt_of_le_of_lt Nat.and_le_left aq)
theorem BD{a:Int}(bh:eS a=true):qm 65535 a=a:=by
 obtain⟨n,rfl,aq⟩:=DC bh;have:=NQ 65535 n (by omega) aq;rw[show((65535:Nat):Int)=65535 from rfl]at this;rw[this,Nat.and_comm,show(65535:Nat)=2 ^ 16-1 from rfl,Nat.and_two_pow_sub_one_of_lt_two_pow (by omega)]

theorem r3{l:List Int}(h:cK l=true)(i:Nat)(hi:i<l.length):eS (l.getD i 0)=true:=by
 have:=List.all_eq_true.1 h (l[i]) (List.getElem_mem hi);simpa[List.getD_eq_getElem?_getD,hi]using this
theorem adf{l:List Int}(h:∀i,i<l.length->eS (l.getD i 0)=true):cK l=true:=by
 refine List.all_eq_true.2 fun w cb=>?_
 obtain⟨i,hi,rfl⟩:=List.getElem_of_mem cb;simpa[List.getD_eq_getElem?_getD,hi]using h i hi
theorem adg{l:List Int}(h:cK l=true)(k:Nat):cK (l.take k)=true:=List.all_eq_true.2 fun w cb=>List.all_eq_true.1 h w (List.mem_of_mem_take cb)
theorem ade{l:List Int}(h:cK l=true)(k:Nat):cK (l.drop k)=true:=List.all_eq_true.2 fun w cb=>List.all_eq_true.1 h w (List.mem_of_mem_drop cb)

theorem zm{a b:List Int}(ax:a.length=b.length)(h:∀i,i<a.length->a.getD i 0=b.getD i 0):a=b:=by
 refine List.ext_getElem ax fun i I G=>?_
 have:=h i I;simpa[List.getD_eq_getElem?_getD,I,G]using this

theorem AR(l:List Int)(j i:Nat)(x:Int):(l.set j x).getD i 0=if i=j/\j<l.length then x else l.getD i 0:=by
 simp only[List.getD_eq_getElem?_getD,List.getElem?_set]
 by_cases e:j=i
 ·subst e
  by_cases ax:j<l.length
  ·simp[ax]
  ·simp[ax]
 ·rw[if_neg e,if_neg (fun h=>e h.1.symm)]

theorem v5(a b:List Change)(ws:List Int):eI ws (a++b)=eI (eI ws a) b:=by simp[eI,List.foldl_append]
theorem v6(c:Change)(cs:List Change)(ws:List Int):eI ws (c::cs)=eI (ws.set c.at_.toNat (oI c.word (ws.getD c.at_.toNat 0))) cs:=rfl

theorem y1:∀(l:List Int) (a:Int) (ws:List Int),0<=a->a+(l.length:Nat)<=(ws.length:Nat)->∀i:Nat,
  (eI ws (cX a l)).getD i 0=if a<=i/\(i:Int)<a+(l.length:Nat)then qm (ws.getD i 0) (l.getD (i-a.toNat) 0)else ws.getD i 0
 |[],a,ws,a6,I,i=>by
  rw[if_neg (by simp only[List.length_nil];omega)];rfl
 |w::l,a,ws,a6,I,i=>by
  simp only[List.length_cons]at I |-;simp only[cX,v6];rw[y1 l (a+1) _ (by omega) (by simp;omega) i,AR]
  by_cases bA:i=a.toNat
  ·rw[if_neg (by omega),if_pos ⟨bA,by omega⟩,if_pos (by omega)];subst bA;simp[oI]
  ·have aO:(if i=a.toNat/\a.toNat<ws.length then oI (some w) (ws.getD a.toNat 0)else ws.getD i 0)=ws.getD i 0:=if_neg (by omega);rw[aO]
   by_cases bb:a+1<=i/\(i:Int)<a+1+(l.length:Nat)
   ·rw[if_pos bb,if_pos (by omega)];congr 1;rw[show i-a.toNat=(i-(a+1).toNat)+1 by omega,List.getD_cons_succ]
   ·rw[if_neg bb,if_neg (by omega)]

theorem N9:∀(l m:List Int) (a:Int),cX a (l++m)=cX a l++cX (a+(l.length:Nat)) m
 |[],m,a=>by simp[cX]
 |w::l,m,a=>by
  simp only[List.cons_append,cX,N9 l m,List.length_cons];rw[show a+1+(l.length:Int)=a+((l.length+1:Nat):Int)by omega]

theorem jh{f:cm}(h:e3 f=0):kK f.words.length=true/\-1<=f.fuel/\f.fuel<=100000/\cK f.words=true:=by
 unfold e3 at h;split at h
 ·split at h
  ·rename_i I G;simp only[Bool.and_eq_true,decide_eq_true_eq]at G;exact⟨I,G.1.1,G.1.2,G.2⟩
  ·cases h
 ·cases h
theorem Cl{f:cm}(I:kK f.words.length=true)(G:-1<=f.fuel)(ab:f.fuel<=100000)(aV:cK f.words=true):e3 f=0:=by
 unfold e3;rw[if_pos I,if_pos (by simp[G,ab,aV])]
theorem q1{n:Nat}(h:kK n=true):32<=n/\n<=192:=by
 simp[kK]at h;omega

theorem aew{f:cm}{a:Int}{l:List Int}(I:kK f.words.length=true)(G:-1<=f.fuel)(ab:f.fuel<=100000)(aV:cK f.words=true)(br:0<=a)(bV:a+(l.length:Nat)<=(f.words.length:Nat))(dm:cK l=true) :
  ja f a l=gl (b9 f (cX a l)):=by
 unfold ja;rw[if_pos (Cl I G ab aV),if_pos (by omega),if_pos dm]
theorem Ka{f:cm}{a:Int}{l:List Int}(h:(ja f a l).2=0\/(ja f a l).2=7):kK f.words.length=true/\-1<=f.fuel/\f.fuel<=100000/\cK f.words=true/\0<=a/\a+(l.length:Nat)<=(f.words.length:Nat)/\cK l=true:=by
 unfold ja at h
 by_cases c:e3 f=0
 ·rw[if_pos c]at h;obtain⟨bK,bX,dh,eW⟩:=jh c
  by_cases bb:0<=a/\a<=(f.words.length:Int)/\(l.length:Int)<=f.words.length-a
  ·rw[if_pos bb]at h
   by_cases cr:cK l=true
   ·exact⟨bK,bX,dh,eW,bb.1,by omega,cr⟩
   ·rw[if_neg cr]at h;simp at h
  ·rw[if_neg bb]at h;simp at h
 ·rw[if_neg c]at h;simp only at h;rcases h with h|h
  ·exact absurd h c
  ·unfold e3 at h;split at h
   ·split at h<;>simp at h
   ·simp at h
theorem Y1{ws:List Int}{cs:List Change}:b9 ⟨ws,-1⟩ cs=(⟨eI ws cs,-1⟩,true):=by simp[b9]
theorem HF{ws:List Int}{fu:Int}{cs:List Change}(h:(cs.length:Int)<=fu):b9 ⟨ws,fu⟩ cs=(⟨eI ws cs,fu-cs.length⟩,true):=by
 unfold b9;rw[if_neg (by simp;omega),if_pos (by simpa using h)]
theorem LW{α:Type}(l:List α)(k:Nat):a2 l 0 k=l.take k:=by simp[a2]
theorem V1{α:Type}(l:List α)(k:Nat):a2 l k l.length=l.drop k:=by simp[a2]
theorem Xx:∀(n:Nat) (a:Int) (ws:List Int),0<=a->a+(n:Nat)<=(ws.length:Nat)->∀i:Nat,
  (eI ws (hb a n)).getD i 0=if a<=i/\(i:Int)<a+(n:Nat)then 65535 else ws.getD i 0
 |0,a,ws,a6,I,i=>by
  rw[if_neg (by omega)];rfl
 |n+1,a,ws,a6,I,i=>by
  simp only[hb,v6];rw[Xx n (a+1) _ (by omega) (by simp;omega) i,AR]
  by_cases bA:i=a.toNat
  ·rw[if_neg (by omega),if_pos ⟨bA,by omega⟩,if_pos (by omega)];rfl
  ·have aO:(if i=a.toNat/\a.toNat<ws.length then oI none (ws.getD a.toNat 0)else ws.getD i 0)=ws.getD i 0:=if_neg (by omega);rw[aO]
   by_cases bb:a+1<=i/\(i:Int)<a+1+(n:Nat)
   ·rw[if_pos bb,if_pos (by omega)]
   ·rw[if_neg bb,if_neg (by omega)]
theorem Oa:∀(l:List Int) (a:Int) (k:Nat),(cX a l).take k=cX a (l.take k)
 |[],_,_=>by simp[cX]
 |_::_,_,0=>rfl
 |w::l,a,k+1=>by simp only[cX,List.take_succ_cons,Oa l]
theorem o4(l:List Int)(a b i:Nat)(h:a+i<b):(a2 l a b).getD i 0=l.getD (a+i) 0:=by
 simp only[a2,List.getD_eq_getElem?_getD,List.getElem?_drop,List.getElem?_take];rw[if_pos h]
theorem EG(n:Nat):∀(m:Nat) (a:Int),0<=a->a+m<=n->k5 n (hb a m)=true
 |0,_,_,_=>rfl
 |m+1,a,a6,I=>by
  have:=EG n m (a+1) (by omega) (by omega);unfold k5 at this |-;simp only[hb,List.all_cons,this,Bool.and_true];simp[a6];omega
theorem wb(n:Nat):∀(l:List Int) (a:Int),0<=a->a+(l.length:Nat)<=n->k5 n (cX a l)=true
 |[],_,_,_=>rfl
 |w::l,a,a6,I=>by
  simp only[List.length_cons]at I;have:=wb n l (a+1) (by omega) (by omega);unfold k5 at this |-;simp only[cX,List.all_cons,this,Bool.and_true];simp[a6];omega
end bE
end Go.Proofs.YtlbppjmekiemiaaGreatDoor

/- Plain answers and lemmas: slots. No condition. -/
namespace Go.Proofs.YtlbppjmekiemiaaGreatDoor
namespace bE

def eY(f:cm)(slot:Int):Int :=
 if e3 f=0 then(if f.words.length=192 then(if slot=0\/slot=1 then 0 else 5)else 4)else e3 f
def ze(slot:Int):List Change:=eH (2+2*slot)++eH (3+2*slot)
def hh(f:cm)(slot:Int):cm×Int :=
 if eY f slot=0 then gl (b9 f (ze slot))else(mE,eY f slot)
def fb(f:cm)(slot at_:Int)(l:List Int):cm×Int :=
 if eY f slot=0 then(if 0<=at_/\at_<=40/\(l.length:Int)<=40-at_ then ja f (68+64*slot+at_) l else(mE,2))else(mE,eY f slot)
def l9(dp name:Int):Bool:=decide (1<=dp)&&decide (dp<=40)&&decide (1<=name)&&decide (name<=60)
def Iz(dp name:Int):List Int:=[dp,name,65535-dp,65535-name]
def gB(f:cm)(slot dp name:Int):cm×Int :=
 if eY f slot=0 then(if l9 dp name then ja f (64+64*slot) (Iz dp name)else(mE,3))else(mE,eY f slot)
def mT(f:cm)(slot n:Int):List Int×Int :=
 if eY f slot=0 then(if 0<=n/\n<=40 then(a2 f.words (68+64*slot).toNat (68+64*slot+n).toNat,0)else([],2))else([],eY f slot)
def ob(ws:List Int)(b:Nat):Bool :=
 l9 (ws.getD b 0) (ws.getD (b+1) 0)&&decide (ws.getD (b+2) 0=65535-ws.getD b 0)&&decide (ws.getD (b+3) 0=65535-ws.getD (b+1) 0)
def lO(slot:Int):Nat:=(64+64*slot).toNat
def na(ws:List Int)(slot:Int):List Int×Int :=
 if ob ws (lO slot)then(a2 ws (lO slot+4) (lO slot+4+(ws.getD (lO slot) 0).toNat),ws.getD (lO slot+1) 0)else([],0)
def lu(f:cm)(slot:Int):List Int×Int×Int :=
 if eY f slot=0 then((na f.words slot).1,(na f.words slot).2,if ob f.words (lO slot)then 0 else 4)else([],0,eY f slot)

theorem Ct{ws:List Int}{fu:Int}{cs:List Change}(h:¬(cs.length:Int)<=fu)(a6:0<=fu):b9 ⟨ws,fu⟩ cs=(⟨eI ws (cs.take fu.toNat),0⟩,false):=by
 unfold b9;rw[if_neg (by simp only;omega),if_neg (by simpa using h)]
theorem wq(f:cm)(a b:List Change):b9 f (a++b)=if (b9 f a).2 then b9 (b9 f a).1 b else b9 f a:=by
 obtain⟨ws,fu⟩:=f
 by_cases I:fu<0
 ·have e:∀(vs:List Int) (cs:List Change),b9 ⟨vs,fu⟩ cs=(⟨eI vs cs,fu⟩,true):=fun vs cs=>by simp[b9,I]
  rw[e,e,if_pos rfl,e,v5]
 ·by_cases G:(a.length:Int)<=fu
  ·rw[HF (cs:=a) G,if_pos rfl]
   by_cases ab:(b.length:Int)<=fu-a.length
   ·rw[HF (cs:=b) ab,HF (by rw[List.length_append];omega),v5,List.length_append];rw[show fu-((a.length+b.length:Nat):Int)=fu-a.length-b.length by omega]
   ·rw[Ct (by rw[List.length_append];omega) (by omega),Ct (by omega) (by omega)];rw[show fu.toNat=a.length+(fu-a.length).toNat by omega,List.take_length_add_append,v5]
  ·rw[Ct (by rw[List.length_append];omega) (by omega),Ct (cs:=a) (by omega) (by omega),List.take_append_of_le_length (by omega)];rfl
theorem ajs(n:Nat)(aq:n<65536):hQ 65535 (n:Int)=65535-(n:Int):=by
 have I:(65535:Nat) ^^^ n=65535-n:=by
  have:BitVec.ofNat 16 65535 ^^^ BitVec.ofNat 16 n=BitVec.ofNat 16 65535-BitVec.ofNat 16 n:=by
   have:=BitVec.not_eq_neg_add (BitVec.ofNat 16 n);rw[show BitVec.ofNat 16 65535=BitVec.allOnes 16 from rfl,BitVec.allOnes_xor,BitVec.allOnes_sub_eq_not]
  have:=congrArg BitVec.toNat this;rw[BitVec.toNat_xor,BitVec.toNat_sub,BitVec.toNat_ofNat,BitVec.toNat_ofNat]at this;rw[Nat.mod_eq_of_lt (show 65535<2 ^ 16 by decide),Nat.mod_eq_of_lt (show n<2 ^ 16 by omega)]at this;omega
 have e:(BitVec.ofInt 64 65535 ^^^ BitVec.ofInt 64 (n:Int)).toNat=65535-n:=by
  rw[BitVec.toNat_xor];have eU:(BitVec.ofInt 64 (n:Int)).toNat=n:=by rw[BitVec.ofInt_natCast,BitVec.toNat_ofNat];omega
  rw[eU,show(BitVec.ofInt 64 65535).toNat=65535 from rfl,I]
 unfold hQ;rw[e,cc (by omega) (by omega)];omega
theorem EI{a:Int}(a6:0<=a)(I:a<=65535):hQ 65535 a=65535-a:=by
 obtain⟨n,rfl⟩:=Int.eq_ofNat_of_zero_le a6;exact ajs n (by omega)
theorem rq{f:cm}{slot:Int}(h:eY f slot=0):e3 f=0/\f.words.length=192/\(slot=0\/slot=1):=by
 unfold eY at h;split at h
 ·rename_i I;split at h
  ·rename_i G;split at h
   ·rename_i ab;exact⟨I,G,ab⟩
   ·cases h
  ·cases h
 ·exact absurd h ‹_›
theorem Pn(f:cm):e3 f=0\/e3 f=3\/e3 f=4:=by
 unfold e3;split
 ·split
  ·exact .inl rfl
  ·exact .inr (.inl rfl)
 ·exact .inr (.inr rfl)
theorem ru(f:cm)(cs:List Change)(I:-1<=f.fuel)(G:f.fuel<=100000):-1<=(b9 f cs).1.fuel/\(b9 f cs).1.fuel<=100000:=by
 unfold b9;split
 ·exact⟨I,G⟩
 ·split
  ·simp only;omega
  ·simp only;omega
theorem va{w:Int}(h:eS w=true):0<=w/\w<=65535:=by
 simpa only[eS,Bool.and_eq_true,decide_eq_true_eq]using h
theorem agN(l:List Int)(a b c d:Nat)(h:a+d<=b):a2 (a2 l a b) c d=a2 l (a+c) (a+d):=by
 simp only[a2,List.take_drop,List.drop_drop,List.take_take];rw[Nat.min_eq_left h]
theorem agL{α:Type}(l:List α)(a b:Nat){n:Nat}(h:l.length<=n):(a2 l a b).length<=n:=by
 simp only[a2,List.length_drop,List.length_take];omega
theorem ab9(ws:List Int)(s:Int){n:Nat}(h:ws.length<=n):(na ws s).1.length<=n:=by
 unfold na;split
 ·exact agL _ _ _ h
 ·exact Nat.zero_le _
end bE
end Go.Proofs.YtlbppjmekiemiaaGreatDoor

/- Plain lemmas: what changes leave alone. No condition. -/
namespace Go.Proofs.YtlbppjmekiemiaaGreatDoor
namespace bE

def within(a b:Int)(cs:List Change):Bool:=cs.all fun c=>decide (a<=c.at_)&&decide (c.at_<b)
theorem Ba{a b:Int}{xs ys:List Change}(I:within a b xs=true)(G:within a b ys=true):within a b (xs++ys)=true:=by
 unfold within at *; rw[List.all_append,I,G];rfl
theorem EH{a b:Int}{xs:List Change}(h:within a b xs=true)(k:Nat):within a b (xs.take k)=true :=
 List.all_eq_true.2 fun c az=>List.all_eq_true.1 h c (List.mem_of_mem_take az)
theorem Bb(a b:Int):∀(n:Nat) (p:Int),a<=p->p+(n:Nat)<=b->within a b (hb p n)=true
 |0,_,_,_=>rfl
 |n+1,p,a6,I=>by
  have:=Bb a b n (p+1) (by omega) (by omega);unfold within at this |-;simp only[hb,List.all_cons,this,Bool.and_true,Bool.and_eq_true,decide_eq_true_eq];omega
theorem sk(a b:Int):∀(l:List Int) (p:Int),a<=p->p+(l.length:Nat)<=b->within a b (cX p l)=true
 |[],_,_,_=>rfl
 |w::l,p,a6,I=>by
  simp only[List.length_cons]at I;have:=sk a b l (p+1) (by omega) (by omega);unfold within at this |-;simp only[cX,List.all_cons,this,Bool.and_true,Bool.and_eq_true,decide_eq_true_eq];omega
theorem ss{a b:Int}(a6:0<=a):∀(cs:List Change) (ws:List Int),within a b cs=true->∀i:Nat,(i:Int)<a\/b<=i->(eI ws cs).getD i 0=ws.getD i 0
 |[],_,_,_,_=>rfl
 |c::cs,ws,h,i,hi=>by
  unfold within at h;simp only[List.all_cons,Bool.and_eq_true,decide_eq_true_eq]at h;rw[v6,ss a6 cs _ (by unfold within;simpa using h.2) i hi,AR,if_neg (by omega)]
theorem PH{a b:Int}(a6:0<=a)(f:cm)(cs:List Change)(h:within a b cs=true)(i:Nat)(hi:(i:Int)<a\/b<=i):(b9 f cs).1.words.getD i 0=f.words.getD i 0:=by
 unfold b9;split
 ·exact ss a6 _ _ h i hi
 ·split
  ·exact ss a6 _ _ h i hi
  ·exact ss a6 _ _ (EH h _) i hi
theorem agK{xs ws:List Int}(c d:Nat)(ax:xs.length=ws.length)(h:∀i,c<=i->i<d->xs.getD i 0=ws.getD i 0):a2 xs c d=a2 ws c d:=by
 refine zm (by simp[a2,ax]) fun i hi=>?_
 have hi:c+i<d:=by simp[a2]at hi;omega
 rw[o4 _ _ _ _ hi,o4 _ _ _ _ hi];exact h _ (by omega) hi
theorem YK(f:cm)(s:Int):eY f s=0\/eY f s=3\/eY f s=4\/eY f s=5:=by
 have:=Pn f;unfold eY;split
 ·split
  ·split
   ·exact .inl rfl
   ·exact .inr (.inr (.inr rfl))
  ·exact .inr (.inr (.inl rfl))
 ·omega
theorem Hu{f:cm}{s:Int}(h:¬eY f s=0):¬(eY f s=0\/eY f s=7):=by
 have:=YK f s;omega
theorem YQ{f:cm}{s:Int}(h:(hh f s).2=0\/(hh f s).2=7):eY f s=0/\hh f s=gl (b9 f (ze s)):=by
 unfold hh at h |-
 by_cases c:eY f s=0
 ·rw[if_pos c];exact⟨c,rfl⟩
 ·rw[if_neg c]at h;exact absurd h (Hu c)
theorem agF{f:cm}{s n m:Int}(h:(gB f s n m).2=0\/(gB f s n m).2=7):eY f s=0/\l9 n m=true/\gB f s n m=ja f (64+64*s) (Iz n m):=by
 unfold gB at h |-
 by_cases c:eY f s=0
 ·rw[if_pos c]at h |-
  by_cases bb:l9 n m=true
  ·rw[if_pos bb];exact⟨c,bb,rfl⟩
  ·rw[if_neg bb]at h;simp at h
 ·rw[if_neg c]at h;exact absurd h (Hu c)
theorem Zw{f:cm}{s a:Int}{l:List Int}(h:(fb f s a l).2=0\/(fb f s a l).2=7):eY f s=0/\(0<=a/\a<=40/\(l.length:Int)<=40-a)/\fb f s a l=ja f (68+64*s+a) l:=by
 unfold fb at h |-
 by_cases c:eY f s=0
 ·rw[if_pos c]at h |-
  by_cases bb:0<=a/\a<=40/\(l.length:Int)<=40-a
  ·rw[if_pos bb];exact⟨c,bb,rfl⟩
  ·rw[if_neg bb]at h;simp at h
 ·rw[if_neg c]at h;exact absurd h (Hu c)
theorem TM{f:cm}{a:Int}{l:List Int}(h:(ja f a l).2=0\/(ja f a l).2=7):ja f a l=gl (b9 f (cX a l)):=by
 obtain⟨I,G,ab,aV,br,bV,dm⟩:=Ka h;exact aew I G ab aV br bV dm
theorem YL{ws:List Int}{fu:Int}{t:Nat}(I:ws.length=192)(G:-1<=fu)(ab:fu<=100000)(aV:cK ws=true)(bl:t<=1):eY ⟨ws,fu⟩ t=0:=by
 unfold eY;rw[if_pos (Cl (by simp only;rw[I];rfl) G ab aV),if_pos I,if_pos (by omega)]
end bE
end Go.Proofs.YtlbppjmekiemiaaGreatDoor

/- Plain answers: the log. No condition. -/
namespace Go.Proofs.YtlbppjmekiemiaaGreatDoor
namespace bE

def gv(r:List Int):Int:=if 1<=r.length/\r.length<=4 then(if cK r then 0 else 3)else 2
def me(r:List Int):List Int:=(42240+(r.length:Int))::r
def gQ(x:Int):Nat:=if 42241<=x/\x<=42244 then(x-42240).toNat else 0
def hg(l:List Int):Bool:=l.all fun w=>decide (w=65535)
def e6:Nat->List Int->List (List Int)×Option Nat
 |0,_=>([],some 0)
 |_+1,[]=>([],some 0)
 |m+1,x::xs =>
  if x=65535 then([],if hg xs then some 0 else none)
  else if gQ x=0 then([],none)
  else if gQ x<=xs.length then(xs.take (gQ x)::(e6 m (xs.drop (gQ x))).1,(e6 m (xs.drop (gQ x))).2.map (·+gQ x+1))
  else([],none)
def p8(ws:List Int)(s:Nat):List Int:=a2 ws (32*s) (32*s+32)
def iy(ws:List Int)(s:Nat):List (List Int)×Option Nat:=e6 32 ((p8 ws s).drop 1)
def n5(s:Nat):Option Nat->Int
 |some n=>32*s+1+n
 |none=>-1
def e0(ws:List Int)(s:Nat):Int:=if ws.getD (32*s) 0=65535 then 0 else ws.getD (32*s) 0
def ed(ws:List Int):Nat:=if e0 ws 0<e0 ws 1 then 1 else 0
def eX(ws:List Int):Int:=e0 ws (ed ws)
def Aa(ws:List Int):Bool:=decide (0<eX ws)
def dE(f:cm):Int :=
 if e3 f=0 then(if 64<=f.words.length then(if 0<eX f.words/\eX f.words<=60000 then 0 else 5)else 4)else e3 f
def wD:List Change:=eH 1++eH 0++cX 0 [1]
def sK(f:cm):cm×Int :=
 if e3 f=0 then(if 64<=f.words.length then gl (b9 f wD)else(mE,4))else(mE,e3 f)
def fy(ws:List Int):List (List Int):=(iy ws (ed ws)).1
def j8(f:cm):List (List Int)×Int:=if dE f=0 then(fy f.words,0)else([],dE f)
def dy(rs:List (List Int)):List Int:=rs.flatMap me
def kg(n:Nat):List (List Int)->Int
 |[]=>0
 |k::aF=>if gv k=0 then(if n+1+k.length<=31 then kg (n+1+k.length) aF else 8)else gv k
def room(n:Nat):Option Nat->Bool
 |some a=>decide (a+n<=30)
 |none=>false
def nS(s a:Nat)(r:List Int):List Change:=cX ((32*s+1+a:Nat)+1:Int) r++cX (32*s+1+a:Nat) [42240+(r.length:Int)]
def g9(o:Nat)(rs:List (List Int))(g:Int):List Change:=eH o++cX (32*(o:Int)+1) (dy rs)++cX (32*(o:Int)) [g]
def sq(ws r:List Int)(b3:List (List Int)):Option (List Change) :=
 if room r.length (iy ws (ed ws)).2 then some (nS (ed ws) ((iy ws (ed ws)).2.getD 0) r)
 else if eX ws=60000 then none
 else some (g9 (1-ed ws) (b3++[r]) (eX ws+1))
def lg(f:cm)(r:List Int)(b3:List (List Int)):Int :=
 if dE f=0 then(if gv r=0 then kg 0 (b3++[r])else gv r)else dE f
def fO(f:cm)(r:List Int)(b3:List (List Int)):cm×Int :=
 if lg f r b3=0 then
  (match sq f.words r b3 with
  |some cs=>gl (b9 f cs)
  |none=>(mE,8))
 else(mE,lg f r b3)
def h8:List (List Change)->List Change
 |[]=>[]
 |x::xs=>x++h8 xs
def iJ(l:List (List Int)):Bool:=l.all fun r=>decide (r.length<=140737488355328)
def oa(a b:List (List Int)):Bool:=decide (a=b)
theorem aen{n:Int}(a6:0<=n)(I:n<=255):Aw 42240 n=42240+n:=by
 obtain⟨m,rfl⟩:=Int.eq_ofNat_of_zero_le a6;have aO:42240 ||| m=42240+m:=by
  exact(Nat.two_pow_add_eq_or_of_lt (b:=m) (i:=8) (by omega) 165).symm
 have e:(BitVec.ofInt 64 42240 ||| BitVec.ofInt 64 (m:Int)).toNat=42240+m:=by
  rw[BitVec.toNat_or];have eU:(BitVec.ofInt 64 (m:Int)).toNat=m:=by rw[BitVec.ofInt_natCast,BitVec.toNat_ofNat];omega
  rw[eU,show(BitVec.ofInt 64 42240).toNat=42240 from rfl,aO]
 unfold Aw;rw[e,cc (by omega) (by omega)];omega
theorem ajr{x:Int}(h:eS x=true):0<=hQ x 42240/\hQ x 42240<=65535/\(hQ x 42240<1\/4<hQ x 42240->gQ x=0)/\(1<=hQ x 42240->hQ x 42240<=4->hQ x 42240=(gQ x:Int)/\gQ x≠0/\gQ x<=4):=by
 obtain⟨n,rfl,aq⟩:=DC h;have e:hQ (n:Int) 42240=((n ^^^ 42240:Nat):Int):=by
  have e:(BitVec.ofInt 64 (n:Int) ^^^ BitVec.ofInt 64 42240).toNat=n ^^^ 42240:=by
   rw[BitVec.toNat_xor];have eU:(BitVec.ofInt 64 (n:Int)).toNat=n:=by rw[BitVec.ofInt_natCast,BitVec.toNat_ofNat];omega
   rw[eU,show(BitVec.ofInt 64 42240).toNat=42240 from rfl]
  have ax:n ^^^ 42240<2 ^ 16:=Nat.xor_lt_two_pow (by omega) (by omega);unfold hQ;rw[e,cc (by omega) (by omega)]
 have ax:n ^^^ 42240<2 ^ 16:=Nat.xor_lt_two_pow (by omega) (by omega);have back:n=(n ^^^ 42240) ^^^ 42240:=by rw[Nat.xor_assoc,Nat.xor_self,Nat.xor_zero]
 rw[e];obtain⟨m,aB⟩:∃m,n ^^^ 42240=m:=⟨_,rfl⟩
 rw[aB]at back ax |-;refine⟨by omega,by omega,fun h=>?_,fun I G=>?_⟩
 ·unfold gQ
  by_cases c:(42241:Int)<=n/\(n:Int)<=42244
  ·exfalso;have:n=42241\/n=42242\/n=42243\/n=42244:=by omega
   rcases this with rfl|rfl|rfl|rfl
   ·rw[show(42241:Nat) ^^^ 42240=1 from by decide]at aB;omega
   ·rw[show(42242:Nat) ^^^ 42240=2 from by decide]at aB;omega
   ·rw[show(42243:Nat) ^^^ 42240=3 from by decide]at aB;omega
   ·rw[show(42244:Nat) ^^^ 42240=4 from by decide]at aB;omega
  ·rw[if_neg c]
 ·have:m=1\/m=2\/m=3\/m=4:=by omega
  rcases this with rfl|rfl|rfl|rfl
  ·rw[show(1:Nat) ^^^ 42240=42241 from by decide]at back;subst back;decide
  ·rw[show(2:Nat) ^^^ 42240=42242 from by decide]at back;subst back;decide
  ·rw[show(3:Nat) ^^^ 42240=42243 from by decide]at back;subst back;decide
  ·rw[show(4:Nat) ^^^ 42240=42244 from by decide]at back;subst back;decide
theorem zx{ws:List Int}(h:cK ws=true)(i:Nat):0<=ws.getD i 0/\ws.getD i 0<=65535:=by
 by_cases c:i<ws.length
 ·exact va (r3 h i c)
 ·simp[List.getD_eq_getElem?_getD,List.getElem?_eq_none (Nat.le_of_not_lt c)]
theorem wE{ws:List Int}(h:cK ws=true)(s:Nat):0<=e0 ws s/\e0 ws s<65535:=by
 have:=zx h (32*s);unfold e0;split<;>omega
theorem td(ws:List Int):ed ws<=1:=by unfold ed;split<;>omega
theorem nG{f:cm}(h:dE f=0):e3 f=0/\64<=f.words.length/\0<eX f.words/\eX f.words<=60000:=by
 unfold dE at h;split at h
 ·rename_i I;split at h
  ·rename_i G;split at h
   ·rename_i ab;exact⟨I,G,ab⟩
   ·cases h
  ·cases h
 ·exact absurd h ‹_›
theorem LV{l:List Int}(h:cK l=true)(a b:Nat):cK (a2 l a b)=true:=ade (adg h b) a
theorem VN:∀(m:Nat) (l:List Int) (a:Nat),(e6 m l).2=some a->a<=l.length
 |0,_,a,h=>by simp only[e6,Option.some.injEq]at h;omega
 |_+1,[],a,h=>by simp only[e6,Option.some.injEq]at h;omega
 |m+1,x::xs,a,h=>by
  simp only[e6]at h;split at h
  ·simp only at h;split at h
   ·cases h;omega
   ·cases h
  ·split at h
   ·cases h
   ·split at h
    ·rename_i I G ab;simp only[Option.map]at h;split at h
     ·rename_i b aA;have:=VN m _ b aA;simp only[List.length_drop]at this;cases h;simp only[List.length_cons];omega
     ·cases h
    ·cases h
theorem VS{ws:List Int}{s a:Nat}(ax:32*s+32<=ws.length)(h:(iy ws s).2=some a):a<=31:=by
 have:=VN _ _ _ h;rw[List.length_drop,p8,o5 _ _ _ ax]at this;omega
theorem yh(r:List Int):(me r).length=r.length+1:=rfl
theorem BB(rs:List (List Int))(r:List Int):dy (rs++[r])=dy rs++me r:=by simp[dy]
theorem pw{r:List Int}(h:gv r=0):1<=r.length/\r.length<=4/\cK r=true:=by
 unfold gv at h;split at h
 ·rename_i I;split at h
  ·rename_i G;exact⟨I.1,I.2,G⟩
  ·cases h
 ·cases h
end bE
end Go.Proofs.YtlbppjmekiemiaaGreatDoor

/- Plain laws: the log, wherever the power goes. No condition. -/
namespace Go.Proofs.YtlbppjmekiemiaaGreatDoor
namespace bE

def uj(c:Change):Bool:=match c.word with|none=>true|some w=>eS w
theorem Ff:∀(cs:List Change) (ws:List Int),cK ws=true->cs.all uj=true->cK (eI ws cs)=true
 |[],_,h,_=>h
 |c::cs,ws,h,az=>by
  simp only[List.all_cons,Bool.and_eq_true]at az;rw[v6];refine Ff cs _ (adf fun i hi=>?_) az.2;rw[AR];split
  ·have bs:=zx h c.at_.toNat;unfold uj at az;unfold oI;split
   ·rfl
   ·rename_i w cb;rw[cb]at az;exact ada (by simp only[eS,Bool.and_eq_true,decide_eq_true_eq];exact bs) az.1
  ·exact r3 h i (by simpa using hi)
theorem MS(a:Int):∀n,(hb a n).all uj=true:=by
 intro n
 induction n generalizing a with
 |zero=>rfl
 |succ n dd=>simp[hb,dd,uj]
theorem uf:∀(l:List Int) (a:Int),cK l=true->(cX a l).all uj=true
 |[],_,_=>rfl
 |w::l,a,h=>by
  unfold cK at h;simp only[List.all_cons,Bool.and_eq_true]at h;simp only[cX,List.all_cons,Bool.and_eq_true];exact⟨h.1,uf l _ h.2⟩
theorem NP{α:Type}{p:α->Bool}{l:List α}(h:l.all p=true)(k:Nat):(l.take k).all p=true:=List.all_eq_true.2 fun x aG=>List.all_eq_true.1 h x (List.mem_of_mem_take aG)
theorem PI(f:cm)(cs:List Change):∃k,k<=cs.length/\(b9 f cs).1.words=eI f.words (cs.take k)/\((b9 f cs).2=true->k=cs.length):=by
 unfold b9;split
 ·exact⟨cs.length,Nat.le_refl _,by simp,fun _=>rfl⟩
 ·split
  ·exact⟨cs.length,Nat.le_refl _,by simp,fun _=>rfl⟩
  ·rename_i I G;exact⟨f.fuel.toNat,by omega,rfl,fun h=>by simp at h⟩

/- scanning -/
theorem VM:∀(m gU:Nat) (l:List Int),l.length<=m->l.length<=gU->e6 m l=e6 gU l
 |0,0,_,_,_=>rfl
 |0,_+1,[],_,_=>rfl
 |0,_+1,_::_,h,_=>by simp at h
 |_+1,0,[],_,_=>rfl
 |_+1,0,_::_,_,h=>by simp at h
 |_+1,_+1,[],_,_=>rfl
 |m+1,gU+1,x::xs,h,G=>by
  simp only[List.length_cons]at h G;have:=VM m gU (xs.drop (gQ x)) (by simp only[List.length_drop];omega) (by simp only[List.length_drop];omega);simp only[e6,this]
theorem agE{m:Nat}{l:List Int}(h:(e6 m l).2=some 0)(aB:l.length<=m):(e6 m l).1=[]/\hg l=true:=by
 match m,l,aB with
 |0,[],_=>exact⟨rfl,rfl⟩
 |_+1,[],_=>exact⟨rfl,rfl⟩
 |m+1,x::xs,aB =>
  simp only[e6]at h |-
  by_cases c:x=65535
  ·rw[if_pos c]at h |-;refine⟨rfl,?_⟩;simp only at h;unfold hg at h |-;simp only[List.all_cons,c,decide_true,Bool.true_and];cases aG:xs.all fun w=>decide (w=65535)
   ·rw[aG]at h;simp at h
   ·rfl
  ·rw[if_neg c]at h;split at h
   ·cases h
   ·split at h
    ·simp only[Option.map]at h;split at h
     ·simp at h
     ·cases h
    ·cases h
theorem VP:∀(m:Nat) (pre t ez:List Int),(e6 m (pre++t)).2=some pre.length->(pre++t).length<=m->(pre++ez).length<=m ->
  e6 m (pre++ez)=((e6 m (pre++t)).1++(e6 m ez).1,(e6 m ez).2.map (·+pre.length))/\hg t=true
 |m,[],t,ez,h,aB,pN=>by
  obtain⟨I,G⟩:=agE h aB;simp only[List.nil_append]at I G |-;rw[I];refine⟨?_,G⟩;rw[List.nil_append,List.length_nil];cases az:e6 m ez with
  |mk a b=>cases b<;>rfl
 |0,x::pre,t,ez,h,aB,_=>by simp at aB
 |m+1,x::pre,t,ez,h,aB,pN=>by
  simp only[List.cons_append,List.length_cons,List.length_append]at h aB pN;simp only[e6]at h;have aG:x≠65535:=fun c=>by
   rw[if_pos c]at h;simp only at h;split at h<;>simp at h
  rw[if_neg aG]at h;have aq:gQ x≠0:=fun c=>by rw[if_pos c]at h;simp at h
  rw[if_neg aq]at h;have ax:gQ x<=(pre++t).length:=by
   by_cases c:gQ x<=(pre++t).length
   ·exact c
   ·rw[if_neg c]at h;simp at h
  rw[if_pos ax]at h;simp only[Option.map]at h;split at h
  ·rename_i b aA;simp only[Option.some.injEq]at h;obtain⟨n,QX⟩:∃n,gQ x=n:=⟨_,rfl⟩
   rw[QX]at h aA ax aq;have iW:n<=pre.length:=by omega
   have d1:∀u,(pre++u).drop n=pre.drop n++u:=fun u=>List.drop_append_of_le_length iW
   have t1:∀u,(pre++u).take n=pre.take n:=fun u=>List.take_append_of_le_length iW
   rw[d1]at aA;have dd:=VP m (pre.drop n) t ez (by rw[aA];simp;omega) (by simp;omega) (by simp;omega);refine⟨?_,dd.2⟩;have lj:e6 (m+1) ez=e6 m ez:=VM _ _ _ (by omega) (by omega);rw[lj];simp only[List.cons_append,e6,if_neg aG,QX,if_neg aq,d1,t1];rw[if_pos (by simp;omega),if_pos (by simp;omega),dd.1];simp only[List.cons_append];congr 1;cases(e6 m ez).2 with
   |none=>rfl
   |some c=>simp only[Option.map,List.length_drop,List.length_cons,Option.some.injEq];omega
  ·cases h
theorem LP:∀(rs:List (List Int)) (m:Nat) (t:List Int),(∀k∈rs,1<=k.length/\k.length<=4)->(dy rs++t).length<=m->hg t=true ->
  e6 m (dy rs++t)=(rs,some (dy rs).length)
 |[],m,t,_,aB,bl=>by
  simp only[dy,List.flatMap_nil,List.nil_append,List.length_nil]at aB |-
  match m,t,aB with
  |0,[],_=>rfl
  |_+1,[],_=>rfl
  |m+1,x::xs,_ =>
   unfold hg at bl;simp only[List.all_cons,Bool.and_eq_true,decide_eq_true_eq]at bl;simp only[e6];rw[if_pos bl.1,if_pos (by unfold hg;exact bl.2)]
 |k::rs,m,t,aw,aB,bl=>by
  have ad:=aw k (by simp);have e:dy (k::rs)++t=(42240+(k.length:Int))::(k++(dy rs++t)):=by simp[dy,me]
  have mX:(dy (k::rs)).length=k.length+1+(dy rs).length:=by simp[dy,me];omega
  rw[e]at aB |-;simp only[List.length_cons,List.length_append]at aB
  match m,aB with
  |m+1,aB =>
   have dn:gQ (42240+(k.length:Int))=k.length:=by
    unfold gQ;rw[if_pos (by omega)];omega
   simp only[e6];rw[if_neg (by omega),dn,if_neg (by omega),if_pos (by simp),List.take_left,List.drop_left];rw[LP rs m t (fun k ad=>aw k (by simp[ad])) (by simp;omega) bl,mX];simp only[Option.map,Prod.mk.injEq,Option.some.injEq,true_and];omega
theorem VQ:∀(m:Nat) (l:List Int),(∀r∈(e6 m l).1,r.length<=4)/\(e6 m l).1.length<=l.length
 |0,_=>by simp[e6]
 |_+1,[]=>by simp[e6]
 |m+1,x::xs=>by
  obtain⟨I,G⟩:=VQ m (xs.drop (gQ x));have aV:gQ x<=4:=by unfold gQ;split<;>omega
  simp only[e6];split
  ·simp
  ·split
   ·simp
   ·split
    ·refine⟨fun r aw=>?_,?_⟩
     ·rcases List.mem_cons.1 aw with rfl|aw
      ·rw[List.length_take];omega
      ·exact I r aw
     ·simp only[List.length_drop]at G;simp only[List.length_cons];omega
    ·simp
theorem LF(ws:List Int):(∀r∈fy ws,r.length<=4)/\(fy ws).length<=32:=by
 unfold fy iy;obtain⟨I,G⟩:=VQ 32 ((p8 ws (ed ws)).drop 1);refine⟨I,Nat.le_trans G ?_⟩;unfold p8 a2;simp;omega
/- what the log looks at -/
theorem zw{xs ws:List Int}{s:Nat}(h:xs.getD (32*s) 0=ws.getD (32*s) 0):e0 xs s=e0 ws s:=by unfold e0;rw[h]
theorem VR{xs ws:List Int}{s:Nat}(ax:xs.length=ws.length)(h:∀i,32*s<=i->i<32*s+32->xs.getD i 0=ws.getD i 0):iy xs s=iy ws s:=by
 unfold iy p8;rw[agK _ _ ax h]
theorem RV{xs ws:List Int}(ax:xs.length=ws.length)(h:∀i,i<64->xs.getD i 0=ws.getD i 0):ed xs=ed ws/\eX xs=eX ws/\fy xs=fy ws:=by
 have dY:e0 xs 0=e0 ws 0:=zw (h 0 (by omega));have aO:e0 xs 1=e0 ws 1:=zw (h 32 (by omega));have es:ed xs=ed ws:=by unfold ed;rw[dY,aO]
 have av:=td ws;refine⟨es,?_,?_⟩
 ·unfold eX;rw[es];have:ed ws=0\/ed ws=1:=by omega
  rcases this with h|h
  ·rw[h,dY]
  ·rw[h,aO]
 ·unfold fy;rw[es,VR ax (fun i I G=>h i (by omega))]
theorem Ht{ws:List Int}{fu:Int}(I:kK ws.length=true)(G:-1<=fu)(ab:fu<=100000)(aV:cK ws=true)(br:64<=ws.length)(bV:0<eX ws)(dm:eX ws<=60000):dE ⟨ws,fu⟩=0:=by
 unfold dE;rw[if_pos (Cl I G ab aV),if_pos br,if_pos ⟨bV,dm⟩]
theorem YF(f:cm):dE f=0\/dE f=3\/dE f=4\/dE f=5:=by
 have:=Pn f;unfold dE;split
 ·split
  ·split
   ·exact .inl rfl
   ·exact .inr (.inr (.inr rfl))
  ·exact .inr (.inr (.inl rfl))
 ·omega
theorem Qo:∀(rs:List (List Int)) (n:Nat),n<=31->kg n rs=0->n+(dy rs).length<=31/\∀k∈rs,gv k=0
 |[],n,aq,_=>by simp[dy];omega
 |k::rs,n,aq,h=>by
  simp only[kg]at h
  by_cases c:gv k=0
  ·rw[if_pos c]at h
   by_cases bb:n+1+k.length<=31
   ·rw[if_pos bb]at h;obtain⟨I,G⟩:=Qo rs _ bb h;have mX:(dy (k::rs)).length=k.length+1+(dy rs).length:=by simp[dy,me];omega
    refine⟨by omega,fun r aw=>?_⟩;rcases List.mem_cons.1 aw with rfl|aw
    ·exact c
    ·exact G r aw
   ·rw[if_neg bb]at h;cases h
  ·rw[if_neg c]at h;exact absurd h c
theorem NO{rs:List (List Int)}(h:∀k∈rs,gv k=0):cK (dy rs)=true:=by
 unfold cK dy;rw[List.all_flatMap];refine List.all_eq_true.2 fun k ad=>?_
 obtain⟨I,G,ab⟩:=pw (h k ad);unfold me;rw[List.all_cons];unfold cK at ab;rw[ab];simp only[eS,Bool.and_true,Bool.and_eq_true,decide_eq_true_eq];omega
end bE
end Go.Proofs.YtlbppjmekiemiaaGreatDoor

/- Plain laws: what appending leaves, wherever the power goes. No condition. -/
namespace Go.Proofs.YtlbppjmekiemiaaGreatDoor
namespace bE

def fR(ws:List Int)(s:Nat):List Int:=(p8 ws s).drop 1
theorem tE{ws:List Int}{s:Nat}(h:32*s+32<=ws.length):(fR ws s).length=31:=by
 unfold fR p8;rw[List.length_drop,o5 _ _ _ h]
theorem sA(l:List Int)(a i:Nat):(l.drop a).getD i 0=l.getD (a+i) 0:=by simp[List.getD_eq_getElem?_getD,List.getElem?_drop]
theorem yu(ws:List Int)(s i:Nat)(hi:i<31):(fR ws s).getD i 0=ws.getD (32*s+1+i) 0:=by
 unfold fR p8;rw[sA,o4 _ _ _ _ (by omega)];congr 1;omega
theorem YO{l:List Int}(h:hg l=true)(i:Nat)(hi:i<l.length):l.getD i 0=65535:=by
 have:=List.all_eq_true.1 h (l[i]) (List.getElem_mem hi);simpa[List.getD_eq_getElem?_getD,hi]using this
theorem Px{l:List Int}(h:∀i,i<l.length->l.getD i 0=65535):hg l=true:=by
 refine List.all_eq_true.2 fun w cb=>?_
 obtain⟨i,hi,rfl⟩:=List.getElem_of_mem cb;simpa[List.getD_eq_getElem?_getD,hi]using h i hi
theorem Qp(a b:List Int)(i:Nat):(a++b).getD i 0=if i<a.length then a.getD i 0 else b.getD (i-a.length) 0:=by
 simp only[List.getD_eq_getElem?_getD,List.getElem?_append];split<;>rfl
theorem ai2{ws:List Int}{s:Nat}(_:32*s+32<=ws.length):iy ws s=e6 32 (fR ws s):=rfl
theorem acz{g ws:List Int}(a6:e0 g 0=e0 ws 0)(I:e0 g 1=e0 ws 1):ed g=ed ws/\eX g=eX ws:=by
 have es:ed g=ed ws:=by unfold ed;rw[a6,I]
 have av:=td ws;refine⟨es,?_⟩;unfold eX;rw[es];have:ed ws=0\/ed ws=1:=by omega
 rcases this with h|h
 ·rw[h,a6]
 ·rw[h,I]
theorem QN{ws r:List Int}{a:Nat}(ax:64<=ws.length)(zR:1<=r.length)(Db:r.length<=4)(abk:cK r=true)(h7:(iy ws (ed ws)).2=some a)(bh:a+r.length<=30)(k:Nat)(ad:k<=r.length+1) :
  within 1 64 (nS (ed ws) a r)=true/\eX (eI ws ((nS (ed ws) a r).take k))=eX ws /\
  (k<=r.length->fy (eI ws ((nS (ed ws) a r).take k))=fy ws)/\(k=r.length+1->fy (eI ws ((nS (ed ws) a r).take k))=fy ws++[r]):=by
 have av:=td ws;unfold fy;obtain⟨s,nW⟩:∃s,ed ws=s:=⟨_,rfl⟩
 rw[nW]at h7 av |-;have wO:32*s+32<=ws.length:=by omega
 obtain⟨p,ag⟩:∃p,32*s+1+a=p:=⟨_,rfl⟩
 have lX:nS s a r=cX ((p:Int)+1) r++cX (p:Int) [42240+(r.length:Int)]:=by unfold nS;rw[ag]
 have cb:within (p:Nat) ((32*s+32:Nat):Int) (nS s a r)=true:=by
  rw[lX];exact Ba (sk _ _ _ _ (by omega) (by omega)) (sk _ _ _ _ (by omega) (by simp only[List.length_cons,List.length_nil];omega))
 obtain⟨g,bs⟩:∃g,eI ws ((nS s a r).take k)=g:=⟨_,rfl⟩
 have Qq:g.length=ws.length:=bs▸sr _ _;have wH:∀i,i<p\/32*s+32<=i->g.getD i 0=ws.getD i 0:=fun i hi=>by
  rw[<- bs];exact ss (by omega) _ _ (EH cb k) i (by omega)
 have e7:e0 g 0=e0 ws 0:=zw (wH _ (by omega));have a1:e0 g 1=e0 ws 1:=zw (wH _ (by omega));obtain⟨aO,aX⟩:=acz e7 a1;rw[bs,aO,nW];refine⟨?_,aX,?_⟩
 ·unfold within at cb |-;refine List.all_eq_true.2 fun c az=>?_
  have:=List.all_eq_true.1 cb c az;simp only[Bool.and_eq_true,decide_eq_true_eq]at this |-;omega
 have Xb:=tE wO;have Xc:=tE (ws:=g) (s:=s) (by omega);have tF:∀i,i<31->(fR g s).getD i 0=g.getD (32*s+1+i) 0:=yu g s;have pl:((fR ws s).take a).length=a:=by rw[List.length_take];omega
 have kQ:=VP 32 ((fR ws s).take a) ((fR ws s).drop a) ((fR g s).drop a) (by rw[List.take_append_drop,pl];exact h7) (by simp;omega) (by simp;omega);have Zf:(fR g s).take a=(fR ws s).take a:=by
  refine zm (by simp;omega) fun i hi=>?_
  have hi:i<a:=by simp at hi;omega
  have e:∀l:List Int,(l.take a).getD i 0=l.getD i 0:=fun l=>by simp only[List.getD_eq_getElem?_getD];rw[List.getElem?_take_of_lt hi]
  rw[e,e,tF i (by omega),yu ws s i (by omega),wH _ (by omega)]
 have abE:iy g s=e6 32 ((fR ws s).take a++(fR g s).drop a):=by
  rw[<- Zf,List.take_append_drop];rfl
 have abF:(iy ws s).1=(e6 32 ((fR ws s).take a++(fR ws s).drop a)).1:=by rw[List.take_append_drop];rfl
 have clean:=kQ.2;have EF:∀i,p<=i->i<32*s+32->ws.getD i 0=65535:=fun i I G=>by
  have:=YO clean (i-p) (by simp;omega);rw[sA,yu _ _ _ (by omega)]at this;rw[show 32*s+1+(a+(i-p))=i by omega]at this;exact this
 rw[abE,kQ.1,<- abF];refine⟨fun wN=>?_,fun wN=>?_⟩
 ·have uo:g=eI ws (cX ((p:Int)+1) (r.take k)):=by
   rw[<- bs,lX,List.take_append_of_le_length (by rw[lP];exact wN),Oa]
  have aG:((fR g s).drop a)=65535::(fR g s).drop (a+1):=by
   rw[ep (by omega) 0];congr 1;show(fR g s).getD a 0=_;rw[tF a (by omega),uo,ss (a:=(p:Int)+1) (b:=200) (by omega) _ _ (sk _ _ _ _ (by omega) (by rw[List.length_take];omega)) _ (by omega)];exact EF _ (by omega) (by omega)
  rw[aG];simp[e6]
 ·have uo:g=eI (eI ws (cX ((p:Int)+1) r)) (cX (p:Int) [42240+(r.length:Int)]):=by
   rw[<- bs,lX,List.take_of_length_le (by rw[List.length_append,lP,lP];simp;omega),v5]
  have iQ:=y1 r ((p:Int)+1) ws (by omega) (by omega);have jY:=y1 [42240+(r.length:Int)] (p:Int) (eI ws (cX ((p:Int)+1) r)) (by omega) (by rw[sr];simp only[List.length_cons,List.length_nil];omega);simp only[List.length_cons,List.length_nil]at jY;have wK:∀i,p<=i->i<32*s+32->g.getD i 0=if i=p then 42240+(r.length:Int)else if i<p+1+r.length then r.getD (i-(p+1)) 0 else 65535:=fun i I G=>by
   rw[uo,jY]
   by_cases c:i=p
   ·rw[if_pos (by omega),if_pos c,iQ,if_neg (by omega),EF i I G];rw[show i-Int.toNat (p:Int)=0 by omega,List.getD_cons_zero,BD (by simp only[eS,Bool.and_eq_true,decide_eq_true_eq];omega)]
   ·rw[if_neg (by omega),if_neg c,iQ]
    by_cases bb:i<p+1+r.length
    ·rw[if_pos (by omega),if_pos bb,EF i I G,show((p:Int)+1).toNat=p+1 by omega,BD (r3 abk _ (by omega))]
    ·rw[if_neg (by omega),if_neg bb,EF i I G]
  have aG:(fR g s).drop a=dy [r]++(fR g s).drop (a+1+r.length):=by
   have Jq:(dy [r]).length=r.length+1:=by simp[dy,me]
   refine zm (by simp[Jq];omega) fun i hi=>?_
   have hi:a+i<31:=by simp at hi;omega
   rw[sA,tF _ hi,Qp,Jq];have e:dy [r]=(42240+(r.length:Int))::r:=by simp[dy,me]
   by_cases c:i<r.length+1
   ·rw[if_pos c,wK _ (by omega) (by omega),e]
    by_cases bb:i=0
    ·subst bb;rw[if_pos (by omega)];rfl
    ·rw[if_neg (by omega),if_pos (by omega)];obtain⟨j,rfl⟩:∃j,i=j+1:=⟨i-1,by omega⟩
     rw[List.getD_cons_succ];congr 1;omega
   ·rw[if_neg c,sA,tF _ (by omega)];congr 1;omega
  rw[aG,LP [r] 32 _ (by simp;omega) (by rw[<- aG];simp;omega) (Px fun i hi=>by
   have hi:a+1+r.length+i<31:=by simp at hi;omega
   rw[sA,tF _ hi,wK _ (by omega) (by omega),if_neg (by omega),if_neg (by omega)])]
set_option maxHeartbeats 2000000 in
theorem ai6{ws:List Int}{rs:List (List Int)}(ax:64<=ws.length)(gg:cK ws=true)(QO:0<eX ws)(wJ:eX ws<60000)(oP:∀k∈rs,gv k=0)(ll:(dy rs).length<=31)(k:Nat)(ad:k<=33+(dy rs).length) :
  within 0 64 (g9 (1-ed ws) rs (eX ws+1))=true/\0<eX (eI ws ((g9 (1-ed ws) rs (eX ws+1)).take k))/\eX (eI ws ((g9 (1-ed ws) rs (eX ws+1)).take k))<=eX ws+1 /\
  (k<33+(dy rs).length->fy (eI ws ((g9 (1-ed ws) rs (eX ws+1)).take k))=fy ws) /\
  (k=33+(dy rs).length->fy (eI ws ((g9 (1-ed ws) rs (eX ws+1)).take k))=rs):=by
 have av:=td ws;have IG:=wE gg (ed ws);have zM:=wE gg (1-ed ws);have IQ:eX ws=e0 ws (ed ws):=rfl;have pM:ed ws=if e0 ws 0<e0 ws 1 then 1 else 0:=rfl
 unfold fy;obtain⟨s,nW⟩:∃s,ed ws=s:=⟨_,rfl⟩
 rw[nW]at av IG zM IQ pM |-;obtain⟨eN,wL⟩:∃eN,eX ws=eN:=⟨_,rfl⟩
 rw[wL]at QO wJ IQ |-;obtain⟨o,aY⟩:∃o,1-s=o:=⟨_,rfl⟩
 rw[aY]at zM |-;have akh:o<=1/\o+s=1:=by omega
 have wO:32*o+32<=ws.length:=by omega
 have lX:g9 o rs (eN+1)=(⟨32*(o:Int),none⟩::(hb (32*(o:Int)+1) 31++cX (32*(o:Int)+1) (dy rs)))++cX (32*(o:Int)) [eN+1]:=rfl;have aa0:within (32*(o:Int)+1) (32*(o:Int)+32) (hb (32*(o:Int)+1) 31++cX (32*(o:Int)+1) (dy rs))=true :=
  Ba (Bb _ _ _ _ (by omega) (by omega)) (sk _ _ _ _ (by omega) (by omega))
 have cb:within (32*o:Nat) ((32*o+32:Nat):Int) (g9 o rs (eN+1))=true:=by
  unfold g9 eH;exact Ba (Ba (Bb _ _ _ _ (by omega) (by omega)) (sk _ _ _ _ (by omega) (by omega))) (sk _ _ _ _ (by omega) (by simp only[List.length_cons,List.length_nil];omega))
 have RU:(hb (32*(o:Int)+1) 31++cX (32*(o:Int)+1) (dy rs)).length=31+(dy rs).length:=by rw[List.length_append,A9,lP]
 obtain⟨mid,uK⟩:∃mid,hb (32*(o:Int)+1) 31++cX (32*(o:Int)+1) (dy rs)=mid:=⟨_,rfl⟩
 obtain⟨g,bs⟩:∃g,eI ws ((g9 o rs (eN+1)).take k)=g:=⟨_,rfl⟩
 have Qq:g.length=ws.length:=bs▸sr _ _;have wH:∀i,i<32*o\/32*o+32<=i->g.getD i 0=ws.getD i 0:=fun i hi=>by
  rw[<- bs];exact ss (by omega) _ _ (EH cb k) i (by omega)
 have gs:e0 g s=e0 ws s:=zw (wH _ (by omega));have WY:s=0/\o=1\/s=1/\o=0:=by omega
 rw[bs];have Xv:within 0 64 (g9 o rs (eN+1))=true:=by
  unfold within at cb |-;refine List.all_eq_true.2 fun c az=>?_
  have:=List.all_eq_true.1 cb c az;simp only[Bool.and_eq_true,decide_eq_true_eq]at this |-;omega
 have part:k<33+(dy rs).length->e0 g o<=e0 ws o/\(e0 g o=e0 ws o\/e0 g o=0):=fun jH=>by
  match k,jH with
  |0,_ =>
   have:g=ws:=by rw[<- bs];rfl
   rw[this];exact⟨Int.le_refl _,.inl rfl⟩
  |k+1,jH =>
   have uo:g=eI (ws.set (32*o) 65535) (mid.take k):=by
    rw[<- bs,lX,uK,List.take_append_of_le_length (by rw[List.length_cons,<- uK,RU];omega),List.take_succ_cons,v6];rfl
   have dY:g.getD (32*o) 0=65535:=by
    rw[uo,ss (a:=32*(o:Int)+1) (b:=32*(o:Int)+32) (by omega) _ _ (EH (uK▸aa0) k) _ (by omega),AR,if_pos ⟨rfl,by omega⟩]
   have:e0 g o=0:=by unfold e0;rw[if_pos dY]
   rw[this];exact⟨zM.1,.inr rfl⟩
 have whole:k=33+(dy rs).length->ed g=o/\eX g=eN+1/\(iy g o).1=rs:=fun jH=>by
  have uo:g=eI (eI (eI ws (hb (32*(o:Int)) 32)) (cX (32*(o:Int)+1) (dy rs))) (cX (32*(o:Int)) [eN+1]):=by
   rw[<- bs,List.take_of_length_le (by rw[lX,uK,List.length_append,List.length_cons,<- uK,RU,lP];simp;omega)];unfold g9 eH;rw[v5,v5]
  have dV:(eI ws (hb (32*(o:Int)) 32)).length=ws.length:=sr _ _;have gT:(eI (eI ws (hb (32*(o:Int)) 32)) (cX (32*(o:Int)+1) (dy rs))).length=ws.length:=(sr _ _).trans dV;have iQ:=Xx 32 (32*(o:Int)) ws (by omega) (by omega);have jY:=y1 (dy rs) (32*(o:Int)+1) (eI ws (hb (32*(o:Int)) 32)) (by omega) (by omega);have nD:=y1 [eN+1] (32*(o:Int)) (eI (eI ws (hb (32*(o:Int)) 32)) (cX (32*(o:Int)+1) (dy rs))) (by omega) (by simp only[List.length_cons,List.length_nil];omega);simp only[List.length_cons,List.length_nil]at nD;have XZ:=NO oP;have wK:∀i,32*o<=i->i<32*o+32->g.getD i 0=if i=32*o then eN+1 else if i<32*o+1+(dy rs).length then(dy rs).getD (i-(32*o+1)) 0 else 65535:=fun i I G=>by
   rw[uo,nD]
   by_cases c:i=32*o
   ·rw[if_pos (by omega),if_pos c,jY,if_neg (by omega),iQ,if_pos (by omega)];rw[show i-Int.toNat (32*(o:Int))=0 by omega,List.getD_cons_zero,BD (by simp only[eS,Bool.and_eq_true,decide_eq_true_eq];omega)]
   ·rw[if_neg (by omega),if_neg c,jY]
    by_cases bb:i<32*o+1+(dy rs).length
    ·rw[if_pos (by omega),if_pos bb,iQ,if_pos (by omega),show(32*(o:Int)+1).toNat=32*o+1 by omega,BD (r3 XZ _ (by omega))]
    ·rw[if_neg (by omega),if_neg bb,iQ,if_pos (by omega)]
  have dY:e0 g o=eN+1:=by
   unfold e0;rw[wK _ (by omega) (by omega),if_pos rfl,if_neg (by omega)]
  have es:ed g=o:=by
   unfold ed;rcases WY with⟨rfl,rfl⟩|⟨rfl,rfl⟩
   ·rw[if_pos (by omega)]
   ·rw[if_neg (by omega)]
  refine⟨es,by unfold eX;rw[es,dY],?_⟩;have Xc:=tE (ws:=g) (s:=o) (by omega);have tF:∀i,i<31->(fR g o).getD i 0=g.getD (32*o+1+i) 0:=yu g o;have aG:fR g o=dy rs++(fR g o).drop (dy rs).length:=by
   refine zm (by simp;omega) fun i hi=>?_
   rw[Xc]at hi;rw[Qp]
   by_cases c:i<(dy rs).length
   ·rw[if_pos c,tF _ hi,wK _ (by omega) (by omega),if_neg (by omega),if_pos (by omega),show 32*o+1+i-(32*o+1)=i by omega]
   ·rw[if_neg c,sA,show(dy rs).length+(i-(dy rs).length)=i by omega]
  show(e6 32 (fR g o)).1=rs;rw[aG,LP rs 32 _ (fun k ad=>⟨(pw (oP k ad)).1,(pw (oP k ad)).2.1⟩) (by rw[<- aG];omega) (Px fun i hi=>by
   have hi:(dy rs).length+i<31:=by simp at hi;omega
   rw[sA,tF _ hi,wK _ (by omega) (by omega),if_neg (by omega),if_neg (by omega)])]
 by_cases jH:k=33+(dy rs).length
 ·obtain⟨cJ,cE,ey⟩:=whole jH;rw[cE,cJ];exact⟨Xv,by omega,by omega,fun h=>absurd jH (by omega),fun _=>ey⟩
 ·obtain⟨cJ,cE⟩:=part (by omega);have es:ed g=s/\eX g=eN:=by
   have e:ed g=s:=by
    unfold ed;rcases WY with⟨rfl,rfl⟩|⟨rfl,rfl⟩
    ·rw[if_neg]
     by_cases c:e0 ws 0<e0 ws 1
     ·rw[if_pos c]at pM;omega
     ·omega
    ·rw[if_pos]
     by_cases c:e0 ws 0<e0 ws 1
     ·omega
     ·rw[if_neg c]at pM;omega
   refine⟨e,by unfold eX;rw[e,gs];exact IQ.symm⟩
  rw[es.1,es.2];refine⟨Xv,by omega,by omega,fun _=>?_,fun h=>absurd h jH⟩;rw[VR Qq (fun i I G=>wH i (by omega))]
end bE
end Go.Proofs.YtlbppjmekiemiaaGreatDoor

/- Plain laws: appending, joined. No condition. -/
namespace Go.Proofs.YtlbppjmekiemiaaGreatDoor
namespace bE

theorem NR{f:cm}{r:List Int}{b3:List (List Int)}(h:lg f r b3=0):dE f=0/\gv r=0/\kg 0 (b3++[r])=0:=by
 unfold lg at h;split at h
 ·rename_i I;split at h
  ·rename_i G;exact⟨I,G,h⟩
  ·exact absurd h ‹_›
 ·exact absurd h ‹_›
theorem Qn:∀(rs:List (List Int)) (n:Nat),kg n rs=0\/kg n rs=2\/kg n rs=3\/kg n rs=8
 |[],_=>.inl rfl
 |k::rs,n=>by
  simp only[kg];split
  ·split
   ·exact Qn rs _
   ·exact .inr (.inr (.inr rfl))
  ·unfold gv;split
   ·split
    ·exact .inl rfl
    ·exact .inr (.inr (.inl rfl))
   ·exact .inr (.inl rfl)
theorem X0(f:cm)(r:List Int)(b3:List (List Int))(h:dE f=0):lg f r b3=0\/lg f r b3=2\/lg f r b3=3\/lg f r b3=8:=by
 unfold lg;rw[if_pos h]
 by_cases c:gv r=0
 ·rw[if_pos c];exact Qn _ _
 ·rw[if_neg c];unfold gv at c |-;split
  ·split
   ·exact .inl rfl
   ·exact .inr (.inr (.inl rfl))
  ·exact .inr (.inl rfl)
theorem X1(f:cm)(r:List Int)(b3:List (List Int)):lg f r b3≠7:=by
 by_cases h:dE f=0
 ·have:=X0 f r b3 h;omega
 ·unfold lg;rw[if_neg h];have:=YF f;omega
theorem NS{f:cm}{r:List Int}{b3:List (List Int)}(h:(fO f r b3).2=0\/(fO f r b3).2=7) :
  ∃cs,lg f r b3=0/\sq f.words r b3=some cs/\fO f r b3=gl (b9 f cs):=by
 unfold fO at h |-
 by_cases c:lg f r b3=0
 ·rw[if_pos c]at h |-;cases az:sq f.words r b3 with
  |none=>rw[az]at h;simp at h
  |some cs=>exact⟨cs,c,rfl,rfl⟩
 ·rw[if_neg c]at h;have:=X1 f r b3;simp only at h;omega
theorem X4{ws:List Int}{fu:Int}{r:List Int}{b3:List (List Int)}{cs:List Change}(hU:lg ⟨ws,fu⟩ r b3=0)(ev:sq ws r b3=some cs) :
  2<=cs.length/\cs.length<=64/\cs.all uj=true/\within 0 64 cs=true/\∀k,k<=cs.length ->
   0<eX (eI ws (cs.take k))/\(eX (eI ws (cs.take k))<=60000/\eX (eI ws (cs.take k))<=eX ws+1)/\(k<cs.length->fy (eI ws (cs.take k))=fy ws) /\
   (k=cs.length->fy (eI ws (cs.take k))=fy ws++[r]\/fy (eI ws (cs.take k))=b3++[r]):=by
 obtain⟨aO,aX,cY⟩:=NR hU;obtain⟨bK,bX,dh,eW⟩:=nG aO;obtain⟨bA,_,_,du⟩:=jh bK;obtain⟨gm,hy,hM⟩:=pw aX;obtain⟨a1,bf⟩:=Qo _ 0 (by omega) cY;simp only at bX dh eW du;unfold sq at ev
 by_cases aw:room r.length (iy ws (ed ws)).2=true
 ·rw[if_pos aw]at ev;cases h7:(iy ws (ed ws)).2 with
  |none=>rw[h7]at aw;cases aw
  |some a =>
   rw[h7]at aw ev;simp only[room,decide_eq_true_eq]at aw;simp only[Option.getD_some,Option.some.injEq]at ev;have ax:cs.length=r.length+1:=by rw[<- ev];unfold nS;rw[List.length_append,lP,lP];rfl
   refine⟨by omega,by omega,?_,?_,fun k ad=>?_⟩
   ·rw[<- ev];unfold nS;rw[List.all_append,uf _ _ hM,uf]
    ·rfl
    ·simp only[cK,eS,List.all_cons,List.all_nil,Bool.and_true,Bool.and_eq_true,decide_eq_true_eq];omega
   ·have:=(QN bX gm hy hM h7 aw 0 (by omega)).1;rw[ev]at this;unfold within at this |-;refine List.all_eq_true.2 fun c az=>?_
    have:=List.all_eq_true.1 this c az;simp only[Bool.and_eq_true,decide_eq_true_eq]at this |-;omega
   ·obtain⟨_,cE,ey,gw⟩:=QN bX gm hy hM h7 aw k (by omega);rw[ev]at cE ey gw;exact⟨by omega,⟨by omega,by omega⟩,fun h=>ey (by omega),fun h=>.inl (gw (by omega))⟩
 ·rw[if_neg aw]at ev
  by_cases bs:eX ws=60000
  ·rw[if_pos bs]at ev;cases ev
  rw[if_neg bs]at ev;simp only[Option.some.injEq]at ev;have ax:cs.length=33+(dy (b3++[r])).length:=by rw[<- ev];unfold g9 eH;rw[List.length_append,List.length_append,A9,lP,lP,List.length_singleton];omega
  have key:=fun k ad=>ai6 (rs:=b3++[r]) bX du dh (by omega) bf (by omega) k ad
  rw[ev]at key;have ZQ:=wE du (ed ws);have ZL:eX ws=e0 ws (ed ws):=rfl;refine⟨by omega,by omega,?_,(key 0 (by omega)).1,fun k ad=>?_⟩
  ·rw[<- ev];unfold g9 eH;rw[List.all_append,List.all_append,MS,uf _ _ (NO bf),uf]
   ·rfl
   ·simp only[cK,eS,List.all_cons,List.all_nil,Bool.and_true,Bool.and_eq_true,decide_eq_true_eq];omega
  ·obtain⟨_,cJ,cE,ey,gw⟩:=key k (by omega);exact⟨cJ,⟨by omega,cE⟩,fun h=>ey (by omega),fun h=>.inr (gw (by omega))⟩
theorem NU{ws:List Int}{fu:Int}{r:List Int}{b3:List (List Int)}{cs:List Change}(hU:lg ⟨ws,fu⟩ r b3=0)(ev:sq ws r b3=some cs){rF:Int}(aaC:-1<=rF)(aaD:rF<=100000) :
  dE ⟨(b9 ⟨ws,fu⟩ cs).1.words,rF⟩=0/\(b9 ⟨ws,fu⟩ cs).1.words.length=ws.length/\(∀i,64<=i->(b9 ⟨ws,fu⟩ cs).1.words.getD i 0=ws.getD i 0) /\
  (fy (b9 ⟨ws,fu⟩ cs).1.words=fy ws++[r]\/fy (b9 ⟨ws,fu⟩ cs).1.words=b3++[r]\/((b9 ⟨ws,fu⟩ cs).2=false/\fy (b9 ⟨ws,fu⟩ cs).1.words=fy ws)):=by
 obtain⟨aO,aX,cY⟩:=NR hU;obtain⟨bK,bX,dh,eW⟩:=nG aO;obtain⟨bA,_,_,du⟩:=jh bK;obtain⟨cJ,cE,ey,gw,np⟩:=X4 hU ev;have ax:=sz ⟨ws,fu⟩ cs;have aY:=fun i hi=>PH (a:=0) (b:=64) (by omega) ⟨ws,fu⟩ cs gw i hi
 obtain⟨k,I,G,ab⟩:=PI ⟨ws,fu⟩ cs;simp only at bX bA du ax aY G;obtain⟨fg,ft,hx,oY⟩:=np k I;have gg:cK (b9 ⟨ws,fu⟩ cs).1.words=true:=by rw[G];exact Ff _ _ du (NP ey k)
 rw[<- G]at fg ft hx oY;refine⟨Ht (by rw[ax];exact bA) aaC aaD gg (by omega) fg ft.1,ax,fun i hi=>aY i (by omega),?_⟩
 by_cases c:k=cs.length
 ·rcases oY c with h|h
  ·exact .inl h
  ·exact .inr (.inl h)
 ·refine .inr (.inr ⟨?_,hx (by omega)⟩);cases bO:(b9 ⟨ws,fu⟩ cs).2
  ·rfl
  ·exact absurd (ab bO) c
theorem Vp{f:cm}(h:dE f=0):j8 f=(fy f.words,0):=by unfold j8;rw[if_pos h]
end bE
end Go.Proofs.YtlbppjmekiemiaaGreatDoor

/- Plain answers: texts. No condition. -/
namespace Go.Proofs.YtlbppjmekiemiaaGreatDoor
namespace bE

def sy:Nat->Nat->List UInt8
 |0,_=>[]
 |f+1,u=>if u<10 then [UInt8.ofNat (48+u)]else sy f (u/10)++[UInt8.ofNat (48+u%10)]
def fW(n:Int):List UInt8:=sy 20 n.toNat
theorem PF:∀(f u:Nat),u<10 ^ f->0<f->Go.Lib.decDigits u=sy f u
 |0,_,_,h=>absurd h (by omega)
 |f+1,u,hu,_=>by
  rw[Go.Lib.decDigits]
  by_cases c:u<10
  ·rw[dif_pos c];simp[sy,c]
  ·rw[dif_neg c];have I:u/10<10 ^ f:=by
    rw[Nat.pow_succ]at hu;exact Nat.div_lt_of_lt_mul (by omega)
   have G:0<f:=by
    cases f with
    |zero=>simp at I;omega
    |succ f=>omega
   rw[PF f (u/10) I G];simp[sy,c]
theorem acf{n:Int}(a6:0<=n)(I:n<=9223372036854775807):Go.Lib.itoa n=fW n:=by
 unfold Go.Lib.itoa fW;rw[if_neg (by omega)];exact PF 20 _ (by omega) (by omega)
def jq(sep:List UInt8):List (List UInt8)->List UInt8
 |[]=>[]
 |x::xs=>match xs with
  |[]=>x
  |_::_=>x++sep++jq sep xs
theorem join_eq(sep:List UInt8):∀xs,Go.Lib.join xs sep=jq sep xs
 |[]=>rfl
 |[x]=>by simp[Go.Lib.join,List.intercalate,jq]
 |x::y::xs=>by
  have:=join_eq sep (y::xs);simp only[Go.Lib.join,List.intercalate,jq]at this |-;rw[<- this];simp[List.intersperse]
def iH(k:Int)(s:List UInt8):List (List UInt8)->Int
 |[]=>-1
 |x::r=>if x=s then k else iH (k+1) s r
def fk(s:List UInt8)(l:List (List UInt8)):Int:=iH 0 s l
def oL(s:List UInt8)(l:List (List UInt8)):Bool:=l.any fun x=>decide (x=s)
def v7(seen:List (List UInt8)):List (List UInt8)->Int
 |[]=>0
 |s::r=>if 2000<s.length then 2 else if oL s seen then 6 else v7 (seen++[s]) r
def fH(l:List (List UInt8)):Int:=if 60<l.length then 2 else v7 [] l
def ni(l:List (List UInt8))(s:List UInt8):Int×Int:=if fH l=0 then(fk s l+1,0)else(0,fH l)
def jL(l:List Int):Bool:=l.all fun n=>decide (0<=n)&&decide (n<=9223372036854775807)
def fL(l:List Int):List UInt8:=jq [32] (l.map fW)
theorem PG:∀f u,(sy f u).length<=f
 |0,_=>by simp[sy]
 |f+1,u=>by
  simp only[sy];split
  ·simp
  ·have:=PG f (u/10);simp;omega
theorem tm(n:Int):(fW n).length<=20:=PG _ _
theorem Jl(sep:List UInt8)(m:Nat):∀xs:List (List UInt8),(∀x∈xs,x.length<=m)->(jq sep xs).length<=xs.length*(m+sep.length)
 |[],_=>by simp[jq]
 |[x],h=>by have:=h x (by simp);simp[jq];omega
 |x::y::xs,h=>by
  have I:=h x (by simp);have G:=Jl sep m (y::xs) (fun bg dR=>h bg (by simp at dR |-; exact .inr dR));simp only[jq,List.length_append,List.length_cons]at G |-;rw[Nat.add_mul (xs.length+1) 1];omega
theorem rZ(l:List Int):(fL l).length<=l.length*21:=by
 have:=Jl [32] 20 (l.map fW) (fun x aG=>by
  obtain⟨n,_,rfl⟩:=List.mem_map.1 aG;exact tm n)
 simpa[fL]using this
theorem Ji(s:List UInt8):∀(l:List (List UInt8)) (k:Int),0<=k->iH k s l=-1\/(k<=iH k s l/\iH k s l<k+(l.length:Nat))
 |[],_,_=>.inl rfl
 |x::r,k,ad=>by
  simp only[iH];split
  ·exact .inr ⟨by omega,by simp only[List.length_cons];omega⟩
  ·rcases Ji s r (k+1) (by omega)with h|h
   ·exact .inl h
   ·exact .inr ⟨by omega,by simp only[List.length_cons];omega⟩
theorem acb(s:List UInt8)(l:List (List UInt8)):decide (0<=fk s l)=oL s l:=by
 have key:∀(l:List (List UInt8)) (k:Int),0<=k->decide (0<=iH k s l)=oL s l:=by
  intro l
  induction l with
  |nil=>intro k _;rfl
  |cons x r dd =>
   intro k ad;have ab7:=dd (k+1) (by omega);simp only[oL,List.any_cons]
   by_cases c:x=s
   ·have e:iH k s (x::r)=k:=if_pos c;rw[show decide (0<=iH k s (x::r))=true from decide_eq_true (by rw[e];exact ad)];simp[c]
   ·have e:iH k s (x::r)=iH (k+1) s r:=if_neg c;rw[show decide (0<=iH k s (x::r))=decide (0<=iH (k+1) s r)from by simp only[e],ab7];simp[c,oL]
 exact key l 0 (by omega)
def nk(last:Option Int)(k:Int):Bool:=match last with
 |some p=>decide (k<=p)
 |none=>false
def yl(e t n:Int):Int:=if e=0 then(if t<1\/n<t then 4 else 0)else e
def lw(last:Option Int):List Int->Int
 |[]=>0
 |k::r=>if k<1\/50<k then 3 else if nk last k then 6 else lw (some k) r
def ht(v:Int)(aF:List Int)(t:Int):Int :=
 if v<1\/1000<v then 3 else if aF.length=0\/6<aF.length then 2 else yl (lw none aF) t aF.length
def pZ(i:Int)(t:Target):Bool:=decide (t.unit=i)&&decide (1<=t.image)&&decide (t.image<=60)&&decide (1<=t.dp)&&decide (t.dp<=40)
def jM(i:Int):List Target->Bool
 |[]=>true
 |t::r=>pZ i t&&jM (i+1) r
def gD(v u:Int)(ts:List Target):Int :=
 if v<1\/1000<v\/u<0\/100000<u then 3 else if ts.length=0\/4<ts.length then 2 else if jM 0 ts then 0 else 3
def fY(w:List Int):Int:=if w.length=0\/40<w.length then 2 else if cK w then 0 else 3
def jO(v:Int)(aF:List Int)(t:Int):List UInt8:=[114,111,111,116,32]++fW v++[32]++fW t++[32,111,102,32]++fL aF
def yv(t:Target):List UInt8:=[59,32]++fL [t.unit,t.image,t.dp]
def nu(ts:List Target):List UInt8:=ts.flatMap yv
def lC(v u:Int)(ts:List Target):List UInt8:=[114,101,108,101,97,115,101,32]++fW v++[32,117,110,116,105,108,32]++fW u++nu ts
def s9(w:List Int):List UInt8:=[105,109,97,103,101,32]++fL w
def sa(v:Int)(aF:List Int)(t:Int):List UInt8×Int:=if ht v aF t=0 then(jO v aF t,0)else([],ht v aF t)
def mI(v u:Int)(ts:List Target):List UInt8×Int:=if gD v u ts=0 then(lC v u ts,0)else([],gD v u ts)
def kJ(w:List Int):List UInt8×Int:=if fY w=0 then(s9 w,0)else([],fY w)
def hk(l:List (List UInt8))(w:List Int):Int×Int:=if fY w=0 then ni l (s9 w)else(0,fY w)
theorem RL:∀(aF:List Int) (last:Option Int),lw last aF=0->jL aF=true
 |[],_,_=>rfl
 |k::r,last,h=>by
  simp only[lw]at h
  by_cases c:k<1\/50<k
  ·rw[if_pos c]at h;cases h
  ·rw[if_neg c]at h
   by_cases bb:nk last k=true
   ·rw[if_pos bb]at h;cases h
   ·rw[if_neg bb]at h;have:=RL r _ h;unfold jL at this |-;simp only[List.all_cons,this,Bool.and_true,Bool.and_eq_true,decide_eq_true_eq];omega
theorem qq{v:Int}{aF:List Int}{t:Int}(h:ht v aF t=0):1<=v/\v<=1000/\1<=t/\t<=(aF.length:Int)/\aF.length<=6/\jL aF=true:=by
 unfold ht at h
 by_cases bA:v<1\/1000<v
 ·rw[if_pos bA]at h;cases h
 rw[if_neg bA]at h
 by_cases bb:aF.length=0\/6<aF.length
 ·rw[if_pos bb]at h;cases h
 rw[if_neg bb]at h;unfold yl at h
 by_cases cr:lw none aF=0
 ·rw[if_pos cr]at h
  by_cases du:t<1\/(aF.length:Int)<t
  ·rw[if_pos du]at h;cases h
  ·exact⟨by omega,by omega,by omega,by omega,by omega,RL _ _ cr⟩
 ·rw[if_neg cr]at h;exact absurd h cr
theorem Tw:∀(ts:List Target) (i:Int),jM i ts=true->0<=i->i+ts.length<=1000->∀t∈ts,0<=t.unit/\t.unit<=1000/\0<=t.image/\t.image<=1000/\0<=t.dp/\t.dp<=1000
 |[],_,_,_,_,t,bl=>by simp at bl
 |x::r,i,h,a6,I,t,bl=>by
  simp only[jM,Bool.and_eq_true]at h;simp only[List.length_cons]at I;rcases List.mem_cons.1 bl with rfl|bl
  ·have:=h.1;simp only[pZ,Bool.and_eq_true,decide_eq_true_eq]at this;omega
  ·exact Tw r (i+1) h.2 (by omega) (by omega) t bl
theorem zc{v u:Int}{ts:List Target}(h:gD v u ts=0):1<=v/\v<=1000/\0<=u/\u<=100000/\1<=ts.length/\ts.length<=4/\∀t∈ts,0<=t.unit/\t.unit<=1000/\0<=t.image/\t.image<=1000/\0<=t.dp/\t.dp<=1000:=by
 unfold gD at h
 by_cases bA:v<1\/1000<v\/u<0\/100000<u
 ·rw[if_pos bA]at h;cases h
 rw[if_neg bA]at h
 by_cases bb:ts.length=0\/4<ts.length
 ·rw[if_pos bb]at h;cases h
 rw[if_neg bb]at h
 by_cases cr:jM 0 ts=true
 ·exact⟨by omega,by omega,by omega,by omega,by omega,by omega,Tw ts 0 cr (by omega) (by omega)⟩
 ·rw[if_neg cr]at h;cases h
theorem wi{w:List Int}(h:fY w=0):1<=w.length/\w.length<=40/\cK w=true:=by
 unfold fY at h
 by_cases bA:w.length=0\/40<w.length
 ·rw[if_pos bA]at h;cases h
 rw[if_neg bA]at h
 by_cases bb:cK w=true
 ·exact⟨by omega,by omega,bb⟩
 ·rw[if_neg bb]at h;cases h
theorem To{w:List Int}(h:cK w=true):jL w=true:=List.all_eq_true.2 fun n aq=>by
 have:=va (List.all_eq_true.1 h n aq);simp only[Bool.and_eq_true,decide_eq_true_eq];omega
end bE
end Go.Proofs.YtlbppjmekiemiaaGreatDoor

/- Plain laws: texts, further. No condition. -/
namespace Go.Proofs.YtlbppjmekiemiaaGreatDoor
namespace bE

theorem RB(s:List UInt8):∀(l:List (List UInt8)) (j:Int) (k:Nat),k<l.length->nth l k []=s->decide (iH j s l<j+k)=oL s (l.take k)
 |[],_,k,ad,_=>by simp at ad
 |x::r,j,0,_,av=>by
  have aG:x=s:=av;have e:iH j s (x::r)=j:=if_pos aG;rw[e,List.take_zero];exact decide_eq_false (by omega)
 |x::r,j,k+1,ad,av=>by
  by_cases c:x=s
  ·have e:iH j s (x::r)=j:=if_pos c;rw[e,List.take_succ_cons];simp only[oL,List.any_cons,c,decide_true,Bool.true_or];exact decide_eq_true (by omega)
  ·have e:iH j s (x::r)=iH (j+1) s r:=if_neg c;rw[e,List.take_succ_cons];have:=RB s r (j+1) k (by simpa using ad) av;simp only[oL,List.any_cons,c,decide_false,Bool.false_or]at this |-;rw[<- this,show j+1+(k:Int)=j+((k+1:Nat):Int)by omega]
theorem acd{s:List UInt8}{l:List (List UInt8)}{k:Nat}(ad:k<l.length)(av:nth l k []=s):aN (fk s l) (k:Int)=oL s (l.take k):=by
 have:=RB s l 0 k ad av;rw[show(0:Int)+k=k by omega]at this;exact this
theorem RH(sep y:List UInt8):∀xs:List (List UInt8),xs≠[]->jq sep (xs++[y])=jq sep xs++sep++y
 |[],h=>absurd rfl h
 |[x],_=>by simp[jq]
 |x::bg::xs,_=>by
  have:=RH sep y (bg::xs) (by simp);simp only[List.cons_append,jq]at this |-;rw[this];simp
theorem RG(sep:List UInt8):∀(x:List UInt8) (xs:List (List UInt8)),jq sep (x::xs)=x++xs.flatMap (fun y=>sep++y)
 |x,[]=>by simp[jq]
 |x,y::ys=>by
  have:=RG sep y ys;rw[show jq sep (x::y::ys)=x++sep++jq sep (y::ys)from rfl,this];simp
theorem RS(n:Int):fL [n]=fW n:=rfl
theorem acy(n m:Int):fL [n,m]=fW n++[32]++fW m:=rfl
theorem acx{l:List Int}{n:Int}(h:l≠[]):fL (l++[n])=fL l++[32]++fW n:=by
 unfold fL;rw[List.map_append,List.map_cons,List.map_nil];exact RH _ _ _ (by simpa using h)
theorem Vw(pre:List UInt8)(ts:List Target):jq [59,32] (pre::ts.map fun t=>fL [t.unit,t.image,t.dp])=pre++nu ts:=by
 rw[RG,List.flatMap_map];rfl
end bE
end Go.Proofs.YtlbppjmekiemiaaGreatDoor

/- Plain answers: trust. No condition. -/
namespace Go.Proofs.YtlbppjmekiemiaaGreatDoor
namespace bE

def mF(s:Signed):Bool:=decide (1<=s.key)&&decide (s.key<=50)&&decide (1<=s.name)&&decide (s.name<=60)
def iq(l:List Signed):Int:=if 360<l.length then 2 else if l.all mF then 0 else 3
def qR(k n:Int)(s:Signed):Bool:=au k s.key&&(au n s.name&&true)
def uU(k n:Int)(j:Int):List Signed->Int
 |[]=>-1
 |s::r=>if qR k n s then j else uU k n (j+1) r
def mA(k n:Int)(l:List Signed):Bool:=l.any (qR k n)
def uV(k:Int)(j:Int):List Int->Int
 |[]=>-1
 |x::r=>if x=k then j else uV k (j+1) r
def qJ(k:Int)(l:List Int):Bool:=l.any fun x=>decide (x=k)
def oc(l:List Signed)(sigs:List Int)(name k:Int):Bool:=qJ k sigs&&mA k name l
def mW(l:List Signed)(sigs:List Int)(name:Int)(aF:List Int):Nat:=(aF.filter (oc l sigs name)).length
def ir(l:List Signed)(r:kV)(sigs:List Int)(name:Int):Int×Int :=
 if iq l=0 then(if ht r.version r.keys r.ej=0 then(if 50<sigs.length then(0,2)else((mW l sigs name r.keys:Nat),0))else(0,ht r.version r.keys r.ej))else(0,iq l)
def g2(t:iA):Int:=if t.version<0\/1000<t.version then 3 else ht t.r.version t.r.keys t.r.ej
def lz:iA:=⟨⟨0,[],0⟩,0⟩
def gJ(l:List Signed)(r:kV)(sigs:List Int)(name:Int):Int:=if (ir l r sigs name).2=0 then(if (ir l r sigs name).1<r.ej then 9 else 0)else(ir l r sigs name).2
def q6(b:List (List UInt8))(l:List Signed)(t:iA)(next:kV)(sigs:List Int):Int :=
 if g2 t=0 then(if ht next.version next.keys next.ej=0 then(if fH b=0 then(if next.version=t.r.version+1 then
  (if gJ l t.r sigs (fk (jO next.version next.keys next.ej) b+1)=0 then gJ l next sigs (fk (jO next.version next.keys next.ej) b+1)else gJ l t.r sigs (fk (jO next.version next.keys next.ej) b+1))else 10)else fH b)else ht next.version next.keys next.ej)else g2 t
def gE(b:List (List UInt8))(l:List Signed)(t:iA)(next:kV)(sigs:List Int):iA×Int :=
 if q6 b l t next sigs=0 then(⟨next,t.version⟩,0)else(lz,q6 b l t next sigs)
def gL(b:List (List UInt8))(l:List Signed)(t:iA):List kV->List (List Int)->iA×Int
 |[],_=>(t,0)
 |r::rs,a7=>if (gE b l t r (a7.headD [])).2=0 then gL b l (gE b l t r (a7.headD [])).1 rs a7.tail else(lz,(gE b l t r (a7.headD [])).2)
def nl(b:List (List UInt8))(x:Target)(w:List Int):Bool:=decide ((hk b w).2=0)&&decide ((hk b w).1=x.image)&&decide ((w.length:Int)=x.dp)
def nm(b:List (List UInt8)):List Target->List (List Int)->Bool
 |[],_=>true
 |x::xs,ws=>nl b x (ws.headD [])&&nm b xs ws.tail
def mg(b:List (List UInt8))(l:List Signed)(t:iA)(o:jV)(now aL:Int):Int :=
 if gD o.r.version o.r.ca o.r.targets=0 then(if fH b=0 then
  (if gJ l t.r o.sigs (fk (lC o.r.version o.r.ca o.r.targets) b+1)=0 then
   (if o.r.version<=t.version then 10 else if o.r.ca<now then 11 else if (o.r.targets.length:Int)≠aL\/(o.cL.length:Int)≠aL then 4 else if nm b o.r.targets o.cL then 0 else 5)
  else gJ l t.r o.sigs (fk (lC o.r.version o.r.ca o.r.targets) b+1))else fH b)else gD o.r.version o.r.ca o.r.targets
def takeEnd(b:List (List UInt8))(l:List Signed)(o:jV)(now aL:Int)(x:iA×Int):iA×Int :=
 if x.2=0 then(if mg b l x.1 o now aL=0 then(⟨x.1.r,o.r.version⟩,0)else(lz,mg b l x.1 o now aL))else(lz,x.2)
def g1(b:List (List UInt8))(l:List Signed)(t:iA)(o:jV)(now aL:Int):iA×Int :=
 if g2 t=0 then(if 6<o.roots.length\/o.kM.length≠o.roots.length then(lz,2)else takeEnd b l o now aL (gL b l t o.roots o.kM))else(lz,g2 t)
def AO(a b:iA):Bool:=au a.version b.version&&(au a.r.version b.r.version&&(au a.r.ej b.r.ej&&gj a.r.keys b.r.keys))
theorem jJ{x y:Int}:(if x=0 then y else x)=0↔x=0/\y=0:=by
 by_cases h:x=0
 ·rw[if_pos h];exact⟨fun g=>⟨h,g⟩,fun g=>g.2⟩
 ·rw[if_neg h];exact⟨fun g=>absurd g h,fun g=>absurd g.1 h⟩
theorem zd{t:iA}(h:g2 t=0):0<=t.version/\t.version<=1000/\ht t.r.version t.r.keys t.r.ej=0:=by
 unfold g2 at h
 by_cases c:t.version<0\/1000<t.version
 ·rw[if_pos c]at h;cases h
 ·rw[if_neg c]at h;exact⟨by omega,by omega,h⟩
theorem rn{l:List (List UInt8)}(h:fH l=0):l.length<=60:=by
 unfold fH at h
 by_cases c:60<l.length
 ·rw[if_pos c]at h;cases h
 ·omega
theorem Xj{b:List (List UInt8)}{l:List Signed}{t:iA}{next:kV}{sigs:List Int}(h:q6 b l t next sigs=0) :
  g2 t=0/\ht next.version next.keys next.ej=0/\fH b=0/\next.version=t.r.version+1 /\
  gJ l t.r sigs (fk (jO next.version next.keys next.ej) b+1)=0/\gJ l next sigs (fk (jO next.version next.keys next.ej) b+1)=0:=by
 unfold q6 at h;obtain⟨I,h⟩:=jJ.1 h;obtain⟨G,h⟩:=jJ.1 h;obtain⟨ab,h⟩:=jJ.1 h
 by_cases c:next.version=t.r.version+1
 ·rw[if_pos c]at h;obtain⟨aV,h⟩:=jJ.1 h;exact⟨I,G,ab,c,aV,h⟩
 ·rw[if_neg c]at h;cases h
theorem Xk{b:List (List UInt8)}{l:List Signed}{t:iA}{next:kV}{sigs:List Int}(h:(gE b l t next sigs).2=0):q6 b l t next sigs=0/\gE b l t next sigs=(⟨next,t.version⟩,0):=by
 unfold gE at h |-
 by_cases c:q6 b l t next sigs=0
 ·rw[if_pos c];exact⟨c,rfl⟩
 ·rw[if_neg c]at h;exact absurd h c
theorem PA(l:List Signed)(sigs:List Int)(name k:Int)(r:List Int):mW l sigs name (k::r)=(if oc l sigs name k then 1 else 0)+mW l sigs name r:=by
 unfold mW;rw[List.filter_cons]
 by_cases h:oc l sigs name k=true
 ·rw[if_pos h,if_pos h,List.length_cons];omega
 ·rw[if_neg h,if_neg h];omega
theorem RD(k:Int):∀(l:List Int) (j:Int),0<=j->dc 0 (uV k j l)=qJ k l
 |[],_,_=>rfl
 |x::r,j,aR=>by
  simp only[uV,qJ,List.any_cons]
  by_cases c:x=k
  ·rw[if_pos c,decide_eq_true c];exact decide_eq_true aR
  ·rw[if_neg c,decide_eq_false c];exact RD k r (j+1) (by omega)
theorem RC(k n:Int):∀(l:List Signed) (j:Int),0<=j->dc 0 (uU k n j l)=mA k n l
 |[],_,_=>rfl
 |x::r,j,aR=>by
  simp only[uU,mA,List.any_cons]
  by_cases c:qR k n x=true
  ·rw[if_pos c,c];exact decide_eq_true aR
  ·rw[if_neg c,(Bool.not_eq_true _).mp c];exact RC k n r (j+1) (by omega)
end bE
end Go.Proofs.YtlbppjmekiemiaaGreatDoor

/- Plain laws: trust. No condition. -/
namespace Go.Proofs.YtlbppjmekiemiaaGreatDoor
namespace bE

theorem Co{l:List Signed}(h:iq l=0):l.length<=360/\l.all mF=true:=by
 unfold iq at h
 by_cases c:360<l.length
 ·rw[if_pos c]at h;cases h
 ·rw[if_neg c]at h
  by_cases bb:l.all mF=true
  ·exact⟨by omega,bb⟩
  ·rw[if_neg bb]at h;cases h
theorem LK{b:List (List UInt8)}{l:List Signed}:∀(rs:List kV) (rg:List (List Int)) (t:iA),g2 t=0->(gL b l t rs rg).2=0 ->
  (gL b l t rs rg).1.version=t.version/\(gL b l t rs rg).1.r.version=t.r.version+rs.length/\g2 (gL b l t rs rg).1=0/\gL b l t rs rg=((gL b l t rs rg).1,0)
 |[],rg,t,a6,_=>⟨rfl,by simp[gL],a6,rfl⟩
 |r::rs,rg,t,a6,h=>by
  by_cases c:(gE b l t r (rg.headD [])).2=0
  ·have e:gL b l t (r::rs) rg=gL b l (gE b l t r (rg.headD [])).1 rs rg.tail:=if_pos c;rw[e]at h |-;obtain⟨I,G⟩:=Xk c;obtain⟨bK,bX,_,eW,_⟩:=Xj I;rw[G]at h |-;obtain⟨t1,t2,_⟩:=zd bK;have gO:g2 ⟨r,t.version⟩=0:=by
    unfold g2;simp only;rw[if_neg (by omega)];exact bX
   obtain⟨cJ,cE,ey,gw⟩:=LK rs rg.tail ⟨r,t.version⟩ gO h;exact⟨cJ,by rw[cE,List.length_cons];simp only;omega,ey,gw⟩
  ·have e:gL b l t (r::rs) rg=(lz,(gE b l t r (rg.headD [])).2):=if_neg c;rw[e]at h;exact absurd h c
theorem Vq{b:List (List UInt8)}{l:List Signed}{t:iA}{o:jV}{now aL:Int}(h:mg b l t o now aL=0) :
  gD o.r.version o.r.ca o.r.targets=0/\fH b=0/\gJ l t.r o.sigs (fk (lC o.r.version o.r.ca o.r.targets) b+1)=0/\t.version<o.r.version/\now<=o.r.ca/\(o.r.targets.length:Int)=aL/\(o.cL.length:Int)=aL/\nm b o.r.targets o.cL=true:=by
 unfold mg at h;obtain⟨I,h⟩:=jJ.1 h;obtain⟨G,h⟩:=jJ.1 h;obtain⟨ab,h⟩:=jJ.1 h
 by_cases bA:o.r.version<=t.version
 ·rw[if_pos bA]at h;cases h
 rw[if_neg bA]at h
 by_cases bb:o.r.ca<now
 ·rw[if_pos bb]at h;cases h
 rw[if_neg bb]at h
 by_cases cr:(o.r.targets.length:Int)≠aL\/(o.cL.length:Int)≠aL
 ·rw[if_pos cr]at h;cases h
 rw[if_neg cr]at h
 by_cases du:nm b o.r.targets o.cL=true
 ·exact⟨I,G,ab,by omega,by omega,by omega,by omega,du⟩
 ·rw[if_neg du]at h;cases h
theorem W9{b:List (List UInt8)}{l:List Signed}{t:iA}{o:jV}{now aL:Int}(h:(g1 b l t o now aL).2=0) :
  g2 t=0/\o.roots.length<=6/\o.kM.length=o.roots.length/\(gL b l t o.roots o.kM).2=0/\mg b l (gL b l t o.roots o.kM).1 o now aL=0/\g1 b l t o now aL=(⟨(gL b l t o.roots o.kM).1.r,o.r.version⟩,0):=by
 unfold g1 at h |-
 by_cases bA:g2 t=0
 ·rw[if_pos bA]at h |-
  by_cases bb:6<o.roots.length\/o.kM.length≠o.roots.length
  ·rw[if_pos bb]at h;cases h
  ·rw[if_neg bb]at h |-;unfold takeEnd at h |-
   by_cases cr:(gL b l t o.roots o.kM).2=0
   ·rw[if_pos cr]at h |-
    by_cases du:mg b l (gL b l t o.roots o.kM).1 o now aL=0
    ·rw[if_pos du];exact⟨bA,by omega,by omega,cr,du,rfl⟩
    ·rw[if_neg du]at h;exact absurd h du
   ·rw[if_neg cr]at h;exact absurd h cr
 ·rw[if_neg bA]at h;exact absurd h bA
theorem Z9(k n:Int)(a b:List Signed):mA k n (a++b)=(mA k n a||mA k n b):=by simp[mA]
end bE
end Go.Proofs.YtlbppjmekiemiaaGreatDoor

/- Plain answers: a unit. No condition. -/
namespace Go.Proofs.YtlbppjmekiemiaaGreatDoor
namespace bE

structure h2 where
 slot:Int
 eV:Int
 ready:Int
def tl(l:List (List Int)):Bool:=l.all fun r=>decide (0<r.length)
def g8(s:h2)(r:List Int):h2 :=
 if r.getD 0 0=1/\r.length=3/\r.getD 1 0<=1 then⟨r.getD 1 0,r.getD 2 0,0⟩
 else if r.getD 0 0=2/\r.length=2 then⟨s.slot,s.eV,r.getD 1 0⟩
 else if r.getD 0 0=3/\r.length=2 then⟨s.slot,s.eV,0⟩else s
def hO(l:List (List Int)):h2:=l.foldl g8 ⟨0,0,0⟩
def c2(f:cm):h2:=hO (j8 f).1
def nY(eV slot ready:Int):List (List Int):=[1,slot,eV]::if 0<ready then [[2,ready]]else []
def eZ(u:cW):Int :=
 if dE u.f=0 then(if u.f.words.length=192 then(if u.n<0\/8<u.n\/u.eE<0\/40<u.eE then 3 else 0)else 4)else dE u.f
def mc(u:cW):h2×Int:=if eZ u=0 then(c2 u.f,0)else(⟨0,0,0⟩,eZ u)
def u7:cW:=⟨mE,false,0,0⟩
def CG(image:List Int)(name:Int):cm×Int:=gB (fb (sK (tk 6).1).1 0 0 image).1 0 image.length name
def qY(image:List Int)(name:Int):cW×Int :=
 if fY image=0 then(if (CG image name).2=0 then(⟨(fO (CG image name).1 [1,0,0] []).1,true,0,0⟩,0)else(u7,(CG image name).2))else(u7,fY image)
def Y3(u:cW):cW:=⟨u.f,false,0,0⟩
def e2(u:cW)(f:cm)(e:Int):cW×Bool :=
 if e=0 then(⟨f,u.up,u.n,u.eE⟩,true)else if e=7 then(⟨f,false,0,0⟩,false)else(u,false)
def e9(u:cW)(r:List Int):cW×Bool :=
 e2 u (fO u.f r (nY (c2 u.f).eV (c2 u.f).slot (c2 u.f).ready)).1 (fO u.f r (nY (c2 u.f).eV (c2 u.f).slot (c2 u.f).ready)).2
def jk(u:cW)(s:h2)(m:Message):cW×Bool:=e2 u (fb u.f (1-s.slot) m.at_ m.words).1 (fb u.f (1-s.slot) m.at_ m.words).2
def oz(u:cW)(s:h2)(m:Message):cW :=
 if u.n≠m.n\/u.eE≠m.at_\/40<m.at_+m.words.length then u
 else if (jk u s m).2 then⟨(jk u s m).1.f,(jk u s m).1.up,(jk u s m).1.n,(jk u s m).1.eE+m.words.length⟩else(jk u s m).1
def h3(u:cW)(s:h2):cW×Bool:=e2 u (hh u.f (1-s.slot)).1 (hh u.f (1-s.slot)).2
def oZ(u:cW)(s:h2)(m:Message):cW :=
 if 0<s.ready\/m.n<=s.eV\/8<m.n then u
 else if m.at_=0/\(u.n≠m.n\/u.eE=0)then
  (if (h3 u s).2 then oz ⟨(h3 u s).1.f,(h3 u s).1.up,m.n,0⟩ s m else(h3 u s).1)
 else oz u s m
def lH(m:Message)(y:Bool):List Message:=[⟨3,m.unit,m.n,0,0,[],y⟩]
def nI(m:Message):List Message:=[⟨6,m.unit,m.n,0,0,[],false⟩]
def lD(u:cW)(s:h2)(m:Message):cW×Bool:=e2 u (gB u.f (1-s.slot) m.at_ m.image).1 (gB u.f (1-s.slot) m.at_ m.image).2
def AP(u:cW)(s:h2)(m:Message)(body:List Int):cW×List Message :=
 if (lu u.f (1-s.slot)).2.2=0/\(lu u.f (1-s.slot)).2.1=m.image/\(lu u.f (1-s.slot)).1=body then
  (if (e9 u [2,m.n]).2 then((e9 u [2,m.n]).1,lH m true)else((e9 u [2,m.n]).1,[]))
 else(u,lH m false)
def o0(b:List (List UInt8))(u:cW)(s:h2)(m:Message):cW×List Message :=
 if m.n<=s.eV then(u,nI m)else if s.ready=m.n then(u,lH m true)else if 0<s.ready then(u,lH m false)
 else if (mT u.f (1-s.slot) m.at_).2=0/\u.n=m.n/\u.eE=m.at_ then
  (if (hk b (mT u.f (1-s.slot) m.at_).1).2=0/\(hk b (mT u.f (1-s.slot) m.at_).1).1≠0/\(hk b (mT u.f (1-s.slot) m.at_).1).1=m.image then
   (if (lD u s m).2 then AP ⟨(lD u s m).1.f,(lD u s m).1.up,0,0⟩ s m (mT u.f (1-s.slot) m.at_).1
   else((lD u s m).1,[]))
  else(u,lH m false))
 else(u,lH m false)
def pE(u:cW)(m:Message):cW×List Message:=if u.n=m.n then(⟨u.f,u.up,0,0⟩,nI m)else(u,nI m)
def mw(u:cW)(s:h2)(m:Message):cW×List Message :=
 if m.kind=4 then(if s.eV=m.n then(u,nI m)else if s.ready=m.n then
   (if (e9 u [1,1-s.slot,m.n]).2 then((e9 u [1,1-s.slot,m.n]).1,nI m)else((e9 u [1,1-s.slot,m.n]).1,[]))
  else(u,[]))
 else if m.n<=s.eV then(u,[])else if s.ready=m.n then
  (if (e9 u [3,m.n]).2 then pE (e9 u [3,m.n]).1 m else((e9 u [3,m.n]).1,[]))
 else pE u m
def gd(m:Message):Int :=
 if m.kind<1\/7<m.kind\/m.unit<0\/4<=m.unit\/m.n<1\/8<m.n\/m.at_<0\/40<m.at_\/m.image<0\/60<m.image\/8<m.words.length then 3 else if cK m.words then 0 else 3
def g3(b:List (List UInt8))(u:cW)(m:Message):cW×List Message :=
 if u.up then(if m.kind=1 then(oZ u (c2 u.f) m,[])else if m.kind=2 then o0 b u (c2 u.f) m else if m.kind=4\/m.kind=5 then mw u (c2 u.f) m else(u,[]))else(u,[])
def rK(b:List (List UInt8))(u:cW)(m:Message):Int:=if fH b=0 then(if eZ u=0 then gd m else eZ u)else fH b
def hV(b:List (List UInt8))(u:cW)(m:Message):(cW×List Message)×Int :=
 if rK b u m=0 then(g3 b u m,0)else((u7,[]),rK b u m)
def qo(u:cW):cW×Int:=if eZ u=0 then(⟨⟨u.f.words,-1⟩,true,0,0⟩,0)else(u7,eZ u)
def D9(u:cW):List Int×Int×Int:=if eZ u=0 then lu u.f (c2 u.f).slot else([],0,eZ u)
def tA(a b:Message):Bool:=au a.kind b.kind&&(au a.unit b.unit&&(au a.n b.n&&(au a.at_ b.at_&&(au a.image b.image&&(jC a.yes b.yes&&gj a.words b.words)))))
def mK:List Message->List Message->Bool
 |[],[]=>true
 |a::as,b::ar=>tA a b&&mK as ar
 |_,_=>false
def mL(a b:cW):Bool:=n9 a.f b.f&&(jC a.up b.up&&(au a.n b.n&&au a.eE b.eE))
def mj(l:List Message):Bool:=l.all fun m=>decide (m.words.length<=140737488355328)
end bE
end Go.Proofs.YtlbppjmekiemiaaGreatDoor

/- Plain laws: a unit. No condition. -/
namespace Go.Proofs.YtlbppjmekiemiaaGreatDoor
namespace bE

theorem DD{l r:List Int}(h:cK l=true)(av:∀x∈r,x∈l):cK r=true:=List.all_eq_true.2 fun x aG=>List.all_eq_true.1 h x (av x aG)
theorem YI{r:List Int}(I:1<=r.length)(G:r.length<=4)(ab:cK r=true):gv r=0:=by
 unfold gv;rw[if_pos ⟨I,G⟩,if_pos ab]
theorem aap(x:Int):gQ x=0\/(1<=gQ x/\gQ x<=4):=by
 unfold gQ;split
 ·exact .inr (by omega)
 ·exact .inl rfl
theorem VO:∀(m:Nat) (l:List Int),cK l=true->∀r∈(e6 m l).1,gv r=0
 |0,_,_,r,aw=>by simp[e6]at aw
 |_+1,[],_,r,aw=>by simp[e6]at aw
 |m+1,x::xs,h,r,aw=>by
  have aG:cK xs=true:=DD h fun y ct=>List.mem_cons_of_mem _ ct
  simp only[e6]at aw;split at aw
  ·simp at aw
  ·split at aw
   ·simp at aw
   ·rename_i a6;split at aw
    ·rename_i hle;rcases List.mem_cons.1 aw with rfl|aw
     ·have:=aap x;exact YI (by rw[List.length_take];omega) (by rw[List.length_take];omega) (DD aG fun y ct=>List.mem_of_mem_take ct)
     ·exact VO m _ (DD aG fun y ct=>List.mem_of_mem_drop ct) r aw
    ·simp at aw
theorem afR{ws:List Int}(h:cK ws=true):∀r∈fy ws,gv r=0:=by
 intro r aw;refine VO 32 _ (DD h fun y ct=>?_) r aw;have:=List.mem_of_mem_drop ct;unfold p8 a2 at this;exact List.mem_of_mem_take (List.mem_of_mem_drop this)
theorem AH(f:cm):(j8 f).1.length<=32/\∀r∈(j8 f).1,gv r=0:=by
 unfold j8
 by_cases c:dE f=0
 ·rw[if_pos c];obtain⟨bK,_⟩:=nG c;obtain⟨_,_,_,du⟩:=jh bK;exact⟨(LF _).2,afR du⟩
 ·rw[if_neg c];exact⟨by simp,fun r aw=>by simp at aw⟩
theorem JS{l:List (List Int)}(h:∀r∈l,gv r=0):tl l=true:=List.all_eq_true.2 fun r aw=>by
 have:=(pw (h r aw)).1;exact decide_eq_true (by omega)
def tV(s:h2):Prop:=(0<=s.slot/\s.slot<=1)/\(0<=s.eV/\s.eV<=65535)/\0<=s.ready/\s.ready<=65535
theorem MT{r:List Int}(h:cK r=true)(i:Nat):0<=r.getD i 0/\r.getD i 0<=65535:=by
 rw[List.getD_eq_getElem?_getD];cases hi:r[i]? with
 |none=>simp
 |some x =>
  have:=va (List.all_eq_true.1 h x (List.mem_of_getElem? hi));simpa using this
theorem aiO{s:h2}{r:List Int}(av:tV s)(aw:gv r=0):tV (g8 s r):=by
 obtain⟨_,_,hM⟩:=pw aw;have ku:=MT hM 1;have jv:=MT hM 2;obtain⟨a,b,c⟩:=av;unfold g8;split
 ·rename_i h;exact⟨⟨ku.1,h.2.2⟩,jv,by simp,by simp⟩
 ·split
  ·exact⟨a,b,ku⟩
  ·split
   ·exact⟨a,b,by simp,by simp⟩
   ·exact⟨a,b,c⟩
theorem Qg:∀(l:List (List Int)) (s:h2),tV s->(∀r∈l,gv r=0)->tV (l.foldl g8 s)
 |[],_,av,_=>av
 |r::l,s,av,h=>Qg l _ (aiO av (h r (by simp))) fun x aG=>h x (by simp[aG])
theorem w4(f:cm):tV (c2 f):=Qg _ _ ⟨by simp,by simp,by simp⟩ (AH f).2
theorem ach(b s r:Int):iJ (nY b s r)=true/\(nY b s r).length<=2:=by
 unfold nY;split<;>exact⟨by simp[iJ],by simp⟩
theorem qs{u:cW}(h:eZ u=0):dE u.f=0/\u.f.words.length=192/\0<=u.n/\u.n<=8/\0<=u.eE/\u.eE<=40:=by
 unfold eZ at h
 by_cases bA:dE u.f=0
 ·rw[if_pos bA]at h
  by_cases bb:u.f.words.length=192
  ·rw[if_pos bb]at h
   by_cases cr:u.n<0\/8<u.n\/u.eE<0\/40<u.eE
   ·rw[if_pos cr]at h;cases h
   ·exact⟨bA,bb,by omega,by omega,by omega,by omega⟩
  ·rw[if_neg bb]at h;cases h
 ·rw[if_neg bA]at h;exact absurd h bA
theorem ov{m:Message}(h:gd m=0):1<=m.kind/\m.kind<=7/\0<=m.unit/\m.unit<=3/\1<=m.n/\m.n<=8/\0<=m.at_/\m.at_<=40/\0<=m.image/\m.image<=60/\m.words.length<=8/\cK m.words=true:=by
 unfold gd at h
 by_cases c:m.kind<1\/7<m.kind\/m.unit<0\/4<=m.unit\/m.n<1\/8<m.n\/m.at_<0\/40<m.at_\/m.image<0\/60<m.image\/8<m.words.length
 ·rw[if_pos c]at h;cases h
 ·rw[if_neg c]at h
  by_cases bb:cK m.words=true
  ·exact⟨by omega,by omega,by omega,by omega,by omega,by omega,by omega,by omega,by omega,by omega,by omega,bb⟩
  ·rw[if_neg bb]at h;cases h
theorem zb{u:cW}{f:cm}{e:Int}(h:(e2 u f e).2=true):e=0/\e2 u f e=(⟨f,u.up,u.n,u.eE⟩,true):=by
 unfold e2 at h |-
 by_cases c:e=0
 ·rw[if_pos c];exact⟨c,rfl⟩
 ·rw[if_neg c]at h;split at h<;>cases h
theorem aca{f:cm}{s:Int}(h:(lu f s).2.2=0):(lu f s).1.length<=140737488355328:=by
 unfold lu at h |-
 by_cases c:eY f s=0
 ·rw[if_pos c];have ax:f.words.length=192:=by
   unfold eY at c
   by_cases bA:e3 f=0
   ·rw[if_pos bA]at c
    by_cases bb:f.words.length=192
    ·exact bb
    ·rw[if_neg bb]at c;cases c
   ·rw[if_neg bA]at c;exact absurd c bA
  unfold na;split
  ·have:(a2 f.words (lO s+4) (lO s+4+(f.words.getD (lO s) 0).toNat)).length<=f.words.length:=by unfold a2;rw[List.length_drop,List.length_take];omega
   exact Nat.le_trans this (by omega)
  ·simp
 ·rw[if_neg c];simp
theorem VJ:∀(a b:List Message),a.length≠b.length->mK a b=false
 |[],[],h=>absurd rfl h
 |[],_::_,_=>rfl
 |_::_,[],_=>rfl
 |x::a,y::b,h=>by
  simp only[mK,VJ a b (by simpa using h),Bool.and_false]
end bE
end Go.Proofs.YtlbppjmekiemiaaGreatDoor

/- Plain laws: what a unit hears. No condition. -/
namespace Go.Proofs.YtlbppjmekiemiaaGreatDoor
namespace bE

def yt(ws:List Int):h2:=hO (fy ws)
theorem w3{f:cm}(h:dE f=0):c2 f=yt f.words:=by unfold c2 yt;rw[Vp h]
def hT(f:cm):Prop:=dE f=0/\f.words.length=192
theorem DB{f:cm}(h:hT f):-1<=f.fuel/\f.fuel<=100000/\cK f.words=true/\0<eX f.words/\eX f.words<=60000:=by
 obtain⟨I,_⟩:=h;obtain⟨bK,_,dh,eW⟩:=nG I;obtain⟨_,bb,cr,du⟩:=jh bK;exact⟨bb,cr,du,dh,eW⟩
theorem ac8{f:cm}(ax:f.words.length=192)(G:-1<=f.fuel)(ab:f.fuel<=100000)(aV:cK f.words=true)(br:0<eX f.words)(bV:eX f.words<=60000):hT f :=
 ⟨Ht (by rw[ax];rfl) G ab aV (by omega) br bV,ax⟩
def ld(o:Nat)(g f:cm):Prop:=hT g/\(∀i,i<64+64*o\/128+64*o<=i->g.words.getD i 0=f.words.getD i 0)/\(f.fuel=-1->g.fuel=-1)
theorem Fs{o:Nat}{f:cm}(h:hT f):ld o f f:=⟨h,fun _ _=>rfl,id⟩
theorem Yk{o:Nat}{h g f:cm}(I:ld o h g)(G:ld o g f):ld o h f:=⟨I.1,fun i hi=>(I.2.1 i hi).trans (G.2.1 i hi),fun e=>I.2.2 (G.2.2 e)⟩
theorem wu{f:cm}{cs:List Change}(h:f.fuel=-1):b9 f cs=(⟨eI f.words cs,-1⟩,true):=by
 obtain⟨ws,fu⟩:=f;simp only at h;subst h;exact Y1
theorem Fq{o:Nat}{f:cm}{cs:List Change}(h:hT f)(aY:o<=1)(cb:within (64+64*o:Nat) (128+64*o:Nat) cs=true)(az:cs.all uj=true):ld o (b9 f cs).1 f:=by
 obtain⟨fg,ft,hx,oY,Ax⟩:=DB h;have ax:=sz f cs;have rS:=fun i hi=>PH (a:=(64+64*o:Nat)) (b:=(128+64*o:Nat)) (by omega) f cs cb i hi
 obtain⟨f1,f2⟩:=ru f cs fg ft;obtain⟨k,bK,bX,_⟩:=PI f cs;have gg:cK (b9 f cs).1.words=true:=by rw[bX];exact Ff _ _ hx (NP az k)
 obtain⟨_,bf,_⟩:=RV (xs:=(b9 f cs).1.words) (ws:=f.words) ax (fun i hi=>rS i (by omega));exact⟨ac8 (ax.trans h.2) f1 f2 gg (by rw[bf];exact oY) (by rw[bf];exact Ax),fun i hi=>rS i (by omega),fun e=>by rw[wu e]⟩
theorem Yj{o:Nat}{g f:cm}(h:ld o g f)(b1:hT f):c2 g=c2 f:=by
 rw[w3 h.1.1,w3 b1.1];unfold yt;rw[(RV (xs:=g.words) (ws:=f.words) (h.1.2.trans b1.2.symm) fun i hi=>h.2.1 i (by omega)).2.2]
def yO(e:Int)(f:cm):Prop:=f.fuel=-1->e≠7
theorem J8{f:cm}{cs:List Change}:yO (gl (b9 f cs)).2 f:=fun e=>by
 rw[wu e];show(j7 true:Int)≠7;decide
theorem Pz{o:Nat}{f:cm}(h:hT f)(aY:o<=1)(bp:(hh f (o:Int)).2=0\/(hh f (o:Int)).2=7):ld o (hh f (o:Int)).1 f/\yO (hh f (o:Int)).2 f:=by
 obtain⟨_,e⟩:=YQ bp;rw[e];refine⟨Fq h aY ?_ ?_,J8⟩
 ·unfold ze eH;exact Ba (Bb _ _ _ _ (by omega) (by omega)) (Bb _ _ _ _ (by omega) (by omega))
 ·unfold ze eH;rw[List.all_append,MS,MS];rfl
theorem Zx{o:Nat}{f:cm}{a:Int}{l:List Int}(h:hT f)(aY:o<=1)(bp:(fb f (o:Int) a l).2=0\/(fb f (o:Int) a l).2=7):ld o (fb f (o:Int) a l).1 f/\yO (fb f (o:Int) a l).2 f:=by
 obtain⟨_,⟨ei,eU,a3⟩,e⟩:=Zw bp;rw[e]at bp |-;obtain⟨_,_,_,_,_,_,i7⟩:=Ka bp;rw[TM bp];exact⟨Fq h aY (sk _ _ _ _ (by omega) (by omega)) (uf _ _ i7),J8⟩
theorem VT{o:Nat}{f:cm}{n m:Int}(h:hT f)(aY:o<=1)(bp:(gB f (o:Int) n m).2=0\/(gB f (o:Int) n m).2=7):ld o (gB f (o:Int) n m).1 f/\yO (gB f (o:Int) n m).2 f:=by
 obtain⟨_,_,e⟩:=agF bp;rw[e]at bp |-;obtain⟨_,_,_,_,_,_,i7⟩:=Ka bp;rw[TM bp];exact⟨Fq h aY (sk _ _ _ _ (by omega) (by simp only[Iz,List.length_cons,List.length_nil];omega)) (uf _ _ i7),J8⟩
theorem YN{u:cW}(h:hT u.f)(I:0<=u.n)(G:u.n<=8)(ab:0<=u.eE)(aV:u.eE<=40):eZ u=0:=by
 unfold eZ;rw[if_pos h.1,if_pos h.2,if_neg (by omega)]
theorem Ts{u:cW}(h:eZ u=0):hT u.f:=⟨(qs h).1,(qs h).2.1⟩
def jW(u:cW):Prop:=(0<=u.n/\u.n<=8)/\0<=u.eE/\u.eE<=40
theorem Hq{o:Nat}{u:cW}{g:cm}{e:Int}(hu:hT u.f)(az:jW u)(h:(e=0\/e=7)->ld o g u.f/\yO e u.f) :
  ld o (e2 u g e).1.f u.f/\jW (e2 u g e).1/\(u.f.fuel=-1->(e2 u g e).2=false->(e2 u g e).1=u):=by
 unfold e2
 by_cases c:e=0
 ·rw[if_pos c];exact⟨(h (.inl c)).1,az,fun _ h=>by cases h⟩
 ·rw[if_neg c]
  by_cases bb:e=7
  ·rw[if_pos bb];exact⟨(h (.inr bb)).1,⟨by simp,by simp⟩,fun b1 _=>absurd bb ((h (.inr bb)).2 b1)⟩
  ·rw[if_neg bb];exact⟨Fs hu,az,fun _ _=>rfl⟩
theorem P6{o:Nat}{u:cW}{s:h2}{m:Message}(hu:hT u.f)(az:jW u)(aY:o<=1)(av:1-s.slot=(o:Int)):ld o (oz u s m).f u.f/\jW (oz u s m):=by
 unfold oz
 by_cases c:u.n≠m.n\/u.eE≠m.at_\/40<m.at_+m.words.length
 ·rw[if_pos c];exact⟨Fs hu,az⟩
 ·rw[if_neg c];have aA:ld o (jk u s m).1.f u.f/\jW (jk u s m).1:=by
   unfold jk;rw[av];have:=Hq (o:=o) (u:=u) (g:=(fb u.f (o:Int) m.at_ m.words).1) (e:=(fb u.f (o:Int) m.at_ m.words).2) hu az (fun bp=>Zx hu aY bp);exact⟨this.1,this.2.1⟩
  by_cases bb:(jk u s m).2=true
  ·rw[if_pos bb];have e:(jk u s m).1=⟨(fb u.f (1-s.slot) m.at_ m.words).1,u.up,u.n,u.eE⟩:=by rw[show jk u s m=_ from(zb (u:=u) bb).2]
   refine⟨aA.1,?_⟩;rw[e];obtain⟨I,G,ab⟩:=az;exact⟨I,by simp only;omega,by simp only;omega⟩
  ·rw[if_neg bb];exact aA
theorem aeo{o:Nat}{u:cW}{s:h2}{m:Message}(hu:hT u.f)(az:jW u)(aB:1<=m.n/\m.n<=8)(aY:o<=1)(av:1-s.slot=(o:Int)):ld o (oZ u s m).f u.f/\jW (oZ u s m):=by
 unfold oZ
 by_cases c:0<s.ready\/m.n<=s.eV\/8<m.n
 ·rw[if_pos c];exact⟨Fs hu,az⟩
 rw[if_neg c]
 by_cases bb:m.at_=0/\(u.n≠m.n\/u.eE=0)
 ·rw[if_pos bb];have aA:ld o (h3 u s).1.f u.f/\jW (h3 u s).1:=by
   unfold h3;rw[av];have:=Hq (o:=o) (u:=u) (g:=(hh u.f (o:Int)).1) (e:=(hh u.f (o:Int)).2) hu az (fun bp=>Pz hu aY bp);exact⟨this.1,this.2.1⟩
  by_cases cr:(h3 u s).2=true
  ·rw[if_pos cr];have:=P6 (u:=⟨(h3 u s).1.f,(h3 u s).1.up,m.n,0⟩) (s:=s) (m:=m) aA.1.1 ⟨⟨by simp only;omega,aB.2⟩,by simp,by simp⟩ aY av;exact⟨Yk this.1 aA.1,this.2⟩
  ·rw[if_neg cr];exact aA
 ·rw[if_neg bb];exact P6 hu az aY av
theorem aci{s:h2}(h:tV s):hO (nY s.eV s.slot s.ready)=s:=by
 obtain⟨⟨ei,eU⟩,_,bA,bb⟩:=h;obtain⟨V0,eV,Vm⟩:=s;simp only at ei eU bA bb;unfold nY hO;have aO:∀t:h2,g8 t [1,V0,eV]=⟨V0,eV,0⟩:=fun t=>if_pos ⟨rfl,rfl,eU⟩
 by_cases c:0<Vm
 ·rw[if_pos c,List.foldl_cons,aO,List.foldl_cons,List.foldl_nil];unfold g8;rw[if_neg (by simp),if_pos ⟨rfl,rfl⟩];rfl
 ·rw[if_neg c,List.foldl_cons,aO,List.foldl_nil,show Vm=0 by omega]
theorem Tn{u:cW}{r:List Int}(hu:hT u.f)(az:jW u) :
  hT (e9 u r).1.f/\jW (e9 u r).1/\(∀i,64<=i->(e9 u r).1.f.words.getD i 0=u.f.words.getD i 0)/\(c2 (e9 u r).1.f=c2 u.f\/c2 (e9 u r).1.f=g8 (c2 u.f) r) /\
  ((e9 u r).2=true->c2 (e9 u r).1.f=g8 (c2 u.f) r/\(e9 u r).1=⟨(e9 u r).1.f,u.up,u.n,u.eE⟩) /\
  (u.f.fuel=-1->(e9 u r).1.f.fuel=-1/\((e9 u r).2=false->(e9 u r).1=u)):=by
 unfold e9;obtain⟨b3,ad⟩:∃b3,nY (c2 u.f).eV (c2 u.f).slot (c2 u.f).ready=b3:=⟨_,rfl⟩
 have qL:hO b3=c2 u.f:=by rw[<- ad];exact aci (w4 u.f)
 rw[ad]
 by_cases bp:(fO u.f r b3).2=0\/(fO u.f r b3).2=7
 ·obtain⟨cs,ei,eU,a3⟩:=NS bp;obtain⟨fg,ft,_⟩:=DB hu;obtain⟨f1,f2⟩:=ru u.f cs fg ft;obtain⟨iQ,jY,nD,kc⟩:=NU (ws:=u.f.words) (fu:=u.f.fuel) ei eU f1 f2;have bs:(fO u.f r b3).1=(b9 u.f cs).1:=by rw[a3];rfl
  have c8:hT (fO u.f r b3).1:=by rw[bs];exact⟨iQ,jY.trans hu.2⟩
  have fJ:∀k,fy (b9 u.f cs).1.words=k->c2 (fO u.f r b3).1=hO k:=fun k e=>by rw[bs,w3 iQ];unfold yt;rw[<- e]
  have I:hO (fy u.f.words++[r])=g8 (c2 u.f) r:=by rw[w3 hu.1];unfold hO yt;rw[List.foldl_append];rfl
  have G:hO (b3++[r])=g8 (c2 u.f) r:=by rw[<- qL];unfold hO;rw[List.foldl_append];rfl
  have rR:c2 (fO u.f r b3).1=g8 (c2 u.f) r\/((b9 u.f cs).2=false/\c2 (fO u.f r b3).1=c2 u.f):=by
   rcases kc with kc|kc|⟨kc,BI⟩
   ·exact .inl ((fJ _ kc).trans I)
   ·exact .inl ((fJ _ kc).trans G)
   ·exact .inr ⟨kc,by rw[fJ _ BI,w3 hu.1];rfl⟩
  have cb:∀i,64<=i->(fO u.f r b3).1.words.getD i 0=u.f.words.getD i 0:=fun i hi=>by rw[bs];exact nD i hi
  rcases bp with bp|bp
  ·have bO:(b9 u.f cs).2=true:=by
    rw[a3]at bp;cases bO:(b9 u.f cs).2 with
    |true=>rfl
    |false=>simp only[gl,bO,j7]at bp;omega
   have av:=rR.resolve_right (fun h=>by rw[bO]at h;cases h.1);unfold e2;rw[if_pos bp];refine⟨c8,az,cb,.inr av,fun _=>⟨av,rfl⟩,fun lj=>⟨?_,fun h=>by cases h⟩⟩;rw[bs,wu lj]
  ·have aq:¬(fO u.f r b3).2=0:=by omega
   unfold e2;rw[if_neg aq,if_pos bp];refine⟨c8,⟨by simp,by simp⟩,cb,rR.elim .inr (fun h=>.inl h.2),(fun h=>by cases h),fun lj=>?_⟩;rw[a3,wu lj]at bp;exact absurd bp (show ¬(j7 true:Int)=7 by decide)
 ·unfold e2;rw[if_neg (fun h=>bp (.inl h)),if_neg (fun h=>bp (.inr h))];exact⟨hu,az,fun _ _=>rfl,.inl rfl,(fun h=>by cases h),fun lj=>⟨lj,fun _=>rfl⟩⟩
theorem QL{b:List (List UInt8)}{u:cW}{m:Message}(h:u.up=false):g3 b u m=(u,[]):=by
 unfold g3;rw[if_neg (by rw[h];simp)]
theorem aaz{b:List (List UInt8)}{u:cW}{m:Message}(I:m.kind≠1)(G:m.kind≠2)(aV:m.kind≠4)(br:m.kind≠5):g3 b u m=(u,[]):=by
 unfold g3
 by_cases hu:u.up=true
 ·rw[if_pos hu,if_neg I,if_neg G,if_neg (by omega)]
 ·rw[if_neg hu]
theorem aau{b:List (List UInt8)}{u:cW}{m:Message}(h:(hV b u m).2=0):rK b u m=0/\hV b u m=(g3 b u m,0):=by
 unfold hV at h |-
 by_cases c:rK b u m=0
 ·rw[if_pos c];exact⟨c,rfl⟩
 ·rw[if_neg c]at h;exact absurd h c
theorem aat{b:List (List UInt8)}{u:cW}{m:Message}(I:fH b=0)(G:eZ u=0)(ab:gd m=0):hV b u m=(g3 b u m,0):=by
 unfold hV rK;rw[if_pos I,if_pos G,if_pos ab]
end bE
end Go.Proofs.YtlbppjmekiemiaaGreatDoor

/- Plain laws: what a unit hears, once and again. No condition. -/
namespace Go.Proofs.YtlbppjmekiemiaaGreatDoor
namespace bE

theorem TE{s:h2}(h:tV s):∃o:Nat,o<=1/\1-s.slot=(o:Int)/\s.slot=((1-o:Nat):Int):=by
 obtain⟨⟨I,G⟩,_⟩:=h
 by_cases c:s.slot=0
 ·exact⟨1,by omega,by omega,by omega⟩
 ·exact⟨0,by omega,by omega,by omega⟩
theorem Tr{u:cW}(h:eZ u=0):jW u:=by
 obtain⟨_,_,a,b,c,d⟩:=qs h;exact⟨⟨a,b⟩,c,d⟩
theorem Ps{u:cW}(h:hT u.f)(az:jW u):eZ u=0:=YN h az.1.1 az.1.2 az.2.1 az.2.2
def Kept(u:cW)(x:cW):Prop:=hT x.f/\jW x/\(c2 x.f).slot=(c2 u.f).slot/\(c2 x.f).eV=(c2 u.f).eV /\
 ∀i,64+64*(c2 u.f).slot.toNat<=i->i<128+64*(c2 u.f).slot.toNat->x.f.words.getD i 0=u.f.words.getD i 0
theorem Jn{u x:cW}{o:Nat}(hu:hT u.f)(av:(c2 u.f).slot=((1-o:Nat):Int))(aY:o<=1)(h:ld o x.f u.f)(az:jW x):Kept u x:=by
 have e:=Yj h hu;refine⟨h.1,az,by rw[e],by rw[e],fun i I G=>h.2.1 i ?_⟩;rw[av]at I G;omega
theorem RK{u x:cW}{r:List Int}(aG:Kept u x)(aw:(g8 (c2 x.f) r).slot=(c2 x.f).slot/\(g8 (c2 x.f) r).eV=(c2 x.f).eV):Kept u (e9 x r).1:=by
 obtain⟨bK,bX,dh,eW,hX⟩:=aG;obtain⟨ho,iX,iY,n4,_⟩:=Tn (r:=r) bK bX;refine⟨ho,iX,?_,?_,fun i I G=>(iY i (by omega)).trans (hX i I G)⟩
 ·rcases n4 with e|e
  ·rw[e];exact dh
  ·rw[e,aw.1];exact dh
 ·rcases n4 with e|e
  ·rw[e];exact eW
  ·rw[e,aw.2];exact eW
theorem aiS(s:h2)(n:Int):g8 s [2,n]=⟨s.slot,s.eV,n⟩:=by
 unfold g8;rw[if_neg (by simp),if_pos ⟨rfl,rfl⟩];rfl
theorem aiR(s:h2)(n:Int):g8 s [3,n]=⟨s.slot,s.eV,0⟩:=by
 unfold g8;rw[if_neg (by simp),if_neg (by simp),if_pos ⟨rfl,rfl⟩]
theorem aiT(s:h2){o n:Int}(h:o<=1):g8 s [1,o,n]=⟨o,n,0⟩:=if_pos ⟨rfl,rfl,h⟩
theorem ZP(u:cW)(m:Message):(pE u m).1.f=u.f:=by unfold pE;split<;>rfl
theorem ZO{u:cW}(h:jW u)(m:Message):jW (pE u m).1:=by
 unfold pE;split
 ·exact⟨by simp,by simp⟩
 ·exact h
theorem RJ{u x:cW}{m:Message}(h:Kept u x):Kept u (pE x m).1:=by
 obtain⟨bK,bX,dh,eW,hX⟩:=h;have e:=ZP x m;exact⟨by rw[e];exact bK,ZO bX m,by rw[e];exact dh,by rw[e];exact eW,by rw[e];exact hX⟩
theorem kept_refl{u:cW}(h:hT u.f)(az:jW u):Kept u u:=⟨h,az,rfl,rfl,fun _ _ _=>rfl⟩
theorem aay{b:List (List UInt8)}{u:cW}{m:Message}(hu:hT u.f)(az:jW u)(aB:1<=m.n/\m.n<=8) :
  Kept u (g3 b u m).1\/(m.kind=4/\(c2 u.f).ready=m.n/\hT (g3 b u m).1.f/\jW (g3 b u m).1/\c2 (g3 b u m).1.f=⟨1-(c2 u.f).slot,m.n,0⟩/\∀i,64<=i->(g3 b u m).1.f.words.getD i 0=u.f.words.getD i 0):=by
 have ad:=kept_refl hu az;obtain⟨o,aY,av,nU⟩:=TE (w4 u.f)
 by_cases s6:u.up=true
 case neg=>rw[QL (by simpa using s6)];exact .inl ad
 unfold g3;rw[if_pos s6]
 by_cases bK:m.kind=1
 ·rw[if_pos bK];obtain⟨fg,ft⟩:=aeo (u:=u) (s:=c2 u.f) (m:=m) hu az aB aY av;exact .inl (Jn hu nU aY fg ft)
 rw[if_neg bK]
 by_cases bX:m.kind=2
 ·rw[if_pos bX];refine .inl ?_;unfold o0
  by_cases bA:m.n<=(c2 u.f).eV
  ·rw[if_pos bA];exact ad
  rw[if_neg bA]
  by_cases bb:(c2 u.f).ready=m.n
  ·rw[if_pos bb];exact ad
  rw[if_neg bb]
  by_cases cr:0<(c2 u.f).ready
  ·rw[if_pos cr];exact ad
  rw[if_neg cr];split
  case isFalse=>exact ad
  split
  case isFalse=>exact ad
  have aA:=Hq (o:=o) (u:=u) (g:=(gB u.f (1-(c2 u.f).slot) m.at_ m.image).1) (e:=(gB u.f (1-(c2 u.f).slot) m.at_ m.image).2) hu az (fun bp=>by rw[av]at bp |-; exact VT hu aY bp);have nQ:ld o (lD u (c2 u.f) m).1.f u.f:=aA.1;have uA:jW (lD u (c2 u.f) m).1:=aA.2.1;split
  case isFalse=>exact Jn hu nU aY nQ uA
  have aG:Kept u ⟨(lD u (c2 u.f) m).1.f,(lD u (c2 u.f) m).1.up,0,0⟩:=Jn hu nU aY nQ ⟨by simp,by simp⟩;unfold AP;split
  case isFalse=>exact aG
  have aq:=RK (r:=[2,m.n]) aG (by rw[aiS];exact⟨rfl,rfl⟩);split<;>exact aq
 rw[if_neg bX]
 by_cases eW:m.kind=4\/m.kind=5
 case neg=>rw[if_neg eW];exact .inl ad
 rw[if_pos eW];unfold mw
 by_cases du:m.kind=4
 ·rw[if_pos du]
  by_cases bA:(c2 u.f).eV=m.n
  ·rw[if_pos bA];exact .inl ad
  rw[if_neg bA]
  by_cases bb:(c2 u.f).ready=m.n
  case neg=>rw[if_neg bb];exact .inl ad
  rw[if_pos bb];obtain⟨ho,iX,iY,n4,_⟩:=Tn (u:=u) (r:=[1,1-(c2 u.f).slot,m.n]) hu az;have key:Kept u (e9 u [1,1-(c2 u.f).slot,m.n]).1\/(m.kind=4/\(c2 u.f).ready=m.n/\hT (e9 u [1,1-(c2 u.f).slot,m.n]).1.f/\jW (e9 u [1,1-(c2 u.f).slot,m.n]).1/\c2 (e9 u [1,1-(c2 u.f).slot,m.n]).1.f=⟨1-(c2 u.f).slot,m.n,0⟩/\∀i,64<=i->(e9 u [1,1-(c2 u.f).slot,m.n]).1.f.words.getD i 0=u.f.words.getD i 0):=by
   rcases n4 with e|e
   ·exact .inl ⟨ho,iX,by rw[e],by rw[e],fun i I _=>iY i (by omega)⟩
   ·rw[aiT _ (by omega)]at e;exact .inr ⟨du,bb,ho,iX,e,iY⟩
  split<;>exact key
 ·rw[if_neg du]
  by_cases bA:m.n<=(c2 u.f).eV
  ·rw[if_pos bA];exact .inl ad
  rw[if_neg bA]
  by_cases bb:(c2 u.f).ready=m.n
  ·rw[if_pos bb];have aq:=RK (r:=[3,m.n]) ad (by rw[aiR];exact⟨rfl,rfl⟩);split
   ·exact .inl (RJ aq)
   ·exact .inl aq
  ·rw[if_neg bb];exact .inl (RJ ad)
theorem aaA{b:List (List UInt8)}{u:cW}{m:Message}(hu:eZ u=0)(aB:gd m=0):eZ (g3 b u m).1=0:=by
 obtain⟨_,_,_,_,e8,gU,_⟩:=ov aB;rcases aay (b:=b) (Ts hu) (Tr hu) ⟨e8,gU⟩with h|⟨_,_,I,G,_⟩
 ·exact Ps h.1 h.2.1
 ·exact Ps I G
theorem afQ{u:cW}(h:eZ u=0):mc u=(c2 u.f,0):=by unfold mc;rw[if_pos h]
theorem N8{u:cW}(h:eZ u=0):qo u=(⟨⟨u.f.words,-1⟩,true,0,0⟩,0):=by unfold qo;rw[if_pos h]
end bE
end Go.Proofs.YtlbppjmekiemiaaGreatDoor

/- Plain laws: what a unit hears twice; a unit that is ready. No condition. -/
namespace Go.Proofs.YtlbppjmekiemiaaGreatDoor
namespace bE

theorem agy(m:Message):tA m m=true:=by simp[tA,gj,jC,au]
theorem VK:∀l:List Message,mK l l=true
 |[]=>rfl
 |m::l=>by simp only[mK,agy,VK l,Bool.and_self]
theorem agP(m:Message)(y:Bool):mj (lH m y)=true:=by simp[mj,lH]
theorem agO(m:Message):mj (nI m)=true:=by simp[mj,nI]
theorem Yp{f:cm}{s n:Int}(b1:f.words.length=192)(av:0<=s/\s<=1)(h:(mT f s n).2=0):((mT f s n).1.length:Int)=n:=by
 unfold mT at h |-
 by_cases c:eY f s=0
 ·rw[if_pos c]at h |-
  by_cases bb:0<=n/\n<=40
  ·rw[if_pos bb];obtain⟨a,bh⟩:=Int.eq_ofNat_of_zero_le bb.1;obtain⟨t,bl⟩:=Int.eq_ofNat_of_zero_le av.1;simp only[a2,List.length_drop,List.length_take,b1];omega
  ·rw[if_neg bb]at h;cases h
 ·rw[if_neg c]at h;exact absurd h c
theorem QK{b:List (List UInt8)}{u:cW}{m:Message}(s6:u.up=true)(ad:m.kind=4\/m.kind=5):g3 b u m=mw u (c2 u.f) m:=by
 unfold g3;rw[if_pos s6,if_neg (by omega),if_neg (by omega),if_pos ad]
end bE
end Go.Proofs.YtlbppjmekiemiaaGreatDoor

/- Plain laws: an image that comes in pieces. No condition. -/
namespace Go.Proofs.YtlbppjmekiemiaaGreatDoor
namespace bE

theorem Hv{f:cm}{o:Nat}(h:hT f)(aY:o<=1):eY f (o:Int)=0:=by
 obtain⟨ei,eU,a3,_⟩:=DB h;exact YL (ws:=f.words) (fu:=f.fuel) h.2 ei eU a3 aY
end bE
end Go.Proofs.YtlbppjmekiemiaaGreatDoor

/- Plain answers: a gateway. No condition. -/
namespace Go.Proofs.YtlbppjmekiemiaaGreatDoor
namespace bE

structure h0 where
 n:Int
 version:Int
 dv:Bool
 abort:Bool
 ended:Bool
def l8:h0:=⟨0,0,false,false,false⟩
def gn(s:h0)(r:List Int):h0 :=
 if r.getD 0 0=1/\r.length=3/\1<=r.getD 1 0/\r.getD 1 0<=8 then⟨r.getD 1 0,r.getD 2 0,false,false,false⟩
 else if r.length≠2\/r.getD 1 0≠s.n\/s.n=0 then s
 else if r.getD 0 0=2/\s.abort=false then⟨s.n,s.version,true,s.abort,s.ended⟩
 else if r.getD 0 0=3/\s.dv=false then⟨s.n,s.version,s.dv,true,s.ended⟩
 else if r.getD 0 0=4/\(s.dv=true\/s.abort=true)then⟨s.n,s.version,s.dv,s.abort,true⟩else s
def iK(l:List (List Int)):h0:=l.foldl gn l8
def bL(f:cm):h0:=iK (j8 f).1
def n6:Gate:=⟨mE,false,⟨⟨0,[],0⟩,0⟩,[],[]⟩
def dM(g:Gate):Int :=
 if dE g.f=0 then(if g.cF.length<1\/4<g.cF.length\/g.did.length≠g.cF.length then 4 else g2 g.t)else dE g.f
def ks(g:Gate):h0×Int:=if dM g=0 then(bL g.f,0)else(l8,dM g)
def Dt(r:kV)(aL:Int):Gate:=⟨(sK (tk 2).1).1,true,⟨r,0⟩,c6 aL.toNat false,c6 aL.toNat false⟩
def oW(r:kV)(aL:Int):Gate×Int :=
 if aL<1\/4<aL then(n6,3)else if dM (Dt r aL)=0 then(Dt r aL,0)else(n6,dM (Dt r aL))
def l4(s:h0):List (List Int) :=
 if s.n=0 then []else [[1,s.n,s.version]]++(if s.dv=true then [[2,s.n]]else [])++(if s.abort=true then [[3,s.n]]else [])++(if s.ended=true then [[4,s.n]]else [])
def rD(g:Gate):Gate:=⟨g.f,g.up,g.t,c6 g.cF.length false,c6 g.did.length false⟩
def wh(g:Gate)(f:cm)(e:Int):Gate×Bool :=
 if e=0 then(⟨f,g.up,g.t,g.cF,g.did⟩,true)else if e=7 then(⟨f,false,g.t,c6 g.cF.length false,c6 g.did.length false⟩,false)else(g,false)
def dJ(g:Gate)(r:List Int):Gate×Bool:=wh g (fO g.f r (l4 (bL g.f))).1 (fO g.f r (l4 (bL g.f))).2
def hP(g:Gate):Int:=if dM g=0 then(if g.up=true then 0 else 7)else dM g
def ou(g:Gate)(s:h0)(t:iA)(v:Int):Gate×Int :=
 if (dJ g [1,s.n+1,v]).2=true then(⟨(dJ g [1,s.n+1,v]).1.f,(dJ g [1,s.n+1,v]).1.up,t,c6 g.cF.length false,c6 g.did.length false⟩,s.n+1)else((dJ g [1,s.n+1,v]).1,0)
def qn(b:List (List UInt8))(l:List Signed)(g:Gate)(o:jV)(now:Int):Int :=
 if hP g=0 then(if 0<(bL g.f).n/\(bL g.f).ended=false then 12 else if (bL g.f).n=8 then 8 else(g1 b l g.t o now g.cF.length).2)else hP g
def iB(b:List (List UInt8))(l:List Signed)(g:Gate)(o:jV)(now:Int):Gate×Int×Int :=
 if qn b l g o now=0 then((ou g (bL g.f) (g1 b l g.t o now g.cF.length).1 o.r.version).1,(ou g (bL g.f) (g1 b l g.t o now g.cF.length).1 o.r.version).2,0)else(n6,0,qn b l g o now)
def pC(g:Gate):Int:=if hP g=0 then(if (bL g.f).n=0\/(bL g.f).dv=true\/(bL g.f).abort=true then 12 else 0)else hP g
def j1(g:Gate):Gate×Int:=if pC g=0 then((dJ g [3,(bL g.f).n]).1,0)else(n6,pC g)
def nd(s:h0)(n:Int):Int:=if s.dv=true/\s.n=n then 4 else 5
def qv(s:h0)(unit n:Int):Message:=⟨nd s n,unit,n,0,0,[],false⟩
def tr(unit n:Int)(w:List Int)(k:Nat):Message:=⟨1,unit,n,(k:Int),0,a2 w k (min (k+8) w.length),false⟩
def iZ(unit n:Int)(w:List Int):Nat->Nat->List Message
 |0,_=>[]
 |d+1,k=>if k<w.length then tr unit n w k::iZ unit n w d (k+8)else []
def wv(g:Gate)(c:hf)(unit:Int):Int :=
 if hP g=0 then(if (bL g.f).n=0\/(bL g.f).ended=true then 12
  else if unit<0\/(g.cF.length:Int)<=unit\/c.n≠(bL g.f).n\/(c.cL.length:Int)<=unit\/(c.r.targets.length:Int)<=unit then 5 else 0)else hP g
def wS(c:hf)(unit n:Int):List Message×Int :=
 if 40<(nth c.cL unit.toNat []).length then([],2)
 else(iZ unit n (nth c.cL unit.toNat []) 6 0++[⟨2,unit,n,((nth c.cL unit.toNat []).length:Int),(nth c.r.targets unit.toNat ⟨0,0,0⟩).image,[],false⟩],0)
def sB(g:Gate)(s:h0)(c:hf)(unit:Int):List Message×Int :=
 if s.dv=true\/s.abort=true then(if nth g.did unit.toNat false=true then([],0)else([qv s unit s.n],0))
 else if nth g.cF unit.toNat false=true then([],0)else wS c unit s.n
def hj(g:Gate)(c:hf)(unit:Int):List Message×Int:=if wv g c unit=0 then sB g (bL g.f) c unit else([],wv g c unit)
def wT(x:Bool):Nat->List Bool->Int
 |_,[]=>-1
 |k,y::l=>if y=x then(k:Int)else wT x (k+1) l
def hasB(x:Bool)(l:List Bool):Bool:=decide (0<=wT x 0 l)
def o8(g:Gate)(u:Int):Gate:=⟨g.f,g.up,g.t,setAt g.cF u.toNat true,g.did⟩
def ox(g:Gate)(u:Int):Gate:=⟨g.f,g.up,g.t,g.cF,setAt g.did u.toNat true⟩
def sj(g:Gate)(s:h0)(u:Int):Gate:=if hasB false (o8 g u).cF=true then o8 g u else(dJ (o8 g u) [2,s.n]).1
def rv(g:Gate)(s:h0)(u:Int):Gate:=if hasB false (ox g u).did=true then ox g u else(dJ (ox g u) [4,s.n]).1
def gZ(g:Gate)(s:h0)(m:Message):Gate×List Message :=
 if m.kind=3 then(if s.n≠m.n\/s.ended=true\/s.dv=true\/s.abort=true\/m.yes=false then(g,[])else(sj g s m.unit,[]))
 else if m.kind=6 then(if s.n≠m.n\/s.ended=true\/(s.dv=false/\s.abort=false)then(g,[])else(rv g s m.unit,[]))
 else if m.kind=7 then(if s.n≠m.n\/s.ended=true\/s.dv=true\/s.abort=true then(g,[qv s m.unit m.n])else(g,[]))
 else(g,[])
def iu(g:Gate)(m:Message):Gate×List Message:=if g.up=true then gZ g (bL g.f) m else(g,[])
def rL(g:Gate)(m:Message):Int:=if dM g=0 then(if m.unit<0\/(g.cF.length:Int)<=m.unit\/m.n<1\/8<m.n then 3 else 0)else dM g
def hK(g:Gate)(m:Message):(Gate×List Message)×Int:=if rL g m=0 then(iu g m,0)else((n6,[]),rL g m)
def su(g:Gate):Gate×Int :=
 if dM g=0 then(⟨⟨g.f.words,-1⟩,true,g.t,c6 g.cF.length false,c6 g.did.length false⟩,0)else(n6,dM g)
def mY(a b:List Bool):Bool:=decide (a=b)
def AN(a b:Gate):Bool:=n9 a.f b.f&&(jC a.up b.up&&(AO a.t b.t&&(mY a.cF b.cF&&mY a.did b.did)))
end bE
end Go.Proofs.YtlbppjmekiemiaaGreatDoor

/- Plain laws: a gateway. No condition. -/
namespace Go.Proofs.YtlbppjmekiemiaaGreatDoor
namespace bE

structure tU(s:h0):Prop where
 mD:0<=s.n
 n2:s.n<=8
 v0:0<=s.version
 v1:s.version<=65535
 one:s.dv=true->s.abort=true->False
 fin:s.ended=true->s.dv=true\/s.abort=true
 none:s.n=0->s=l8
theorem ac9:tU l8:=⟨by simp[l8],by simp[l8],by simp[l8],by simp[l8],fun h=>by simp[l8]at h,fun h=>by simp[l8]at h,fun _=>rfl⟩
theorem aiN{s:h0}{r:List Int}(av:tU s)(aw:gv r=0):tU (gn s r):=by
 obtain⟨_,_,hM⟩:=pw aw;have jv:=MT hM 2;unfold gn;split
 ·rename_i h;exact⟨by simp only;omega,h.2.2.2,jv.1,jv.2,fun h=>(by cases h),fun h=>(by cases h),fun e=>(by simp only at e;omega)⟩
 ·split
  ·exact av
  ·rename_i I G;have aq:s.n≠0:=fun e=>G (.inr (.inr e))
   split
   ·rename_i h;exact⟨av.mD,av.n2,av.v0,av.v1,fun _ bh=>(by simp only at bh;rw[h.2]at bh;cases bh),fun _=>.inl rfl,fun e=>absurd e aq⟩
   ·split
    ·rename_i h;exact⟨av.mD,av.n2,av.v0,av.v1,fun bh _=>(by simp only at bh;rw[h.2]at bh;cases bh),fun _=>.inr rfl,fun e=>absurd e aq⟩
    ·split
     ·rename_i h;exact⟨av.mD,av.n2,av.v0,av.v1,av.one,fun _=>h.2,fun e=>absurd e aq⟩
     ·exact av
theorem Qe:∀(l:List (List Int)) (s:h0),tU s->(∀r∈l,gv r=0)->tU (l.foldl gn s)
 |[],_,av,_=>av
 |r::l,s,av,h=>Qe l _ (aiN av (h r (by simp))) fun x aG=>h x (by simp[aG])
theorem q0(f:cm):tU (bL f):=Qe _ _ ac9 (AH f).2
theorem aiM{s:h0}{n v:Int}(I:1<=n)(dZ:n<=8):gn s [1,n,v]=⟨n,v,false,false,false⟩:=if_pos ⟨rfl,rfl,I,dZ⟩
theorem Mw{s:h0}(aq:s.n≠0)(bh:s.abort=false):gn s [2,s.n]=⟨s.n,s.version,true,s.abort,s.ended⟩:=by
 unfold gn;rw[if_neg (by simp),if_neg (by simpa using aq),if_pos ⟨rfl,bh⟩]
theorem WZ{s:h0}(aq:s.n≠0)(az:s.dv=false):gn s [3,s.n]=⟨s.n,s.version,s.dv,true,s.ended⟩:=by
 unfold gn;rw[if_neg (by simp),if_neg (by simpa using aq),if_neg (by simp),if_pos ⟨rfl,az⟩]
theorem Mx{s:h0}(aq:s.n≠0)(az:s.dv=true\/s.abort=true):gn s [4,s.n]=⟨s.n,s.version,s.dv,s.abort,true⟩:=by
 unfold gn;rw[if_neg (by simp),if_neg (by simpa using aq),if_neg (by simp),if_neg (by simp),if_pos ⟨rfl,az⟩]
theorem acj{s:h0}(h:tU s):iK (l4 s)=s:=by
 unfold l4
 by_cases c:s.n=0
 ·rw[if_pos c,h.none c];rfl
 rw[if_neg c];have QW:1<=s.n:=by have:=h.mD;omega
 have dZ:=h.n2;have I:=h.one;have G:=h.fin;obtain⟨n,v,YR,XU,HN⟩:=s;simp only at c QW dZ I G |-;unfold iK;rw[List.foldl_append,List.foldl_append,List.foldl_append,List.foldl_cons,List.foldl_nil,aiM QW dZ];cases YR<;>cases XU<;>cases HN
 ·rfl
 ·exact absurd (G rfl) (by simp)
 ·simp only[Bool.false_eq_true,if_false,if_true,List.foldl_nil,List.foldl_cons];exact WZ (s:=⟨n,v,false,false,false⟩) c rfl
 ·simp only[Bool.false_eq_true,if_false,if_true,List.foldl_nil,List.foldl_cons];rw[show gn ⟨n,v,false,false,false⟩ [3,n]=⟨n,v,false,true,false⟩from WZ (s:=⟨n,v,false,false,false⟩) c rfl];exact Mx (s:=⟨n,v,false,true,false⟩) c (.inr rfl)
 ·simp only[Bool.false_eq_true,if_false,if_true,List.foldl_nil,List.foldl_cons];exact Mw (s:=⟨n,v,false,false,false⟩) c rfl
 ·simp only[Bool.false_eq_true,if_false,if_true,List.foldl_nil,List.foldl_cons];rw[show gn ⟨n,v,false,false,false⟩ [2,n]=⟨n,v,true,false,false⟩from Mw (s:=⟨n,v,false,false,false⟩) c rfl];exact Mx (s:=⟨n,v,true,false,false⟩) c (.inl rfl)
 ·exact(I rfl rfl).elim
 ·exact(I rfl rfl).elim
theorem Dz{f:cm}(h:dE f=0):bL f=iK (fy f.words):=by unfold bL;rw[Vp h]
theorem qZ{g:Gate}{r:List Int}(hu:dE g.f=0) :
  dE (dJ g r).1.f=0/\(dJ g r).1.t=g.t/\(dJ g r).1.cF.length=g.cF.length/\(dJ g r).1.did.length=g.did.length /\
  (bL (dJ g r).1.f=bL g.f\/bL (dJ g r).1.f=gn (bL g.f) r) /\
  ((dJ g r).2=true->bL (dJ g r).1.f=gn (bL g.f) r/\(dJ g r).1=⟨(dJ g r).1.f,g.up,g.t,g.cF,g.did⟩) /\
  (g.f.fuel=-1->(dJ g r).1.f.fuel=-1/\((dJ g r).2=false->(dJ g r).1=g)):=by
 unfold dJ;obtain⟨b3,ad⟩:∃b3,l4 (bL g.f)=b3:=⟨_,rfl⟩
 have qL:iK b3=bL g.f:=by rw[<- ad];exact acj (q0 g.f)
 rw[ad]
 by_cases bp:(fO g.f r b3).2=0\/(fO g.f r b3).2=7
 ·obtain⟨cs,ei,eU,a3⟩:=NS bp;obtain⟨bK,_,_,_⟩:=nG hu;obtain⟨_,fg,ft,_⟩:=jh bK;obtain⟨f1,f2⟩:=ru g.f cs fg ft;obtain⟨iQ,jY,nD,kc⟩:=NU (ws:=g.f.words) (fu:=g.f.fuel) ei eU f1 f2;have bs:(fO g.f r b3).1=(b9 g.f cs).1:=by rw[a3];rfl
  have c8:dE (fO g.f r b3).1=0:=by rw[bs];exact iQ
  have fJ:∀k,fy (b9 g.f cs).1.words=k->bL (fO g.f r b3).1=iK k:=fun k e=>by rw[bs,Dz iQ,<- e]
  have I:iK (fy g.f.words++[r])=gn (bL g.f) r:=by rw[Dz hu];unfold iK;rw[List.foldl_append];rfl
  have G:iK (b3++[r])=gn (bL g.f) r:=by rw[<- qL];unfold iK;rw[List.foldl_append];rfl
  have rR:bL (fO g.f r b3).1=gn (bL g.f) r\/((b9 g.f cs).2=false/\bL (fO g.f r b3).1=bL g.f):=by
   rcases kc with kc|kc|⟨kc,BI⟩
   ·exact .inl ((fJ _ kc).trans I)
   ·exact .inl ((fJ _ kc).trans G)
   ·exact .inr ⟨kc,by rw[fJ _ BI,Dz hu]⟩
  rcases bp with bp|bp
  ·have bO:(b9 g.f cs).2=true:=by
    rw[a3]at bp;cases bO:(b9 g.f cs).2 with
    |true=>rfl
    |false=>simp only[gl,bO,j7]at bp;omega
   have av:=rR.resolve_right (fun h=>by rw[bO]at h;cases h.1);unfold wh;rw[if_pos bp];refine⟨c8,rfl,rfl,rfl,.inr av,fun _=>⟨av,rfl⟩,fun lj=>⟨?_,fun h=>by cases h⟩⟩;rw[bs,wu lj]
  ·have aq:¬(fO g.f r b3).2=0:=by omega
   unfold wh;rw[if_neg aq,if_pos bp];refine⟨c8,rfl,by simp[c6],by simp[c6],rR.elim .inr (fun h=>.inl h.2),(fun h=>by cases h),fun lj=>?_⟩;rw[a3,wu lj]at bp;exact absurd bp (show ¬(j7 true:Int)=7 by decide)
 ·unfold wh;rw[if_neg (fun h=>bp (.inl h)),if_neg (fun h=>bp (.inr h))];exact⟨hu,rfl,rfl,rfl,.inl rfl,(fun h=>by cases h),fun lj=>⟨lj,fun _=>rfl⟩⟩
theorem im{g:Gate}(h:dM g=0):dE g.f=0/\1<=g.cF.length/\g.cF.length<=4/\g.did.length=g.cF.length/\g2 g.t=0:=by
 unfold dM at h
 by_cases bA:dE g.f=0
 ·rw[if_pos bA]at h
  by_cases bb:g.cF.length<1\/4<g.cF.length\/g.did.length≠g.cF.length
  ·rw[if_pos bb]at h;cases h
  ·rw[if_neg bb]at h;exact⟨bA,by omega,by omega,by omega,h⟩
 ·rw[if_neg bA]at h;exact absurd h bA
theorem Cm{g:Gate}(I:dE g.f=0)(G:1<=g.cF.length)(ab:g.cF.length<=4)(aV:g.did.length=g.cF.length)(br:g2 g.t=0):dM g=0:=by
 unfold dM;rw[if_pos I,if_neg (by omega),br]
theorem Hr{g x:Gate}(h:dM g=0)(I:dE x.f=0)(G:x.t=g.t)(ab:x.cF.length=g.cF.length)(aV:x.did.length=g.did.length):dM x=0:=by
 obtain⟨_,a,b,c,d⟩:=im h;exact Cm I (by omega) (by omega) (by omega) (by rw[G];exact d)
theorem Cn{g:Gate}{r:List Int}(h:dM g=0):dM (dJ g r).1=0:=by
 obtain⟨ho,iX,iY,n4,_⟩:=qZ (r:=r) (im h).1;exact Hr h ho iX iY n4
theorem tB{α:Type}(l:List α)(i:Nat)(x:α):(setAt l i x).length=l.length:=by simp[setAt]
theorem Pp{g:Gate}{u:Int}(h:dM g=0):dM (o8 g u)=0:=Hr h (im h).1 rfl (tB _ _ _) rfl
theorem Po{g:Gate}{u:Int}(h:dM g=0):dM (ox g u)=0:=Hr h (im h).1 rfl rfl (tB _ _ _)
theorem aax{g:Gate}{m:Message}(h:dM g=0)(aB:1<=m.n):dM (iu g m).1=0 /\
  (bL (iu g m).1.f=bL g.f \/
   (m.kind=3/\m.yes=true/\m.n=(bL g.f).n/\(bL g.f).ended=false/\(bL g.f).dv=false/\(bL g.f).abort=false/\hasB false (setAt g.cF m.unit.toNat true)=false /\
    bL (iu g m).1.f=⟨(bL g.f).n,(bL g.f).version,true,(bL g.f).abort,(bL g.f).ended⟩) \/
   (m.kind=6/\m.n=(bL g.f).n/\((bL g.f).dv=true\/(bL g.f).abort=true)/\bL (iu g m).1.f=⟨(bL g.f).n,(bL g.f).version,(bL g.f).dv,(bL g.f).abort,true⟩)):=by
 unfold iu
 by_cases eo:g.up=true
 case neg=>rw[if_neg eo];exact⟨h,.inl rfl⟩
 rw[if_pos eo];unfold gZ
 by_cases dh:m.kind=3
 ·rw[if_pos dh]
  by_cases c:(bL g.f).n≠m.n\/(bL g.f).ended=true\/(bL g.f).dv=true\/(bL g.f).abort=true\/m.yes=false
  ·rw[if_pos c];exact⟨h,.inl rfl⟩
  ·rw[if_neg c];simp only[not_or,Bool.not_eq_true,ne_eq,Decidable.not_not,Bool.not_eq_false]at c;obtain⟨bA,bb,cr,du,hs⟩:=c;unfold sj;have aQ:=Pp (u:=m.unit) h
   by_cases wg:hasB false (o8 g m.unit).cF=true
   ·rw[if_pos wg];exact⟨aQ,.inl rfl⟩
   ·rw[if_neg wg];obtain⟨_,_,_,_,JM,_⟩:=qZ (r:=[2,(bL g.f).n]) (im aQ).1;refine⟨Cn aQ,JM.elim .inl (fun e=>.inr (.inl ⟨dh,hs,bA.symm,bb,cr,du,Bool.eq_false_iff.2 wg,?_⟩))⟩;rw[e];exact Mw (s:=bL g.f) (by omega) du
 rw[if_neg dh]
 by_cases jr:m.kind=6
 ·rw[if_pos jr]
  by_cases c:(bL g.f).n≠m.n\/(bL g.f).ended=true\/((bL g.f).dv=false/\(bL g.f).abort=false)
  ·rw[if_pos c];exact⟨h,.inl rfl⟩
  ·rw[if_neg c];simp only[not_or,Bool.not_eq_true,ne_eq,Decidable.not_not]at c;obtain⟨bA,bb,cr⟩:=c;have Oc:(bL g.f).dv=true\/(bL g.f).abort=true:=by
    cases rI:(bL g.f).dv<;>cases zB:(bL g.f).abort<;>simp_all
   unfold rv;have aQ:=Po (u:=m.unit) h
   by_cases wg:hasB false (ox g m.unit).did=true
   ·rw[if_pos wg];exact⟨aQ,.inl rfl⟩
   ·rw[if_neg wg];obtain⟨_,_,_,_,JM,_⟩:=qZ (r:=[4,(bL g.f).n]) (im aQ).1;refine⟨Cn aQ,JM.elim .inl (fun e=>.inr (.inr ⟨jr,bA.symm,Oc,?_⟩))⟩;rw[e];exact Mx (s:=bL g.f) (by omega) Oc
 rw[if_neg jr]
 by_cases lv:m.kind=7
 ·rw[if_pos lv];split<;>exact⟨h,.inl rfl⟩
 ·rw[if_neg lv];exact⟨h,.inl rfl⟩
theorem RI(s:h0):iJ (l4 s)=true/\(l4 s).length<=4:=by
 unfold l4;split
 ·exact⟨rfl,by simp⟩
 ·split<;>split<;>split<;>exact⟨by simp[iJ],by simp⟩
theorem rp{ws:List Int}{fu:Int}{up:Bool}{ak:Int}{ah:List Int}{aj ai:Int}{Y aa:List Bool}(h:dM ⟨⟨ws,fu⟩,up,⟨⟨ak,ah,aj⟩,ai⟩,Y,aa⟩=0) :
  len ws*8<=140737488355328/\len ah*8<=140737488355328/\len Y<=1000/\len aa<=1000:=by
 obtain⟨I,_,ab,aV,br⟩:=im h;simp only at I ab aV br;obtain⟨bK,_⟩:=nG I;obtain⟨bA,_⟩:=jh bK;have bV:=q1 bA;have dm:=(qq (zd br).2.2).2.2.2.2.1;simp only[len]at *
 try simp only at bV dm
 omega
theorem YD{g:Gate}(h:dM g=0):len g.f.words*8<=140737488355328/\len g.t.r.keys*8<=140737488355328/\len g.cF<=1000/\len g.did<=1000:=by
 obtain⟨⟨ws,fu⟩,up,⟨⟨ak,ah,aj⟩,ai⟩,Y,aa⟩:=g;exact rp h
theorem QJ{g:Gate}{m:Message}(h:dM g=0):(iu g m).1.cF.length=g.cF.length/\(iu g m).2.length<=1/\mj (iu g m).2=true:=by
 unfold iu
 by_cases eo:g.up=true
 case neg=>rw[if_neg eo];exact⟨rfl,by simp,rfl⟩
 rw[if_pos eo];unfold gZ;have aQ:=Pp (u:=m.unit) h;have bO:=Po (u:=m.unit) h;split
 ·split
  ·exact⟨rfl,by simp,rfl⟩
  ·refine⟨?_,by simp,rfl⟩;simp only[sj];split
   ·exact tB _ _ _
   ·obtain⟨_,_,iY,_⟩:=qZ (r:=[2,(bL g.f).n]) (im aQ).1;exact iY.trans (tB _ _ _)
 ·split
  ·split
   ·exact⟨rfl,by simp,rfl⟩
   ·refine⟨?_,by simp,rfl⟩;simp only[rv];split
    ·rfl
    ·obtain⟨_,_,iY,_⟩:=qZ (r:=[4,(bL g.f).n]) (im bO).1;exact iY
  ·split
   ·split<;>exact⟨rfl,by simp,by simp[mj,qv]⟩
   ·exact⟨rfl,by simp,rfl⟩
theorem vD{g:Gate}(h:hP g=0):dM g=0:=by
 unfold hP at h
 by_cases c:dM g=0
 ·exact c
 ·rw[if_neg c]at h;exact absurd h c
theorem aaq{g:Gate}{m:Message}(h:(hK g m).2=0):dM g=0/\(0<=m.unit/\m.unit<g.cF.length/\1<=m.n/\m.n<=8)/\hK g m=(iu g m,0):=by
 unfold hK at h |-
 by_cases c:rL g m=0
 ·rw[if_pos c];unfold rL at c
  by_cases bA:dM g=0
  ·rw[if_pos bA]at c
   by_cases bb:m.unit<0\/(g.cF.length:Int)<=m.unit\/m.n<1\/8<m.n
   ·rw[if_pos bb]at c;cases c
   ·exact⟨bA,by omega,rfl⟩
  ·rw[if_neg bA]at c;exact absurd c bA
 ·rw[if_neg c]at h;exact absurd h c
theorem QG{g:Gate}{m:Message}(h:dM g=0)(I:0<=m.unit/\m.unit<g.cF.length/\1<=m.n/\m.n<=8):hK g m=(iu g m,0):=by
 unfold hK rL;rw[if_pos (by rw[if_pos h,if_neg (by omega)])]
theorem D2{g:Gate}(h:dM g=0):ks g=(bL g.f,0):=by unfold ks;rw[if_pos h]
theorem ZM{g:Gate}(h:(j1 g).2=0):dM g=0/\(bL g.f).n≠0/\(bL g.f).dv=false/\(bL g.f).abort=false/\j1 g=((dJ g [3,(bL g.f).n]).1,0):=by
 unfold j1 at h |-
 by_cases c:pC g=0
 ·rw[if_pos c];unfold pC hP at c
  by_cases bA:dM g=0
  ·rw[if_pos bA]at c
   by_cases bb:g.up=true
   ·rw[if_pos bb,if_pos rfl]at c
    by_cases cr:(bL g.f).n=0\/(bL g.f).dv=true\/(bL g.f).abort=true
    ·rw[if_pos cr]at c;cases c
    ·simp only[not_or,Bool.not_eq_true]at cr;exact⟨bA,cr.1,cr.2.1,cr.2.2,rfl⟩
   ·rw[if_neg bb,if_neg (by decide)]at c;cases c
  ·rw[if_neg bA,if_neg bA]at c;exact absurd c bA
 ·rw[if_neg c]at h;exact absurd h c
theorem N7{g:Gate}(h:dM g=0):su g=(⟨⟨g.f.words,-1⟩,true,g.t,c6 g.cF.length false,c6 g.did.length false⟩,0):=by unfold su;rw[if_pos h]
theorem YE{f:cm}(h:dE f=0):dE ⟨f.words,-1⟩=0:=by
 obtain⟨bK,bX,dh,eW⟩:=nG h;obtain⟨bA,_,_,du⟩:=jh bK;exact Ht bA (by simp) (by simp) du bX dh eW
end bE
end Go.Proofs.YtlbppjmekiemiaaGreatDoor

/- Plain laws: what is due. No condition. -/
namespace Go.Proofs.YtlbppjmekiemiaaGreatDoor
namespace bE

theorem Y5{g:Gate}{c:hf}{u:Int}(h:(hj g c u).2=0):dM g=0/\(bL g.f).n≠0/\(bL g.f).ended=false/\0<=u/\u<g.cF.length/\c.n=(bL g.f).n/\u<c.cL.length/\u<c.r.targets.length/\hj g c u=sB g (bL g.f) c u:=by
 unfold hj at h |-
 by_cases e:wv g c u=0
 ·rw[if_pos e];unfold wv at e
  by_cases aO:hP g=0
  ·rw[if_pos aO]at e
   by_cases aX:(bL g.f).n=0\/(bL g.f).ended=true
   ·rw[if_pos aX]at e;cases e
   ·rw[if_neg aX]at e
    by_cases cY:u<0\/(g.cF.length:Int)<=u\/c.n≠(bL g.f).n\/(c.cL.length:Int)<=u\/(c.r.targets.length:Int)<=u
    ·rw[if_pos cY]at e;cases e
    ·simp only[not_or,Bool.not_eq_true]at aX;exact⟨vD aO,aX.1,aX.2,by omega,by omega,by omega,by omega,by omega,rfl⟩
  ·rw[if_neg aO]at e;exact absurd e aO
 ·rw[if_neg e]at h;exact absurd h e
end bE
end Go.Proofs.YtlbppjmekiemiaaGreatDoor

/- Plain answers: the document's unit. No condition. -/
namespace Go.Proofs.YtlbppjmekiemiaaGreatDoor
namespace bE

def ic(s:Bool)(e:Int):Bool:=s || !au e 0
def u9(u:cW)(r:List Int):Int:=(fO u.f r (nY (c2 u.f).eV (c2 u.f).slot (c2 u.f).ready)).2
theorem A0(u:cW)(s:Bool)(f:cm)(e:Int):ic s e=(s || !(e2 u f e).2):=by
 unfold ic e2
 by_cases h:e=0
 ·subst h;rfl
 ·rw[if_neg h];have:au e 0=false:=decide_eq_false h;rw[this]
  by_cases dm:e=7
  ·rw[if_pos dm]
  ·rw[if_neg dm]
theorem Mz(u:cW)(s:Bool)(r:List Int):ic s (u9 u r)=(s || !(e9 u r).2):=A0 u s _ _
def ot(s:Bool)(u n k:Int)(y:Bool):List Message:=match s with|true=>[] | false=>[⟨k,u,n,0,0,[],y⟩]
theorem Yt{p q:Bool}{C iO:Prop}(ev:(p=true->q=true)->C)(c8:p=true->q=false->iO):J p (J q C iO) C:=by
 cases p
 ·exact ev (by simp)
 ·cases q
  ·exact c8 rfl rfl
  ·exact ev (by simp)
theorem Yr{v:Bool}{hd B XG B':Prop}(kE:v=true->hd)(bt:v=false->B'):J v (J v hd B) (J v XG B'):=by
 cases v
 ·exact bt rfl
 ·exact kE rfl
theorem P7{u:cW}{s:h2}{m:Message}{K:cW×List Message->Prop}{st:Bool}{c:Prop}(fJ:st=!(jk u s m).2)(az:u.n=m.n->u.eE=m.at_->c)(aB:0<=m.at_/\m.at_<=40/\m.words.length<=8)(D:K (oz u s m,[])) :
  J (au u.n m.n) (J (au u.eE m.at_) (J (dc (W (m.at_+((len m.words:Nat):Int))) 40) (c/\J (!st) (K (⟨(jk u s m).1.f,(jk u s m).1.up,(jk u s m).1.n,W (m.at_+((len m.words:Nat):Int))⟩,[])) (K ((jk u s m).1,[]))) (K (u,[]))) (K (u,[]))) (K (u,[])):=by
 subst fJ;unfold oz at D;rw[cc (by simp only[len];omega) (by simp only[len];omega)];refine cz (fun h=>cz (fun G=>cn (fun ab=>⟨az h G,?_⟩) (fun ab=>?_)) (fun G=>?_)) (fun h=>?_)
 ·rw[fV]at ab;rw[if_neg (by simp only[len]at ab;omega)]at D;refine eF (fun g=>?_) (fun g=>?_)
  ·have Qm:(jk u s m).2=true:=by simpa using g
   rw[if_pos Qm]at D;have:=(zb (u:=u) Qm).2;have e:(jk u s m).1.eE=m.at_:=by
    have aX:jk u s m=_:=this;rw[aX];exact G
   rw[e]at D;exact D
  ·rw[if_neg (by simpa using g)]at D;exact D
 ·rw[eC]at ab;rw[if_pos (by simp only[len]at ab;omega)]at D;exact D
 ·rw[if_pos (.inr (.inl G))]at D;exact D
 ·rw[if_pos (.inl h)]at D;exact D
end bE
end Go.Proofs.YtlbppjmekiemiaaGreatDoor

/- Plain laws: the factory's unit, the document's. No condition. -/
namespace Go.Proofs.YtlbppjmekiemiaaGreatDoor
namespace bE

theorem agD{m:Message}{l:List Message}(h:l=[]\/l=nI m\/∃y,l=lH m y):l.length<=1/\mj l=true:=by
 rcases h with h|h|⟨y,h⟩
 ·subst h;exact⟨by simp,rfl⟩
 ·subst h;exact⟨by simp[nI],agO m⟩
 ·subst h;exact⟨by simp[lH],agP m y⟩
def rf(m:Message)(l:List Message):Prop:=l=[]\/l=nI m\/∃y,l=lH m y
theorem kn{m:Message}{c:Prop}[Decidable c]{x y:cW×List Message}(aG:rf m x.2)(ct:rf m y.2):rf m (if c then x else y).2:=by
 split
 ·exact aG
 ·exact ct
theorem IA{b:List (List UInt8)}{u:cW}{m:Message}:rf m (g3 b u m).2:=by
 have a6:∀x:cW,rf m (x,([]:List Message)).2:=fun _=>.inl rfl
 have I:∀x:cW,rf m (x,nI m).2:=fun _=>.inr (.inl rfl)
 have G:∀(x:cW) (y:Bool),rf m (x,lH m y).2:=fun _ y=>.inr (.inr ⟨y,rfl⟩)
 have bs:∀x:cW,rf m (pE x m).2:=fun x=>kn (I _) (I _)
 have av:∀(x:cW) (s:h2) (w:List Int),rf m (AP x s m w).2:=fun x s w=>kn (kn (G _ _) (a6 _)) (G _ _)
 exact kn (kn (a6 _) (kn (kn (I _) (kn (G _ _) (kn (G _ _) (kn (kn (kn (av _ _ _) (a6 _)) (G _ _)) (G _ _))))) (kn (kn (kn (I _) (kn (kn (I _) (a6 _)) (a6 _))) (kn (a6 _) (kn (kn (bs _) (a6 _)) (bs _)))) (a6 _)))) (a6 _)
theorem aaB{b:List (List UInt8)}{u:cW}{m:Message}:(g3 b u m).2.length<=1/\mj (g3 b u m).2=true:=agD (m:=m) IA
end bE
end Go.Proofs.YtlbppjmekiemiaaGreatDoor

/- Plain laws: the gateway, as the document has it. No condition. -/
namespace Go.Proofs.YtlbppjmekiemiaaGreatDoor
namespace bE

def pT(r:List Int):Prop:=r.getD 0 0=1/\r.length=3/\1<=r.getD 1 0/\r.getD 1 0<=8
theorem Qh:∀l:List (List Int),(∀r∈l,¬pT r)->l.foldl gn l8=l8
 |[],_=>rfl
 |r::l,h=>by
  rw[List.foldl_cons];have:gn l8 r=l8:=(if_neg (h r (by simp))).trans (if_pos (.inr (.inr rfl)));rw[this];exact Qh l fun x aG=>h x (by simp[aG])
theorem aiL(pre post:List (List Int)){b:List Int}(h:pT b):iK (pre++b::post)=post.foldl gn ⟨b.getD 1 0,b.getD 2 0,false,false,false⟩:=by
 unfold iK;rw[List.foldl_append,List.foldl_cons];congr 1;exact if_pos h
theorem aiU{N V:Int}{c a e:Bool}{r:List Int}(G:r.length=2)(I:r.getD 1 0=N)(jF:N≠0):gn ⟨N,V,c,a,e⟩ r =
  if r.getD 0 0=2/\a=false then⟨N,V,true,a,e⟩else if r.getD 0 0=3/\c=false then⟨N,V,c,true,e⟩else if r.getD 0 0=4/\(c=true\/a=true)then⟨N,V,c,a,true⟩else⟨N,V,c,a,e⟩:=by
 unfold gn;rw[if_neg (by omega),if_neg (by simp only;omega)]
theorem W2{N V:Int}{c a e:Bool}{r:List Int}(aA:¬pT r)(h:r.length≠2\/r.getD 1 0≠N):gn ⟨N,V,c,a,e⟩ r=⟨N,V,c,a,e⟩ :=
 (if_neg aA).trans (if_pos (by rcases h with h|h;exact .inl h;exact .inr (.inl h)))
theorem ai3{b:List (List UInt8)}{l:List Signed}{t:iA}{o:jV}{now aL:Int}(h:(g1 b l t o now aL).2=0):g2 (g1 b l t o now aL).1=0:=by
 obtain⟨I,_,_,aV,br,bV⟩:=W9 h;obtain⟨_,_,ey,_⟩:=LK o.roots o.kM _ I aV;obtain⟨gm,_⟩:=Vq br;obtain⟨ix,jb,_⟩:=zc gm;rw[bV];unfold g2;simp only;rw[if_neg (by omega)];exact(zd ey).2.2
theorem Yg{b:List (List UInt8)}{l:List Signed}{g:Gate}{o:jV}{now:Int}:dM (iB b l g o now).1=0\/(iB b l g o now).1=n6:=by
 unfold iB
 by_cases c:qn b l g o now=0
 ·rw[if_pos c];unfold qn at c;obtain⟨hu,c⟩:=jJ.1 c;have bs:=vD hu;have bl:(g1 b l g.t o now g.cF.length).2=0:=by
   by_cases bA:0<(bL g.f).n/\(bL g.f).ended=false
   ·rw[if_pos bA]at c;cases c
   ·rw[if_neg bA]at c
    by_cases bb:(bL g.f).n=8
    ·rw[if_pos bb]at c;cases c
    ·rw[if_neg bb]at c;exact c
  left;simp only;obtain⟨bK,bX,dh,eW,hX⟩:=im bs;unfold ou;split
  ·refine Cm ?_ ?_ ?_ ?_ ?_
   ·exact(qZ (g:=g) (r:=[1,(bL g.f).n+1,o.r.version]) bK).1
   ·simp only[c6,List.length_replicate];omega
   ·simp only[c6,List.length_replicate];omega
   ·simp only[c6,List.length_replicate];omega
   ·exact ai3 bl
  ·exact Cn bs
 ·rw[if_neg c];exact .inr rfl
end bE
end Go.Proofs.YtlbppjmekiemiaaGreatDoor

/- Plain answers: a vehicle. No condition. -/
namespace Go.Proofs.YtlbppjmekiemiaaGreatDoor
namespace bE

def kZ:List (List Int)->Int
 |[]=>0
 |w::l=>if fY w=0 then kZ l else fY w
def nE(c:hf)(n:Int)(aL:Nat):Int :=
 if c.n≠n\/c.cL.length≠aL\/c.r.targets.length≠aL then 4
 else if kZ c.cL=0 then gD c.r.version c.r.ca c.r.targets else kZ c.cL
def ow:List cW->Int
 |[]=>0
 |u::l=>if eZ u=0 then ow l else eZ u
def nF(aL:Nat):Int->List hf->Int
 |_,[]=>0
 |n,c::l=>if nE c n aL=0 then nF aL (n+1) l else nE c n aL
def mU(aL:Nat):List Message->Int
 |[]=>0
 |m::l=>if gd m=0 then(if (aL:Int)<=m.unit then 5 else mU aL l)else gd m
def mV(v:cT):Int :=
 if fH v.b=0 then(if iq v.s=0 then(if dM v.g=0 then
  (if v.aL.length=v.g.cF.length then(if ow v.aL=0 then
   (if 8<v.cp.length\/24<v.U.length then 2 else if nF v.aL.length 1 v.cp=0 then
    (if mU v.aL.length v.U=0 then(if v.now<0\/100000<v.now then 3 else 0)else mU v.aL.length v.U)
   else nF v.aL.length 1 v.cp)else ow v.aL)else 4)else dM v.g)else iq v.s)else fH v.b
def iI:cT:=⟨[],[],n6,[],[],[],0⟩
def hz(U l:List Message):List Message:=U++l.take (24-U.length)
def kO(v:cT)(l:List Message):cT:=⟨v.b,v.s,v.g,v.aL,v.cp,hz v.U l,v.now⟩
def mS(v:cT)(o:jV):Gate×Int×Int:=iB v.b v.s v.g o v.now
def qp(cs:List hf)(n:Int)(o:jV):List hf:=if 0<n then cs.take (n-1).toNat++[⟨n,o.r,o.cL⟩]else cs
def k8(v:cT)(o:jV):cT×Int :=
 if (mS v o).2.2=0 then(⟨v.b,v.s,(mS v o).1,v.aL,qp v.cp (mS v o).2.1 o,v.U,v.now⟩,0)else(v,(mS v o).2.2)
def pz(v:cT)(k:Nat):cT:=⟨v.b,v.s,v.g,v.aL,v.cp,v.U.eraseIdx k,v.now⟩
def l7:Message:=⟨0,0,0,0,0,[],false⟩
def lF(m:Message):Bool:=decide (m.kind=3)||decide (m.kind=6)||decide (m.kind=7)
def BF(v:cT)(m:Message):cT :=
 if (hK v.g m).2=0 then kO ⟨v.b,v.s,(hK v.g m).1.1,v.aL,v.cp,v.U,v.now⟩ (hK v.g m).1.2 else v
def iN(v:cT)(k:Int):cW:=v.aL.getD k.toNat u7
def q4(v:cT)(k:Int)(u:cW):cT:=⟨v.b,v.s,v.g,v.aL.set k.toNat u,v.cp,v.U,v.now⟩
def BG(v:cT)(m:Message):cT :=
 if (hV v.b (iN v m.unit) m).2=0 then kO (q4 v m.unit (hV v.b (iN v m.unit) m).1.1) (hV v.b (iN v m.unit) m).1.2 else v
def ik(v:cT)(k:Nat):cT :=
 if lF (v.U.getD k l7)=true then BF (pz v k) (v.U.getD k l7)else BG (pz v k) (v.U.getD k l7)
def Ih(v:cT)(k:Int):cT:=⟨v.b,v.s,⟨⟨v.g.f.words,k⟩,v.g.up,v.g.t,v.g.cF,v.g.did⟩,v.aL,v.cp,v.U,v.now⟩
def zv(u:cW)(k:Int):cW:=⟨⟨u.f.words,k⟩,u.up,u.n,u.eE⟩
def v8(v:cT):cT:=⟨v.b,v.s,(su v.g).1,v.aL,v.cp,v.U,v.now⟩
def jN(v:cT)(kind unit k:Int):cT×Int :=
 if unit < -1\/(v.aL.length:Int)<=unit then(v,5)else if kind=6/\(k<0\/100000<k)then(v,3)
 else if kind=6 then(if unit<0 then(Ih v k,0)else(q4 v unit (zv (iN v unit) k),0))
 else if unit<0 then(v8 v,0)else(q4 v unit (qo (iN v unit)).1,0)
def Fh(k n:Int):List Message:=[⟨7,k,n,0,0,[],false⟩]
def jz(v:cT)(k:Int):cT×Int :=
 if (iN v k).up=true then(if (mc (iN v k)).1.ready<1\/8<(mc (iN v k)).1.ready then(v,12)else(kO v (Fh k (mc (iN v k)).1.ready),0))else(v,7)
def pX:hf:=⟨0,⟨0,0,[]⟩,[]⟩
def iR(v:cT):hf:=if 0<(ks v.g).1.n then v.cp.getD ((ks v.g).1.n-1).toNat pX else pX
def k7(v:cT)(k:Int):cT×Int :=
 if (v.cp.length:Int)<(ks v.g).1.n then(v,5)
 else if (hj v.g (iR v) k).2=0 then(kO v (hj v.g (iR v) k).1,0)else(v,(hj v.g (iR v) k).2)
def jK(v:cT)(kind k:Int):cT×Int :=
 if k<0\/(v.U.length:Int)<=k then(v,5)
 else if kind=3 then(ik v k.toNat,0)else if kind=4 then(pz v k.toNat,0)
 else if kind=5 then(if v.U.length=24 then(v,8)else(kO v [v.U.getD k.toNat l7],0))else(v,0)
def qE(v:cT):cT×Int:=if (j1 v.g).2=0 then(⟨v.b,v.s,(j1 v.g).1,v.aL,v.cp,v.U,v.now⟩,0)else(v,(j1 v.g).2)
def tG(v:cT):cT×Int:=if v.now=100000 then(v,8)else(⟨v.b,v.s,v.g,v.aL,v.cp,v.U,v.now+1⟩,0)
def fh(v:cT)(x:mQ):cT×Int :=
 if x.kind=1 then k8 v x.o
 else if x.kind=3\/x.kind=4\/x.kind=5 then jK v x.kind x.k
 else if x.kind=6\/x.kind=7 then jN v x.kind x.unit x.k
 else if x.kind=8 then qE v
 else if x.kind=2\/x.kind=9 then(if x.unit<0\/(v.aL.length:Int)<=x.unit then(v,5)else if x.kind=2 then k7 v x.unit else jz v x.unit)
 else if x.kind=10 then tG v else(v,4)
def kN:cT->List mQ->cT×List Int
 |v,[]=>(v,[])
 |v,x::l=>((kN (if (fh v x).2=0 then(fh v x).1 else v) l).1,(fh v x).2::(kN (if (fh v x).2=0 then(fh v x).1 else v) l).2)
def p7(v:cT)(l:List mQ):cT×List Int×Int :=
 if mV v=0 then(if 160<l.length then(iI,[],2)else((kN v l).1,(kN v l).2,0))else(iI,[],mV v)
def l5(b:List (List UInt8)):List (List Int)->List cW×Int
 |[]=>([],0)
 |w::l =>
  if (hk b w).2=0 then(if (hk b w).1=0 then([],5)
   else if (qY w (hk b w).1).2=0 then(if (l5 b l).2=0 then((qY w (hk b w).1).1::(l5 b l).1,0)else([],(l5 b l).2))else([],(qY w (hk b w).1).2))
  else([],(hk b w).2)
def u6(b:List (List UInt8))(s:List Signed)(r:kV)(cL:List (List Int)):cT×Int :=
 if fH b=0 then(if iq s=0 then(if (oW r cL.length).2=0 then
  (if (l5 b cL).2=0 then(⟨b,s,(oW r cL.length).1,(l5 b cL).1,[],[],0⟩,0)else(iI,(l5 b cL).2))
  else(iI,(oW r cL.length).2))else(iI,iq s))else(iI,fH b)
def vr(l:List (List Int)):Bool:=l.all fun w=>decide (w.length<=1000)
def mM(l:List Message):Bool:=l.all fun m=>decide (m.words.length<=1000)
end bE
end Go.Proofs.YtlbppjmekiemiaaGreatDoor

/- Plain laws: a vehicle that is one. No condition. -/
namespace Go.Proofs.YtlbppjmekiemiaaGreatDoor
namespace bE

theorem Ed{α:Type}{l:List α}{k:Nat}(h:k<l.length)(d:α):setAt l k (nth l k d)=l:=by
 unfold setAt nth;rw[List.getD_eq_getElem?_getD,List.getElem?_eq_getElem h];exact List.set_getElem_self h
theorem h9{α:Type}{l:List α}{k:Nat}(h:k<l.length)(d:α):nth l k d∈l:=by
 have:nth l k d=l[k]:=by simp[nth,List.getD_eq_getElem?_getD,h]
 rw[this];exact List.getElem_mem h
theorem Pt:∀{l:List cW},ow l=0->∀u∈l,eZ u=0
 |[],_,u,hu=>by cases hu
 |x::l,h,u,hu=>by
  obtain⟨I,G⟩:=jJ.1 h;rcases List.mem_cons.1 hu with rfl|hu
  ·exact I
  ·exact Pt G u hu
theorem Pq:∀{l:List (List Int)},kZ l=0->∀w∈l,fY w=0
 |[],_,u,hu=>by cases hu
 |x::l,h,u,hu=>by
  obtain⟨I,G⟩:=jJ.1 h;rcases List.mem_cons.1 hu with rfl|hu
  ·exact I
  ·exact Pq G u hu
theorem Pr{n:Nat}:∀{l:List Message},mU n l=0->∀m∈l,gd m=0/\m.unit<n
 |[],_,u,hu=>by cases hu
 |x::l,h,u,hu=>by
  obtain⟨I,G⟩:=jJ.1 h
  by_cases c:(n:Int)<=x.unit
  ·rw[if_pos c]at G;cases G
  ·rw[if_neg c]at G;rcases List.mem_cons.1 hu with rfl|hu
   ·exact⟨I,by omega⟩
   ·exact Pr G u hu
theorem YB{c:hf}{n:Int}{k:Nat}(h:nE c n k=0):c.n=n/\c.cL.length=k/\c.r.targets.length=k/\(∀w∈c.cL,fY w=0)/\gD c.r.version c.r.ca c.r.targets=0:=by
 unfold nE at h
 by_cases a:c.n≠n\/c.cL.length≠k\/c.r.targets.length≠k
 ·rw[if_pos a]at h;cases h
 ·rw[if_neg a]at h;obtain⟨I,G⟩:=jJ.1 h;simp only[not_or,Decidable.not_not,ne_eq]at a;exact⟨a.1,a.2.1,a.2.2,Pq I,G⟩
theorem Pm{k:Nat}:∀{l:List hf} {n:Int},nF k n l=0->∀i,i<l.length->∀d,nE (nth l i d) (n+i) k=0
 |[],_,_,i,hi,_=>by simp at hi
 |x::l,n,h,i,hi,d=>by
  obtain⟨I,G⟩:=jJ.1 h;cases i with
  |zero=>simp only[nth,List.getD_cons_zero];rw[show n+((0:Nat):Int)=n by omega];exact I
  |succ i =>
   have:=Pm G i (by simpa using hi) d;rw[show n+1+(i:Int)=n+((i+1:Nat):Int)by omega]at this;simpa[nth]using this
structure vY(v:cT):Prop where
 b:fH v.b=0
 s:iq v.s=0
 g:dM v.g=0
 n:v.aL.length=v.g.cF.length
 u:∀u∈v.aL,eZ u=0
 mu:v.cp.length<=8
 k6:v.U.length<=24
 c:nF v.aL.length 1 v.cp=0
 m:∀m∈v.U,gd m=0/\m.unit<v.aL.length
 t0:0<=v.now
 t1:v.now<=100000
theorem Cp{v:cT}(h:mV v=0):vY v:=by
 unfold mV at h;obtain⟨I,h⟩:=jJ.1 h;obtain⟨G,h⟩:=jJ.1 h;obtain⟨ab,h⟩:=jJ.1 h
 by_cases bA:v.aL.length=v.g.cF.length
 ·rw[if_pos bA]at h;obtain⟨aV,h⟩:=jJ.1 h
  by_cases bb:8<v.cp.length\/24<v.U.length
  ·rw[if_pos bb]at h;cases h
  ·rw[if_neg bb]at h;obtain⟨br,h⟩:=jJ.1 h;obtain⟨bV,h⟩:=jJ.1 h
   by_cases cr:v.now<0\/100000<v.now
   ·rw[if_pos cr]at h;cases h
   ·exact⟨I,G,ab,bA,Pt aV,by omega,by omega,br,Pr bV,by omega,by omega⟩
 ·rw[if_neg bA]at h;cases h
theorem vY.od{v:cT}(h:vY v):1<=v.aL.length/\v.aL.length<=4:=by
 obtain⟨_,a,b,_⟩:=im h.g;rw[h.n];exact⟨a,b⟩
theorem V7{l:List (List Int)}(h:∀w∈l,fY w=0):vr l=true:=List.all_eq_true.2 fun w cb=>by
 have:=(wi (h w cb)).2.1;exact decide_eq_true (by omega)
theorem V4{l:List Message}(h:∀m∈l,m.words.length<=8):mM l=true:=List.all_eq_true.2 fun m aB=>by
 have:=h m aB;exact decide_eq_true (by omega)
theorem VX(U:List Message):hz U []=U:=by simp[hz]
theorem VW(U:List Message)(m:Message)(l:List Message):hz U (m::l)=if U.length<24 then hz (U++[m]) l else hz U l:=by
 unfold hz
 by_cases c:U.length<24
 ·rw[if_pos c,show 24-U.length=(24-(U++[m]).length)+1 by simp;omega,List.take_succ_cons];simp
 ·rw[if_neg c,show 24-U.length=0 by omega];simp
end bE
end Go.Proofs.YtlbppjmekiemiaaGreatDoor

/- Plain laws: what begins a campaign; what a vehicle's steps keep. No condition. -/
namespace Go.Proofs.YtlbppjmekiemiaaGreatDoor
namespace bE

theorem Tt{b:List (List UInt8)}:∀{ts:List Target} {ws:List (List Int)},nm b ts ws=true->ts.length=ws.length->∀w∈ws,fY w=0
 |[],[],_,_,w,cb=>by cases cb
 |[],_::_,_,h,_,_=>by simp at h
 |_::_,[],_,h,_,_=>by simp at h
 |t::ts,x::ws,h,ax,w,cb=>by
  simp only[nm,List.headD_cons,List.tail_cons,Bool.and_eq_true]at h;rcases List.mem_cons.1 cb with rfl|cb
  ·have:=h.1;simp only[nl,Bool.and_eq_true,decide_eq_true_eq]at this;have G:=this.1.1;unfold hk at G
   by_cases c:fY w=0
   ·exact c
   ·rw[if_neg c]at G;exact absurd G c
  ·exact Tt h.2 (by simpa using ax) w cb
theorem Fo{b:List (List UInt8)}{l:List Signed}{g:Gate}{o:jV}{now:Int}(h:(iB b l g o now).2.2=0) :
  dM g=0/\g.up=true/\¬(0<(bL g.f).n/\(bL g.f).ended=false)/\(bL g.f).n≠8/\(g1 b l g.t o now g.cF.length).2=0 /\
  iB b l g o now=((ou g (bL g.f) (g1 b l g.t o now g.cF.length).1 o.r.version).1,(ou g (bL g.f) (g1 b l g.t o now g.cF.length).1 o.r.version).2,0):=by
 unfold iB at h |-
 by_cases c:qn b l g o now=0
 ·rw[if_pos c];unfold qn at c;obtain⟨hu,c⟩:=jJ.1 c;have s6:g.up=true:=by
   unfold hP at hu;rw[if_pos (vD hu)]at hu
   by_cases d:g.up=true
   ·exact d
   ·rw[if_neg d]at hu;cases hu
  by_cases bA:0<(bL g.f).n/\(bL g.f).ended=false
  ·rw[if_pos bA]at c;cases c
  ·rw[if_neg bA]at c
   by_cases bb:(bL g.f).n=8
   ·rw[if_pos bb]at c;cases c
   ·rw[if_neg bb]at c;exact⟨vD hu,s6,bA,bb,c,rfl⟩
 ·rw[if_neg c]at h;exact absurd h c
theorem Yh{g:Gate}{s:h0}{t:iA}{v:Int}:(ou g s t v).2=0\/((ou g s t v).2=s.n+1/\(dJ g [1,s.n+1,v]).2=true):=by
 unfold ou;split
 ·rename_i h;exact .inr ⟨rfl,h⟩
 ·exact .inl rfl
theorem W8{b:List (List UInt8)}{l:List Signed}{t:iA}{o:jV}{now aL:Int}(h:(g1 b l t o now aL).2=0) :
  gD o.r.version o.r.ca o.r.targets=0/\(o.r.targets.length:Int)=aL/\(o.cL.length:Int)=aL/\(∀w∈o.cL,fY w=0)/\now<=o.r.ca/\(g1 b l t o now aL).1.version=o.r.version/\t.version<o.r.version:=by
 obtain⟨I,_,_,aV,br,bV⟩:=W9 h;obtain⟨cJ,_,_,_⟩:=LK o.roots o.kM _ I aV;obtain⟨gm,_,_,p6,DZ,Vk,Vl,afO⟩:=Vq br;exact⟨gm,Vk,Vl,Tt afO (by omega),DZ,by rw[bV],by omega⟩
theorem ai4{α:Type}(l:List α)(k:Nat):l.take (min k l.length)=l.take k:=by
 by_cases h:k<=l.length
 ·rw[Nat.min_eq_left h]
 ·rw[Nat.min_eq_right (by omega),List.take_length,List.take_of_length_le (by omega)]
theorem Fp{v:cT}{o:jV}(h:(mS v o).2.2=0):(mS v o).2.1=0\/((mS v o).2.1=(bL v.g.f).n+1/\1<=(mS v o).2.1/\(mS v o).2.1<=8):=by
 unfold mS at h |-;obtain⟨_,_,_,aV,_,bV⟩:=Fo h;rw[bV];obtain⟨a,b,_⟩:=q0 v.g.f;rcases Yh (g:=v.g) (s:=bL v.g.f) (t:=(g1 v.b v.s v.g.t o v.now v.g.cF.length).1) (v:=o.r.version)with h|⟨h,_⟩
 ·exact .inl h
 ·exact .inr ⟨h,by simp only;omega,by simp only;omega⟩
theorem QH(g:Gate)(m:Message):(hK g m).1.2=[]\/∃k,(hK g m).1.2=[⟨k,m.unit,m.n,0,0,[],false⟩]:=by
 unfold hK
 by_cases c:rL g m=0
 ·rw[if_pos c];unfold iu;split
  ·unfold gZ;split
   ·split
    ·exact .inl rfl
    ·exact .inl rfl
   ·split
    ·split
     ·exact .inl rfl
     ·exact .inl rfl
    ·split
     ·split
      ·exact .inr ⟨_,rfl⟩
      ·exact .inl rfl
     ·exact .inl rfl
  ·exact .inl rfl
 ·rw[if_neg c];exact .inl rfl
theorem QI(b:List (List UInt8))(u:cW)(m:Message):(hV b u m).1.2=[]\/∃k y,(hV b u m).1.2=[⟨k,m.unit,m.n,0,0,[],y⟩]:=by
 unfold hV
 by_cases c:rK b u m=0
 ·rw[if_pos c];rcases IA (b:=b) (u:=u) (m:=m)with h|h|⟨y,h⟩
  ·exact .inl h
  ·exact .inr ⟨_,_,h⟩
  ·exact .inr ⟨_,_,h⟩
 ·rw[if_neg c];exact .inl rfl
theorem Eg{l:List Message}{k u n:Int}{y:Bool}(h:l=[]\/l=[⟨k,u,n,0,0,[],y⟩]):l.length<=1000/\mM l=true:=by
 rcases h with h|h
 ·subst h;exact⟨by simp,rfl⟩
 ·subst h;exact⟨by simp,by simp[mM]⟩
theorem aar(g:Gate)(m:Message):(hK g m).1.2.length<=1000/\mM (hK g m).1.2=true:=by
 rcases QH g m with h|⟨k,h⟩
 ·exact Eg (k:=0) (u:=0) (n:=0) (y:=false) (.inl h)
 ·exact Eg (.inr h)
theorem aav(b:List (List UInt8))(u:cW)(m:Message):(hV b u m).1.2.length<=1000/\mM (hV b u m).1.2=true:=by
 rcases QI b u m with h|⟨k,y,h⟩
 ·exact Eg (k:=0) (u:=0) (n:=0) (y:=false) (.inl h)
 ·exact Eg (.inr h)
theorem TI(u n:Int)(w:List Int):∀(d k:Nat),(iZ u n w d k).length<=d/\∀m∈iZ u n w d k,m.words.length<=8
 |0,_=>⟨by simp[iZ],fun m aB=>by simp[iZ]at aB⟩
 |d+1,k=>by
  unfold iZ;obtain⟨I,G⟩:=TI u n w d (k+8);split
  ·refine⟨by simp only[List.length_cons];omega,fun m aB=>?_⟩;rcases List.mem_cons.1 aB with rfl|aB
   ·simp only[tr,a2,List.length_drop,List.length_take];omega
   ·exact G m aB
  ·exact⟨by simp,fun m aB=>by simp at aB⟩
theorem HK(g:Gate)(c:hf)(u:Int):(hj g c u).1.length<=1000/\mM (hj g c u).1=true:=by
 have none:([]:List Message).length<=1000/\mM []=true:=⟨by simp,rfl⟩
 unfold hj;split
 ·unfold sB;split
  ·split
   ·exact none
   ·exact⟨by simp,rfl⟩
  ·split
   ·exact none
   ·unfold wS;split
    ·exact none
    ·obtain⟨I,G⟩:=TI u (bL g.f).n (nth c.cL u.toNat []) 6 0;refine⟨by simp only[List.length_append,List.length_cons,List.length_nil];omega,V4 fun m aB=>?_⟩;rcases List.mem_append.1 aB with aB|aB
     ·exact G m aB
     ·simp only[List.mem_singleton]at aB;subst aB;simp
 ·exact none
theorem afP(g:Gate):0<=(ks g).1.n/\(ks g).1.n<=8:=by
 unfold ks;split
 ·exact⟨(q0 g.f).mD,(q0 g.f).n2⟩
 ·simp[l8]
end bE
end Go.Proofs.YtlbppjmekiemiaaGreatDoor

/- Plain answers: vehicles compared; the rest of the vehicle's laws. No condition. -/
namespace Go.Proofs.YtlbppjmekiemiaaGreatDoor
namespace bE

def fr{α:Type}(f:α->α->Bool):List α->List α->Bool
 |[],[]=>true
 |a::as,b::ar=>f a b&&fr f as ar
 |_,_=>false
theorem wy{α:Type}(f:α->α->Bool):∀(a b:List α),a.length≠b.length->fr f a b=false
 |[],[],h=>absurd rfl h
 |[],_::_,_=>rfl
 |_::_,[],_=>rfl
 |x::a,y::b,h=>by
  simp only[fr,wy f a b (by simpa using h),Bool.and_false]
theorem wz{α:Type}{f:α->α->Bool}(h:∀x,f x x=true):∀l:List α,fr f l l=true
 |[]=>rfl
 |x::l=>by simp only[fr,h x,wz h l,Bool.and_true]
def nK(a b:Signed):Bool:=au a.key b.key&&au a.name b.name
def mz(a b:bE.Target):Bool:=au a.unit b.unit&&(au a.image b.image&&au a.dp b.dp)
def mJ(a b:hf):Bool:=au a.n b.n&&(au a.r.version b.r.version&&(au a.r.ca b.r.ca&&(fr mz a.r.targets b.r.targets&&oa a.cL b.cL)))
def Eb(a b:Gate):Bool:=n9 a.f b.f&&(jC a.up b.up&&(au a.t.version b.t.version&&(au a.t.r.version b.t.r.version&&(au a.t.r.ej b.t.r.ej&&(gj a.t.r.keys b.t.r.keys&&(mY a.cF b.cF&&mY a.did b.did))))))
def sd(a b:cT):Bool:=Eb a.g b.g&&(fr eqs a.b b.b&&(fr nK a.s b.s&&(fr mL a.aL b.aL&&(au a.now b.now&&(fr mJ a.cp b.cp&&mK a.U b.U)))))
def tC(l:List cW):Bool:=l.all fun u=>decide (u.f.words.length<=140737488355328)
def MB(c:hf):Bool:=decide (c.r.targets.length<=140737488355328)&&(decide (c.cL.length<=140737488355328)&&iJ c.cL)
def vx(l:List hf):Bool:=l.all MB
theorem V5{l:List cW}(h:tC l=true){u:cW}(hu:u∈l):u.f.words.length<=140737488355328:=by simpa using List.all_eq_true.1 h _ hu
theorem aiX{l:List hf}(h:vx l=true){c:hf}(az:c∈l):c.r.targets.length<=140737488355328/\c.cL.length<=140737488355328/\iJ c.cL=true:=by simpa[MB]using List.all_eq_true.1 h _ az
structure XS(v:cT):Prop where
 ws:eQ v.g.f.words
 aF:eQ v.g.t.r.keys
 Y:v.g.cF.length<=140737488355328
 aa:v.g.did.length<=140737488355328
 b:v.b.length<=140737488355328
 s:v.s.length<=140737488355328
 us:v.aL.length<=140737488355328
 u:tC v.aL=true
 cs:v.cp.length<=140737488355328
 c:vx v.cp=true
 ns:v.U.length<=140737488355328
 m:mj v.U=true
def qa(v:cT):Bool:=decide (v.g.f.words.length<=140737488355328)&&(decide (v.g.t.r.keys.length<=140737488355328)&&(decide (v.g.cF.length<=140737488355328)&&(decide (v.g.did.length<=140737488355328)&&(decide (v.b.length<=140737488355328)&&(decide (v.s.length<=140737488355328)&&(decide (v.aL.length<=140737488355328)&&(tC v.aL&&(decide (v.cp.length<=140737488355328)&&(vx v.cp&&(decide (v.U.length<=140737488355328)&&mj v.U))))))))))
theorem MC{v:cT}:qa v=true↔XS v:=by
 simp only[qa,Bool.and_eq_true,decide_eq_true_eq];exact⟨fun⟨a,b,c,d,e,f,g,h,i,j,k,l⟩=>⟨a,b,c,d,e,f,g,h,i,j,k,l⟩,fun⟨a,b,c,d,e,f,g,h,i,j,k,l⟩=>⟨a,b,c,d,e,f,g,h,i,j,k,l⟩⟩
theorem VL(v:cT):sd v v=true:=by
 have I:fr eqs v.b v.b=true:=wz (fun x=>by simp[eqs]) _;have G:fr nK v.s v.s=true:=wz (fun x=>by simp[nK,au]) _;have ab:fr mL v.aL v.aL=true:=wz (fun x=>by simp[mL,n9,au,jC,gj]) _;have aV:∀l,fr mz l l=true:=wz (fun x=>by simp[mz,au]);have br:fr mJ v.cp v.cp=true:=wz (fun x=>by simp[mJ,aV,au,oa]) _;have bV:Eb v.g v.g=true:=by simp[Eb,n9,au,jC,gj,mY]
 simp[sd,I,G,ab,br,bV,VK,au]
theorem acS{r:kV}{n:Int}(h:(oW r n).2=0):1<=n/\n<=4:=by
 unfold oW at h;split at h
 ·cases h
 ·omega
def n3(b:List (List UInt8))(s:List UInt8):List (List UInt8)×Int:=if 0<=fk s b then(b,fk s b+1)else(b++[s],(b.length:Int)+1)
def l3(v k:Int):List Int:=c6 (3+9*k+v).toNat (100*v+k)
structure om where
 b:List (List UInt8)
 first:List (List Int)
 ts:List bE.Target
 uS:List (List Int)
def kB(v k:Int)(f:om):om :=
 ⟨(n3 f.b (kJ (l3 v k)).1).1,if v=0 then f.first++[l3 v k]else f.first,f.ts++[⟨k,(n3 f.b (kJ (l3 v k)).1).2,((l3 v k).length:Int)⟩],f.uS++[l3 v k]⟩
def m1(v:Int):Nat->Int->om->om
 |0,_,f=>f
 |n+1,k,f=>m1 v n (k+1) (kB v k f)
structure kU where
 b:List (List UInt8)
 l:List Signed
 first:List (List Int)
 offers:List jV
def afT(v ca:Int)(f:om):Bx:=⟨max v 1,ca,f.ts⟩
def Er(v ca:Int)(f:om):List UInt8:=(mI (max v 1) ca f.ts).1
def ry(ca v:Int)(a:kU)(f:om):kU :=
 if v=0 then⟨f.b,a.l,f.first,a.offers⟩
 else⟨(n3 f.b (Er v ca f)).1,(if v=3 then a.l else a.l++[⟨3,(n3 f.b (Er v ca f)).2⟩])++[⟨5,(n3 f.b (Er v ca f)).2⟩],f.first,a.offers++[⟨[],[],afT v ca f,[3,5],f.uS⟩]⟩
def pA(a:kU):om:=⟨a.b,a.first,[],[]⟩
def k2(aL:Nat)(ca v:Int)(a:kU):kU:=ry ca v a (m1 v aL 0 (pA a))
theorem JN(b:List (List UInt8))(s:List UInt8):(n3 b s).1.length<=b.length+1:=by
 unfold n3;split
 ·exact Nat.le_succ _
 ·simp
def Ry(aL:Nat):Bool:=(List.range 4).all fun v=>(List.range aL).all fun k=>au (kJ (l3 v k)).2 0
def CE(aL:Nat)(ca v:Int)(a:kU):Bool:=au (mI (max v 1) ca (m1 v aL 0 (pA a)).ts).2 0
def zn(aL:Nat)(ca:Int):kU:=k2 aL ca 0 ⟨[],[],[],[]⟩
def zo(aL:Nat)(ca:Int):kU:=k2 aL ca 1 (zn aL ca)
def zp(aL:Nat)(ca:Int):kU:=k2 aL ca 2 (zo aL ca)
def nL(aL:Nat)(ca:Int):kU:=k2 aL ca 3 (zp aL ca)
def HW(aL:Nat)(ca:Int):List jV:=(nL aL ca).offers
def P1:kV:=⟨1,[3,4,5],2⟩
def qx(aL:Nat)(ca:Int):cT×Int:=u6 (nL aL ca).b (nL aL ca).l P1 (nL aL ca).first
def HX(aL:Nat)(ca:Int):Bool:=Ry aL&&(CE aL ca 1 (zn aL ca)&&(CE aL ca 2 (zo aL ca)&&(CE aL ca 3 (zp aL ca)&&(au (qx aL ca).2 0&&au ((qx aL ca).1.aL.length:Int) aL))))
end bE
end Go.Proofs.YtlbppjmekiemiaaGreatDoor

/- Plain laws: the vehicle's net. No condition. -/
namespace Go.Proofs.YtlbppjmekiemiaaGreatDoor
namespace bE

theorem acM{α:Type}{l:List α}{x:α}(h:x∈l)(d:α):∃i,i<l.length/\nth l i d=x:=by
 obtain⟨i,hi,e⟩:=List.getElem_of_mem h;exact⟨i,hi,by simp[nth,List.getD_eq_getElem?_getD,hi,e]⟩
theorem vY.uh{v:cT}(aP:vY v):∀c∈v.cp,c.cL.length=v.aL.length/\c.r.targets.length=v.aL.length/\(∀w∈c.cL,fY w=0)/\gD c.r.version c.r.ca c.r.targets=0:=fun c az=>by
 obtain⟨i,hi,e⟩:=acM az pX;have:=YB (Pm aP.c i hi pX);rw[e]at this;exact this.2
end bE
end Go.Proofs.YtlbppjmekiemiaaGreatDoor

/- Plain answers: offers in a script; the tour. No condition. -/
namespace Go.Proofs.YtlbppjmekiemiaaGreatDoor
namespace bE

theorem VY(v:cT)(k:Int)(u:cW):(q4 v k u).aL.length=v.aL.length:=List.length_set
end bE
end Go.Proofs.YtlbppjmekiemiaaGreatDoor

/- Plain laws: what each step of a vehicle keeps. No condition. -/
namespace Go.Proofs.YtlbppjmekiemiaaGreatDoor
namespace bE

def nH(m:Message):Message:=⟨m.kind,m.unit,m.n,m.at_,0,m.words,m.yes⟩
def oU(n:Nat)(m:Message):Bool:=decide (gd (nH m)=0)&&decide (m.unit<(n:Int))
def ui(n:Nat)(c:hf):Bool:=decide (c.cL.length=n)&&(decide (c.r.targets.length=n)&&((c.cL.all fun w=>decide (fY w=0))&&decide (gD c.r.version c.r.ca c.r.targets=0)))
structure fA(v:cT):Prop where
 b:fH v.b=0
 s:iq v.s=0
 g:dM v.g=0
 n:v.aL.length=v.g.cF.length
 u:∀u∈v.aL,eZ u=0
 mu:v.cp.length<=8
 k6:v.U.length<=24
 c:v.cp.all (ui v.aL.length)=true
 m:v.U.all (oU v.aL.length)=true
 t0:0<=v.now
 t1:v.now<=100000
def okW(v:cT):Bool:=decide (fH v.b=0)&&(decide (iq v.s=0)&&(decide (dM v.g=0)&&(decide (v.aL.length=v.g.cF.length)&&((v.aL.all fun u=>decide (eZ u=0))&&(decide (v.cp.length<=8)&&(decide (v.U.length<=24)&&(v.cp.all (ui v.aL.length)&&(v.U.all (oU v.aL.length)&&(decide (0<=v.now)&&decide (v.now<=100000))))))))))
theorem p0{v:cT}:okW v=true↔fA v:=by
 simp only[okW,Bool.and_eq_true,decide_eq_true_eq,List.all_eq_true (p:=fun u=>decide (eZ u=0))];exact⟨fun⟨a,b,c,d,e,f,g,h,i,j,k⟩=>⟨a,b,c,d,e,f,g,h,i,j,k⟩,fun⟨a,b,c,d,e,f,g,h,i,j,k⟩=>⟨a,b,c,d,e,f,g,h,i,j,k⟩⟩
theorem fA.uh{v:cT}(aP:fA v):∀c∈v.cp,c.cL.length=v.aL.length/\c.r.targets.length=v.aL.length/\(∀w∈c.cL,fY w=0)/\gD c.r.version c.r.ca c.r.targets=0:=fun c az=>by
 have:=List.all_eq_true.1 aP.c c az;simpa only[ui,Bool.and_eq_true,decide_eq_true_eq,List.all_eq_true]using this
theorem fA.msg{v:cT}(aP:fA v):∀m∈v.U,gd (nH m)=0/\m.unit<(v.aL.length:Int):=fun m aB=>by
 have:=List.all_eq_true.1 aP.m m aB;simpa only[oU,Bool.and_eq_true,decide_eq_true_eq]using this
theorem YG{m:Message}(h:gd m=0):gd (nH m)=0:=by
 obtain⟨I,G,ab,aV,br,bV,dm,dZ,iE,pF,m2,oJ⟩:=ov h;unfold gd nH;simp only;rw[if_neg (by omega),if_pos oJ]
theorem JV{v:cT}(aP:vY v):fA v :=
 ⟨aP.b,aP.s,aP.g,aP.n,aP.u,aP.mu,aP.k6,List.all_eq_true.2 fun c az=>by
  obtain⟨ei,eU,a3,a4⟩:=aP.uh c az;simp only[ui,Bool.and_eq_true,decide_eq_true_eq];exact⟨ei,eU,List.all_eq_true.2 fun w cb=>decide_eq_true (a3 w cb),a4⟩,List.all_eq_true.2 fun m aB=>by
  obtain⟨ei,eU⟩:=aP.m m aB;simp only[oU,Bool.and_eq_true,decide_eq_true_eq];exact⟨YG ei,eU⟩,aP.t0,aP.t1⟩
theorem fA.od{v:cT}(h:fA v):1<=v.aL.length/\v.aL.length<=4:=by
 obtain⟨_,a,b,_⟩:=im h.g;rw[h.n];exact⟨a,b⟩
theorem fA.gate{v:cT}(aP:fA v){g:Gate}(I:dM g=0)(G:g.cF.length=v.g.cF.length):fA ⟨v.b,v.s,g,v.aL,v.cp,v.U,v.now⟩ :=
 ⟨aP.b,aP.s,I,aP.n.trans G.symm,aP.u,aP.mu,aP.k6,aP.c,aP.m,aP.t0,aP.t1⟩
theorem fA.unit{v:cT}(aP:fA v){u:cW}{k:Int}(I:eZ u=0):fA (q4 v k u):=by
 have e:=VY v k u;refine⟨aP.b,aP.s,aP.g,e.trans aP.n,fun x aG=>?_,aP.mu,aP.k6,by rw[e];exact aP.c,by rw[e];exact aP.m,aP.t0,aP.t1⟩;rcases List.mem_or_eq_of_mem_set aG with q|q
 ·exact aP.u x q
 ·rw[q];exact I
theorem fA.send{v:cT}(aP:fA v){l:List Message}(h:∀m∈l,oU v.aL.length m=true):fA (kO v l):=by
 have k6:=aP.k6;refine⟨aP.b,aP.s,aP.g,aP.n,aP.u,aP.mu,?_,aP.c,List.all_eq_true.2 fun m aB=>?_,aP.t0,aP.t1⟩
 ·show(v.U++l.take (24-v.U.length)).length<=24;simp;omega
 ·rcases List.mem_append.1 (show m∈v.U++l.take (24-v.U.length)from aB)with q|q
  ·exact List.all_eq_true.1 aP.m m q
  ·exact h m (List.mem_of_mem_take q)
theorem fA.drop{v:cT}(aP:fA v)(k:Nat):fA (pz v k):=by
 have k6:=aP.k6;refine⟨aP.b,aP.s,aP.g,aP.n,aP.u,aP.mu,?_,aP.c,List.all_eq_true.2 fun m aB=>?_,aP.t0,aP.t1⟩
 ·exact Nat.le_trans (List.length_eraseIdx_le v.U k) k6
 ·exact List.all_eq_true.1 aP.m m (List.mem_of_mem_eraseIdx aB)
theorem Ak{n:Nat}{k u q:Int}{y:Bool}(I:1<=k/\k<=7)(G:0<=u/\u<(n:Int))(ab:n<=4)(aV:1<=q/\q<=8):oU n ⟨k,u,q,0,0,[],y⟩=true:=by
 have:gd (nH ⟨k,u,q,0,0,[],y⟩)=0:=by
  unfold gd nH;simp only[List.length_nil];rw[if_neg (by omega)];rfl
 simp only[oU,this,Bool.and_eq_true,decide_eq_true_eq];exact⟨trivial,G.2⟩
theorem aas{v:cT}(aP:fA v){m:Message}(h:(hK v.g m).2=0):fA (kO ⟨v.b,v.s,(hK v.g m).1.1,v.aL,v.cp,v.U,v.now⟩ (hK v.g m).1.2):=by
 obtain⟨gh,iM⟩:=aP.od;obtain⟨I,⟨e8,gU,hm,tg⟩,ab⟩:=aaq h;rw[ab];have aq:=aP.n;refine(aP.gate (aax I hm).1 (QJ I).1).send fun y ct=>?_
 have key:∀s:h0,oU v.aL.length (qv s m.unit m.n)=true:=fun s=>by
  refine Ak ?_ ⟨e8,by omega⟩ iM ⟨hm,tg⟩;unfold nd;split<;>omega
 have ct:y∈(iu v.g m).2:=ct;unfold iu at ct;split at ct
 ·unfold gZ at ct;split at ct
  ·split at ct<;>simp at ct
  split at ct
  ·split at ct<;>simp at ct
  split at ct
  ·split at ct
   ·rw[List.mem_singleton.1 ct];exact key _
   ·simp at ct
  ·simp at ct
 ·simp at ct
theorem aaw{v:cT}(aP:fA v){m:Message}(aB:m.unit<(v.aL.length:Int))(h:(hV v.b (iN v m.unit) m).2=0):fA (kO (q4 v m.unit (hV v.b (iN v m.unit) m).1.1) (hV v.b (iN v m.unit) m).1.2):=by
 obtain⟨gh,iM⟩:=aP.od;obtain⟨I,G⟩:=aau h;unfold rK at I;obtain⟨_,I⟩:=jJ.1 I;obtain⟨hu,I⟩:=jJ.1 I;obtain⟨_,_,hm,_,Ag,Ah,_⟩:=ov I;rw[G];refine(aP.unit (aaA hu I)).send fun y ct=>?_
 rw[VY];have ct:y∈(g3 v.b (iN v m.unit) m).2:=ct;rcases IA (b:=v.b) (u:=iN v m.unit) (m:=m)with e|e|⟨q,e⟩
 ·rw[e]at ct;simp at ct
 ·rw[e]at ct;rw[List.mem_singleton.1 ct];exact Ak (by omega) ⟨hm,aB⟩ iM ⟨Ag,Ah⟩
 ·rw[e]at ct;rw[List.mem_singleton.1 ct];exact Ak (by omega) ⟨hm,aB⟩ iM ⟨Ag,Ah⟩
theorem X9{v:cT}(aP:fA v){k:Nat}(ad:k<v.U.length):fA (ik v k):=by
 have aB:=List.all_eq_true.1 aP.m _ (h9 ad l7);simp only[oU,Bool.and_eq_true,decide_eq_true_eq]at aB;have aB:(v.U.getD k l7).unit<(v.aL.length:Int):=aB.2;have b5:=aP.drop k;unfold ik;split
 ·unfold BF;split
  ·rename_i h;exact aas b5 h
  ·exact b5
 ·unfold BG;split
  ·rename_i h;exact aaw b5 aB h
  ·exact b5
theorem Xr{v:cT}(aP:fA v){k:Int}(a6:0<=k)(I:k<(v.aL.length:Int)):eZ (iN v k)=0:=aP.u _ (h9 (by omega) u7)
theorem acR{v:cT}(aP:fA v)(kind k:Int):fA (jK v kind k).1:=by
 unfold jK;split
 ·exact aP
 rename_i c;split
 ·exact X9 aP (by omega)
 split
 ·exact aP.drop _
 split
 ·split
  ·exact aP
  ·exact aP.send fun m aB=>by
    rw[List.mem_singleton.1 aB];exact List.all_eq_true.1 aP.m _ (h9 (by omega) l7)
 ·exact aP
theorem YC{f:cm}{k:Int}(h:e3 f=0)(a6:-1<=k)(I:k<=100000):e3 ⟨f.words,k⟩=0:=by
 obtain⟨a,_,_,d⟩:=jh h;unfold e3;rw[if_pos a,if_pos (by simp[a6,I,d])]
theorem Hs{f:cm}{k:Int}(h:dE f=0)(a6:-1<=k)(I:k<=100000):dE ⟨f.words,k⟩=0:=by
 obtain⟨a,b,c,d⟩:=nG h;have e:e3 ⟨f.words,k⟩=0:=YC a a6 I;unfold dE;rw[if_pos e,if_pos (show 64<=f.words.length from b),if_pos ⟨c,d⟩]
theorem YM{u:cW}{k:Int}(h:eZ u=0)(a6:-1<=k)(I:k<=100000):eZ (zv u k)=0:=by
 obtain⟨a,b,c⟩:=qs h;have e:dE ⟨u.f.words,k⟩=0:=Hs a a6 I;unfold eZ zv;simp only;rw[if_pos e,if_pos b,if_neg (by omega)]
theorem Yq{u:cW}(h:eZ u=0):eZ (qo u).1=0:=by
 rw[N8 h];obtain⟨a,b,c⟩:=qs h;have e:dE ⟨u.f.words,-1⟩=0:=Hs a (by omega) (by omega);unfold eZ;simp only;rw[if_pos e,if_pos b,if_neg (by omega)]
theorem XA{α:Type}(n:Nat)(x:α):(c6 n x).length=n:=by simp[c6]
theorem aev{v:cT}(aP:fA v)(kind unit k:Int):fA (jN v kind unit k).1:=by
 obtain⟨a1,bf,cj,eR,gf⟩:=im aP.g;unfold jN;split
 ·exact aP
 rename_i bA;split
 ·exact aP
 rename_i bb;split
 ·split
  ·refine aP.gate (Cm (Hs a1 (by omega) (by omega)) bf cj eR gf) rfl
  ·exact aP.unit (YM (Xr aP (by omega) (by omega)) (by omega) (by omega))
 split
 ·unfold v8;rw[N7 aP.g];refine aP.gate (Cm (YE a1) ?_ ?_ ?_ gf) ?_<;>simp only[XA]<;>omega
 ·exact aP.unit (Yq (Xr aP (by omega) (by omega)))
theorem ZJ{v:cT}(aP:fA v):fA (qE v).1:=by
 unfold qE;split
 ·rename_i h;obtain⟨I,_,_,_,br⟩:=ZM h;rw[br];refine aP.gate (Cn I) ?_;obtain⟨_,_,iY,_⟩:=qZ (r:=[3,(bL v.g.f).n]) (im I).1;exact iY
 ·exact aP
theorem ai9{v:cT}(aP:fA v):fA (tG v).1:=by
 unfold tG;split
 ·exact aP
 ·exact⟨aP.b,aP.s,aP.g,aP.n,aP.u,aP.mu,aP.k6,aP.c,aP.m,by have:=aP.t0;show 0<=v.now+1;omega,by have:=aP.t1;show v.now+1<=100000;omega⟩
theorem Ya{v:cT}(aP:fA v){k:Int}(a6:0<=k)(I:k<(v.aL.length:Int)):fA (jz v k).1:=by
 unfold jz;split
 ·split
  ·exact aP
  ·rename_i c;exact aP.send fun m aB=>by
    unfold Fh at aB;rw[List.mem_singleton.1 aB];exact Ak (by omega) ⟨a6,I⟩ aP.od.2 ⟨by omega,by omega⟩
 ·exact aP
theorem Pk{n:Nat}{c:hf}:ui n c=true↔c.cL.length=n/\c.r.targets.length=n/\(∀w∈c.cL,fY w=0)/\gD c.r.version c.r.ca c.r.targets=0:=by
 simp only[ui,Bool.and_eq_true,decide_eq_true_eq,List.all_eq_true]
theorem TH{n:Nat}{u q:Int}{w:List Int}(cb:fY w=0)(hu:0<=u/\u<(n:Int))(aq:n<=4)(aI:1<=q/\q<=8):∀(d k:Nat),∀m∈iZ u q w d k,oU n m=true
 |0,_,m,aB=>by simp[iZ]at aB
 |d+1,k,m,aB=>by
  obtain⟨_,jv,ajk⟩:=wi cb;unfold iZ at aB;split at aB
  ·rename_i ad;rcases List.mem_cons.1 aB with rfl|aB
   ·have ax:(a2 w k (min (k+8) w.length)).length<=8:=by simp only[a2,List.length_drop,List.length_take];omega
    have aY:cK (a2 w k (min (k+8) w.length))=true:=LV ajk _ _;have:gd (nH (tr u q w k))=0:=by
     unfold gd nH tr;simp only;rw[if_neg (by omega),if_pos aY]
    simp only[oU,this,Bool.and_eq_true,decide_eq_true_eq];exact⟨trivial,hu.2⟩
   ·exact TH cb hu aq aI d (k+8) m aB
  ·simp at aB
theorem aes{v:cT}(aP:fA v){k:Int}:fA (k7 v k).1:=by
 unfold k7;split
 ·exact aP
 rename_i hlen;split
 ·rename_i h;obtain⟨d1,d2,d3,d4,d5,d6,d7,d8,d9⟩:=Y5 h;rw[d9];have aq:=aP.n;obtain⟨gh,iM⟩:=aP.od;have av:=q0 v.g.f;have mD:=av.mD;have n2:=av.n2;have ad:0<=k/\k<(v.aL.length:Int):=⟨d4,by omega⟩
  have aI:1<=(bL v.g.f).n/\(bL v.g.f).n<=8:=by omega
  refine aP.send fun m aB=>?_
  have aB:m∈(sB v.g (bL v.g.f) (iR v) k).1:=aB;have az:iR v=v.cp.getD ((bL v.g.f).n-1).toNat pX:=by
   unfold iR;rw[D2 d1,if_pos (show 0<(bL v.g.f).n by omega)]
  rw[D2 d1]at hlen;have hlen:¬(v.cp.length:Int)<(bL v.g.f).n:=hlen;have lr:iR v∈v.cp:=by rw[az];exact h9 (by omega) pX
  obtain⟨bA,bb,cr,du⟩:=Pk.1 (List.all_eq_true.1 aP.c _ lr);generalize iR v=c at *;unfold sB at aB;split at aB
  ·split at aB
   ·simp at aB
   ·rw[List.mem_singleton.1 aB];refine Ak ?_ ad iM aI;unfold nd;split<;>omega
  ·split at aB
   ·simp at aB
   ·have cb:fY (nth c.cL k.toNat [])=0:=cr _ (h9 (by omega) []);unfold wS at aB;split at aB
    ·simp at aB
    ·rename_i ax;rcases List.mem_append.1 aB with aB|aB
     ·exact TH cb ad iM aI _ _ m aB
     ·rw[List.mem_singleton.1 aB];have:gd (nH ⟨2,k,(bL v.g.f).n,((nth c.cL k.toNat []).length:Int),(nth c.r.targets k.toNat ⟨0,0,0⟩).image,[],false⟩)=0:=by
       unfold gd nH;simp only[List.length_nil];rw[if_neg (by omega)];rfl
      simp only[oU,this,Bool.and_eq_true,decide_eq_true_eq];exact⟨trivial,ad.2⟩
 ·exact aP
theorem aex{v:cT}(aP:fA v)(o:jV)(h:(k8 v o).2=0):fA (k8 v o).1:=by
 unfold k8 at h |-
 by_cases c:(mS v o).2.2=0
 ·rw[if_pos c];have jF:=Fp c;unfold mS at c jF |-;have lW:=Yg (b:=v.b) (l:=v.s) (g:=v.g) (o:=o) (now:=v.now);obtain⟨a1,bf,cj,eR,gf,gX⟩:=Fo c;obtain⟨gm,hy,hM,p6,DZ,Vk,Vl⟩:=W8 gf;obtain⟨_,v1,v4,_⟩:=im a1;have wR:(iB v.b v.s v.g o v.now).1.cF.length=v.g.cF.length:=by
   rw[gX];show(ou v.g (bL v.g.f) (g1 v.b v.s v.g.t o v.now v.g.cF.length).1 o.r.version).1.cF.length=_;unfold ou;split
   ·exact XA _ _
   ·obtain⟨_,_,iY,_⟩:=qZ (r:=[1,(bL v.g.f).n+1,o.r.version]) (im a1).1;exact iY
  have uC:dM (iB v.b v.s v.g o v.now).1=0:=by
   rcases lW with q|q
   ·exact q
   ·rw[q]at wR;have:(n6.cF.length)=0:=rfl;omega
  have aq:=aP.n;have mu:=aP.mu;have X:=aP.gate uC wR;refine⟨aP.b,aP.s,uC,aP.n.trans wR.symm,aP.u,?_,aP.k6,?_,aP.m,aP.t0,aP.t1⟩
  ·show(qp v.cp (iB v.b v.s v.g o v.now).2.1 o).length<=8;unfold qp;split
   ·simp;omega
   ·exact mu
  ·show(qp v.cp (iB v.b v.s v.g o v.now).2.1 o).all (ui v.aL.length)=true;unfold qp;split
   ·refine List.all_eq_true.2 fun x aG=>?_
    rcases List.mem_append.1 aG with q|q
    ·exact List.all_eq_true.1 aP.c x (List.mem_of_mem_take q)
    ·rw[List.mem_singleton.1 q];exact Pk.2 ⟨by show o.cL.length=_;omega,by show o.r.targets.length=_;omega,p6,gm⟩
   ·exact aP.c
 ·rw[if_neg c]at h;exact absurd h c
theorem W3{v:cT}(aP:fA v){x:mQ}(h:(fh v x).2=0):fA (fh v x).1:=by
 unfold fh at h |-
 by_cases bA:x.kind=1
 ·rw[if_pos bA]at h |-; exact aex aP x.o h
 rw[if_neg bA]at h |-
 by_cases bb:x.kind=3\/x.kind=4\/x.kind=5
 ·rw[if_pos bb];exact acR aP _ _
 rw[if_neg bb]at h |-
 by_cases cr:x.kind=6\/x.kind=7
 ·rw[if_pos cr];exact aev aP _ _ _
 rw[if_neg cr]at h |-
 by_cases du:x.kind=8
 ·rw[if_pos du];exact ZJ aP
 rw[if_neg du]at h |-
 by_cases hs:x.kind=2\/x.kind=9
 ·rw[if_pos hs]at h |-
  by_cases gu:x.unit<0\/(v.aL.length:Int)<=x.unit
  ·rw[if_pos gu];exact aP
  ·rw[if_neg gu]
   by_cases rl:x.kind=2
   ·rw[if_pos rl];exact aes aP
   ·rw[if_neg rl];exact Ya aP (by omega) (by omega)
 rw[if_neg hs]at h |-
 by_cases gu:x.kind=10
 ·rw[if_pos gu];exact ai9 aP
 ·rw[if_neg gu];exact aP
end bE
end Go.Proofs.YtlbppjmekiemiaaGreatDoor

/- Plain answers: any vehicle copied; what happens to a right one. No condition. -/
namespace Go.Proofs.YtlbppjmekiemiaaGreatDoor
namespace bE

def V6(l:List (List Int)):Bool:=l.all fun w=>decide (w.length*8<=140737488355328)
def vw(c:hf):Bool:=decide (c.r.targets.length*24<=140737488355328)&&(decide (c.cL.length*24<=140737488355328)&&V6 c.cL)
def kt(v:cT):Bool:=decide (v.g.f.words.length*8<=140737488355328)&&(decide (v.g.t.r.keys.length*8<=140737488355328)&&(decide (v.g.cF.length<=140737488355328)&&(decide (v.g.did.length<=140737488355328)&&(decide (v.b.length*16<=140737488355328)&&(decide (v.s.length*16<=140737488355328)&&(decide (v.aL.length*56<=140737488355328)&&((v.aL.all fun u=>decide (u.f.words.length*8<=140737488355328))&&(decide (v.cp.length*72<=140737488355328)&&(v.cp.all vw&&(decide (v.U.length*72<=140737488355328)&&(v.U.all fun m=>decide (m.words.length*8<=140737488355328))))))))))))
structure yR(v:cT):Prop where
 ws:v.g.f.words.length*8<=140737488355328
 aF:v.g.t.r.keys.length*8<=140737488355328
 Y:v.g.cF.length<=140737488355328
 aa:v.g.did.length<=140737488355328
 b:v.b.length*16<=140737488355328
 s:v.s.length*16<=140737488355328
 us:v.aL.length*56<=140737488355328
 u:∀u∈v.aL,u.f.words.length*8<=140737488355328
 cs:v.cp.length*72<=140737488355328
 c:∀c∈v.cp,vw c=true
 ns:v.U.length*72<=140737488355328
 m:∀m∈v.U,m.words.length*8<=140737488355328
theorem A2{v:cT}:kt v=true↔yR v:=by
 simp only[kt,Bool.and_eq_true,decide_eq_true_eq,List.all_eq_true];exact⟨fun⟨a,b,c,d,e,f,g,h,i,j,k,l⟩=>⟨a,b,c,d,e,f,g,h,i,j,k,l⟩,fun⟨a,b,c,d,e,f,g,h,i,j,k,l⟩=>⟨a,b,c,d,e,f,g,h,i,j,k,l⟩⟩
theorem A1{c:hf}:vw c=true↔c.r.targets.length*24<=140737488355328/\c.cL.length*24<=140737488355328/\∀w∈c.cL,w.length*8<=140737488355328:=by
 simp only[vw,V6,Bool.and_eq_true,decide_eq_true_eq,List.all_eq_true]
theorem W5{v:cT}(aP:yR v):qa v=true:=by
 refine MC.2 ⟨?_,?_,aP.Y,aP.aa,?_,?_,?_,List.all_eq_true.2 fun u hu=>decide_eq_true ?_,?_,List.all_eq_true.2 fun c az=>?_,?_,List.all_eq_true.2 fun m aB=>decide_eq_true ?_⟩
 ·have:=aP.ws;show _<=_;omega
 ·have:=aP.aF;show _<=_;omega
 ·have:=aP.b;omega
 ·have:=aP.s;omega
 ·have:=aP.us;omega
 ·have:=aP.u u hu;omega
 ·have:=aP.cs;omega
 ·obtain⟨a,b,d⟩:=A1.1 (aP.c c az);simp only[MB,Bool.and_eq_true,decide_eq_true_eq,iJ,List.all_eq_true];exact⟨by omega,by omega,fun w cb=>by have:=d w cb;omega⟩
 ·have:=aP.ns;omega
 ·have:=aP.m m aB;omega
theorem agB(v w:cT):sd v w=(fr eqs v.b w.b&&(fr nK v.s w.s&&(AN v.g w.g&&(fr mL v.aL w.aL&&(au v.now w.now&&(mK v.U w.U&&fr mJ v.cp w.cp)))))):=by
 unfold sd Eb AN AO;generalize fr eqs v.b w.b=ei,fr nK v.s w.s=eU,fr mL v.aL w.aL=a3,au v.now w.now=a4,mK v.U w.U=lM,fr mJ v.cp w.cp=lN,n9 v.g.f w.g.f=nz,jC v.g.up w.g.up=pt,au v.g.t.version w.g.t.version=a9,au v.g.t.r.version w.g.t.r.version=iQ,au v.g.t.r.ej w.g.t.r.ej=jY,gj v.g.t.r.keys w.g.t.r.keys=nD,mY v.g.cF w.g.cF=kc,mY v.g.did w.g.did=BI;cases ei<;>cases eU<;>cases a3<;>cases a4<;>cases lM<;>cases lN<;>simp[Bool.and_assoc]
def ur(now:Int):Int:=if now<0\/100000<now then 3 else 0
def hI(n:Nat)(U:List Message)(now:Int):Int:=if mU n U=0 then ur now else mU n U
def my(n:Nat)(i:Int)(cs:List hf)(U:List Message)(now:Int):Int:=if nF n i cs=0 then hI n U now else nF n i cs
def uq(n:Nat)(cs:List hf)(U:List Message)(now:Int):Int:=if 8<cs.length\/24<U.length then 2 else my n 1 cs U now
def kz(n:Nat)(us:List cW)(cs:List hf)(U:List Message)(now:Int):Int:=if ow us=0 then uq n cs U now else ow us
def nj(b:List (List UInt8))(s:List Signed)(cP:Gate)(acc:List cW)(l:List (List Int)):cT×Int :=
 if (l5 b l).2=0 then(⟨b,s,cP,acc++(l5 b l).1,[],[],0⟩,0)else(iI,(l5 b l).2)
def p1(v:cT):Bool:=okW v&&(v.U.all fun m=>decide (gd m=0))
theorem w5{v:cT}:p1 v=true↔fA v/\∀m∈v.U,gd m=0:=by
 simp only[p1,Bool.and_eq_true,p0,List.all_eq_true,decide_eq_true_eq]
theorem adh{v:cT}(h:mV v=0):p1 v=true:=w5.2 ⟨JV (Cp h),fun m aB=>((Cp h).m m aB).1⟩
def kj(v:cT)(x:mQ):cT×Int:=if (fh v x).2=0 then((fh v x).1,0)else(iI,(fh v x).2)
theorem k3{v:cT}{x:mQ}{w:cT}{e:Int}(h:fh v x=(w,e))(a6:e≠0):kj v x=(iI,e):=by unfold kj;rw[h,if_neg a6]
theorem nO{v:cT}{x:mQ}{w:cT}(h:fh v x=(w,0)):kj v x=(w,0):=by unfold kj;rw[h,if_pos rfl]
theorem W1(v:cT){x:mQ}(h:x.kind<1\/10<x.kind):fh v x=(v,4):=by
 unfold fh;rw[if_neg (by omega),if_neg (by omega),if_neg (by omega),if_neg (by omega),if_neg (by omega),if_neg (by omega)]
theorem W4{v:cT}(aP:fA v)(aB:∀m∈v.U,gd m=0):kt v=true:=by
 obtain⟨a1,bf,cj,eR⟩:=YD aP.g;obtain⟨gh,iM⟩:=aP.od;have aA:=rn aP.b;have av:=(Co aP.s).1;have dZ:=aP.mu;have oK:=aP.k6;refine A2.2 ⟨a1,bf,by simp only[len]at cj;omega,by simp only[len]at eR;omega,by omega,by omega,by omega,fun u hu=>?_,by omega,fun c az=>?_,by omega,fun m pN=>?_⟩
 ·have:=(qs (aP.u u hu)).2.1;omega
 ·obtain⟨a,b,d,_⟩:=aP.uh c az;exact A1.2 ⟨by omega,by omega,fun w cb=>by have:=(wi (d w cb)).2.1;omega⟩
 ·have:=(ov (aB m pN)).2.2.2.2.2.2.2.2.2.2.1;omega
theorem ac0{α:Type}{l:List α}{i:Nat}(h:i<l.length)(x d:α):nth (setAt l i x) i d=x:=by simp[nth,setAt,h]
theorem agI{α:Type}(l:List α)(i:Nat)(x y:α):setAt (setAt l i x) i y=setAt l i y:=by simp[setAt]
theorem acw{α:Type}(l:List α)(i:Nat)(x:α):len (setAt l i x)=len l:=by simp[setAt,len]
theorem PV{α:Type}(l:List α)(k:Nat)(h:k<l.length):cat (a2 l 0 k) (a2 l (k+1) (k+1+(l.length-(k+1))))=l.eraseIdx k:=by
 rw[List.eraseIdx_eq_take_drop_succ,show k+1+(l.length-(k+1))=l.length by omega];simp[cat,a2]
end bE
end Go.Proofs.YtlbppjmekiemiaaGreatDoor

/- Plain laws: a right vehicle stays one, whatever happens. No condition. -/
namespace Go.Proofs.YtlbppjmekiemiaaGreatDoor
namespace bE

def nb(m:Message):Prop:=0<=m.image/\m.image<=60
theorem YH{m:Message}(h:gd (nH m)=0)(hi:nb m):gd m=0:=by
 obtain⟨I,G,ab,aV,br,bV,dm,dZ,iE,pF,m2,oJ⟩:=ov h;obtain⟨i1,i2⟩:=hi;unfold gd;simp only[nH]at I G ab aV br bV dm dZ m2 oJ;rw[if_neg (by omega),if_pos oJ]
theorem uR{U l:List Message}(h:∀m∈U,nb m)(ax:∀m∈l,nb m):∀m∈hz U l,nb m:=fun m aB=>by
 unfold hz at aB;rcases List.mem_append.1 aB with q|q
 ·exact h m q
 ·exact ax m (List.mem_of_mem_take q)
theorem Rz{U:List Message}(h:∀m∈U,nb m)(k:Nat):∀m∈U.eraseIdx k,nb m:=fun m aB=>h m (List.mem_of_mem_eraseIdx aB)
theorem Tv:∀{ts:List Target} {i:Int},jM i ts=true->∀t∈ts,0<=t.image/\t.image<=60
 |[],_,_,t,bl=>by cases bl
 |x::r,i,h,t,bl=>by
  simp only[jM,Bool.and_eq_true]at h;rcases List.mem_cons.1 bl with rfl|bl
  ·have:=h.1;simp only[pZ,Bool.and_eq_true,decide_eq_true_eq]at this;omega
  ·exact Tv h.2 t bl
theorem TG(u n:Int)(w:List Int):∀(d k:Nat),∀m∈iZ u n w d k,nb m
 |0,_,m,aB=>by simp[iZ]at aB
 |d+1,k,m,aB=>by
  unfold iZ at aB;split at aB
  ·rcases List.mem_cons.1 aB with rfl|aB
   ·exact⟨by simp[tr],by simp[tr]⟩
   ·exact TG u n w d (k+8) m aB
  ·simp at aB
theorem Y4{g:Gate}{c:hf}{u:Int}(h:jM 0 c.r.targets=true):∀m∈(hj g c u).1,nb m:=by
 have none:∀m∈([]:List Message),nb m:=fun m aB=>by simp at aB
 have bg:∀k a b y,nb ⟨k,a,b,0,0,[],y⟩:=fun k a b y=>⟨by simp,by simp⟩
 unfold hj;split
 ·unfold sB;split
  ·split
   ·exact none
   ·intro m aB;rw[List.mem_singleton.1 aB];exact bg _ _ _ _
  ·split
   ·exact none
   ·unfold wS;split
    ·exact none
    ·intro m aB;rcases List.mem_append.1 aB with aB|aB
     ·exact TG _ _ _ _ _ m aB
     ·rw[List.mem_singleton.1 aB]
      by_cases q:u.toNat<c.r.targets.length
      ·exact Tv h _ (h9 q ⟨0,0,0⟩)
      ·have e:nth c.r.targets u.toNat ⟨0,0,0⟩=⟨0,0,0⟩:=by
        unfold nth;rw[List.getD_eq_getElem?_getD,List.getElem?_eq_none (by omega)];rfl
       show nb ⟨_,_,_,_,(nth c.r.targets u.toNat ⟨0,0,0⟩).image,_,_⟩;rw[e];exact⟨by simp,by simp⟩
 ·exact none
theorem YJ{v u:Int}{ts:List Target}(h:gD v u ts=0):jM 0 ts=true:=by
 unfold gD at h;split at h
 ·cases h
 ·split at h
  ·cases h
  ·by_cases q:jM 0 ts=true
   ·exact q
   ·rw[if_neg q]at h;cases h
theorem aiQ{v:cT}(aP:fA v)(aB:∀m∈v.U,nb m){x:mQ}(h:(fh v x).2=0):∀m∈(fh v x).1.U,nb m:=by
 have one:∀(l:List Message) k a b y,(l=[]\/l=[⟨k,a,b,0,0,[],y⟩])->∀m∈l,nb m:=fun l k a b y e m aB=>by
  rcases e with rfl|rfl
  ·simp at aB
  ·rw[List.mem_singleton.1 aB];exact⟨by simp,by simp⟩
 unfold fh at h |-
 by_cases bA:x.kind=1
 ·rw[if_pos bA];unfold k8;split
  ·exact aB
  ·exact aB
 rw[if_neg bA]at h |-
 by_cases bb:x.kind=3\/x.kind=4\/x.kind=5
 ·rw[if_pos bb];unfold jK;split
  ·exact aB
  split
  ·unfold ik;have b5:=Rz aB x.k.toNat;split
   ·unfold BF;split
    ·rcases QH (pz v x.k.toNat).g (v.U.getD x.k.toNat l7)with e|⟨k,e⟩
     ·exact uR b5 (one _ 0 0 0 false (.inl e))
     ·exact uR b5 (one _ _ _ _ _ (.inr e))
    ·exact b5
   ·unfold BG;split
    ·rcases QI (pz v x.k.toNat).b (iN (pz v x.k.toNat) (v.U.getD x.k.toNat l7).unit) (v.U.getD x.k.toNat l7)with e|⟨k,y,e⟩
     ·exact uR b5 (one _ 0 0 0 false (.inl e))
     ·exact uR b5 (one _ _ _ _ _ (.inr e))
    ·exact b5
  split
  ·exact Rz aB _
  split
  ·rename_i c _ _ _;split
   ·exact aB
   ·refine uR aB fun m q=>?_
    rw[List.mem_singleton.1 q];exact aB _ (h9 (l:=v.U) (k:=x.k.toNat) (by omega) l7)
  ·exact aB
 rw[if_neg bb]at h |-
 by_cases cr:x.kind=6\/x.kind=7
 ·rw[if_pos cr];unfold jN;split;exact aB;split;exact aB;split
  ·split;exact aB;exact aB
  split;exact aB;exact aB
 rw[if_neg cr]at h |-
 by_cases du:x.kind=8
 ·rw[if_pos du];unfold qE;split;exact aB;exact aB
 rw[if_neg du]at h |-
 by_cases hs:x.kind=2\/x.kind=9
 ·rw[if_pos hs]at h |-
  by_cases gu:x.unit<0\/(v.aL.length:Int)<=x.unit
  ·rw[if_pos gu];exact aB
  rw[if_neg gu]at h |-
  by_cases rl:x.kind=2
  ·rw[if_pos rl];unfold k7;split
   ·exact aB
   ·rename_i ax;split
    ·refine uR aB (Y4 ?_);have aw:=D2 aP.g;rw[aw]at ax;have mD:=(q0 v.g.f).mD;unfold iR;rw[aw];simp only at ax
     by_cases q:0<(bL v.g.f).n
     ·rw[if_pos q];obtain⟨_,_,_,a⟩:=aP.uh _ (h9 (l:=v.cp) (k:=((bL v.g.f).n-1).toNat) (by omega) pX);exact YJ a
     ·rw[if_neg q];rfl
    ·exact aB
  ·rw[if_neg rl];unfold jz;split
   ·split
    ·exact aB
    ·exact uR aB (one _ _ _ _ _ (.inr rfl))
   ·exact aB
 rw[if_neg hs]at h |-
 by_cases gu:x.kind=10
 ·rw[if_pos gu];unfold tG;split;exact aB;exact aB
 ·rw[if_neg gu];exact aB
theorem adi{v:cT}(aG:p1 v=true){x:mQ}(h:(fh v x).2=0):p1 (fh v x).1=true:=by
 obtain⟨aP,aB⟩:=w5.1 aG;have gH:=W3 aP h;have aD:=aiQ aP (fun m q=>by obtain⟨_,_,_,_,_,_,_,_,a,b,_⟩:=ov (aB m q);exact⟨a,b⟩) h;exact w5.2 ⟨gH,fun m q=>YH (gH.msg m q).1 (aD m q)⟩
theorem aiZ{v:cT}(h:p1 v=true):qa v=true:=W5 (A2.1 (W4 (w5.1 h).1 (w5.1 h).2))
theorem ai0:qa iI=true:=rfl
theorem aiY{v:cT}(aA:ij (.E (.list .str) v.b))(av:ij (.E (.list .signed) v.s))(cb:ij (.E (.list .int) v.g.f.words))(ad:ij (.E (.list .int) v.g.t.r.keys))(aY:ij (.E (.list .bool) v.g.cF))(bO:ij (.E (.list .bool) v.g.did))
  (hu:ij (.E (.list .aT) v.aL)) (az:ij (.E (.list .aU) v.cp)) (aq:ij (.E (.list .message) v.U)):kt v=true:=by
 have L:∀{t:z} {l:List t.den},ij (.E (.list t) l)->l.length*t.bytes<=140737488355328:=fun h=>Nat.le_trans (W6 h).1 (by decide)
 have gx:∀{t:z} {l:List t.den},ij (.E (.list t) l)->∀x∈l,∀(j:Nat) (c:C),(t.cells x)[j]? = some c->ij c:=fun {t l} h x aG j c e=>by
  obtain⟨i,hi,rfl⟩:=List.mem_iff_getElem.1 aG;exact(W6 h).2 i j c hi (by simpa[nth,List.getD_eq_getElem?_getD,hi]using e)
 have cj:=L aY;have eR:=L bO;refine A2.2 ⟨L cb,L ad,by simpa[z.bytes]using cj,by simpa[z.bytes]using eR,L aA,L av,L hu,fun u h=>L (gx hu u h 0 _ rfl),L az,fun c h=>A1.2 ⟨L (gx az c h 3 _ rfl),L (gx az c h 4 _ rfl),fun w G=>L (gx (gx az c h 4 _ rfl) w G 0 _ rfl)⟩,L aq,fun m h=>L (gx aq m h 5 _ rfl)⟩
end bE
end Go.Proofs.YtlbppjmekiemiaaGreatDoor
