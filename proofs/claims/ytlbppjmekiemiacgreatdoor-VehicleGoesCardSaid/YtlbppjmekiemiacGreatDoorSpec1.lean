/- Plain answers of the functions, and plain lemmas on them. No condition. -/
import Derived.Test.YtlbppjmekiemiacGreatDoorVmd
import Derived.IntWalk
import Derived.Lib.ItoaNum
import Derived.Lib.Join
import Derived.KernelRfl
namespace Go.Proofs.YtlbppjmekiemiacGreatDoor
namespace Vm

def eqIs (a b:List Int):Bool:=decide (a=b)
def okWord (w:Int):Bool:=decide (0≤w) && decide (w≤65535)
def z04 (l:List Int):Bool:=l.all okWord
def firstBadFrom (k:Int):List Int→Int
 | []=>-1
 | w::l=>if okWord w then firstBadFrom (k+1) l else k
def firstBad (l:List Int):Int:=firstBadFrom 0 l
def okLen (n:Nat):Bool:=n == 32 || n == 64 || n == 96 || n == 128 || n == 160 || n == 192
def z0b (f:Flash):Int :=
 if okLen f.words.length then (if decide (-1≤f.fuel) && decide (f.fuel≤100000) && z04 f.words then 0 else 3) else 4
def burnFuel (fu:Int):Int:=if 0<fu then fu-1 else fu
def z0a (ws:List Int) (cs:List Change):List Int:=cs.foldl (fun ws c=>ws.set c.at_.toNat (fnwApp c.word (ws.getD c.at_.toNat 0))) ws
def doCh (f:Flash) (cs:List Change):Flash × Bool :=
 if f.fuel<0 then (⟨z0a f.words cs,f.fuel⟩,true)
 else if (cs.length:Int)≤f.fuel then (⟨z0a f.words cs,f.fuel-cs.length⟩,true)
 else (⟨z0a f.words (cs.take f.fuel.toNat),0⟩,false)
def wipeFrom (at_:Int):Nat→List Change
 | 0=>[]
 | n+1=>⟨at_,none⟩::wipeFrom (at_+1) n
def wipeCh (sector:Int):List Change:=wipeFrom (32*sector) 32
def z0c (at_:Int):List Int→List Change
 | []=>[]
 | w::l=>⟨at_,some w⟩::z0c (at_+1) l
def noFlash:Flash:=⟨[],0⟩
def powerE (b:Bool):Int:=match b with | true=>0 | false=>7
def power (r:Flash × Bool):Flash × Int:=(r.1,powerE r.2)
def programF (f:Flash) (at_:Int) (l:List Int):Flash × Int :=
 if z0b f=0 then
  (if 0≤at_∧at_≤f.words.length∧(l.length:Int)≤f.words.length-at_ then
   (if z04 l then power (doCh f (z0c at_ l)) else (noFlash,3))
  else (noFlash,5))
 else (noFlash,z0b f)
def newFlash (n:Int):Flash × Int:=if 1≤n∧n≤6 then (⟨zeros (n*32).toNat 65535,-1⟩,0) else (noFlash,3)
def readF (f:Flash) (at_ n:Int):List Int × Int :=
 if z0b f=0 then
  (if 0≤at_∧0≤n∧at_+n≤f.words.length then (slc f.words at_.toNat (at_+n).toNat,0) else ([],5))
 else ([],z0b f)
def two64:Int:=18446744073709551616
def inU64 (a:Int):Bool:=decide (0≤a) && decide (a<18446744073709551616)
end Vm
end Go.Proofs.YtlbppjmekiemiacGreatDoor

namespace Go.Proofs.YtlbppjmekiemiacGreatDoor
namespace Vm

theorem z0e {n:Int} (h1:-9223372036854775808≤n) (h2:n≤9223372036854775807):w64 n=n:=by
 unfold w64 IntKind.wrap
 simp only [IntKind.signed,IntKind.bits]
 simp
 omega

theorem zhw {a b:Int}:lti a b=true↔a<b:=by simp [lti]
theorem zeg {a b:Int}:lti a b=false↔b≤a:=by simp [lti]
theorem z1u {a b:Int}:lei a b=true↔a≤b:=by simp [lei]
theorem z11 {a b:Int}:lei a b=false↔b<a:=by simp [lei]
theorem z82 {a b:Int}:eqi a b=true↔a=b:=by simp [eqi]
theorem z60 {a b:Int}:eqi a b=false↔a≠b:=by simp [eqi]
theorem ziv {a b:List UInt8}:eqs a b=true↔a=b:=by simp [eqs]
theorem zeu {a b:List UInt8}:eqs a b=false↔a≠b:=by simp [eqs]
theorem not_true {b:Bool}:(!b)=true↔b=false:=by cases b<;>simp
theorem not_false {b:Bool}:(!b)=false↔b=true:=by cases b<;>simp
theorem z97 {b:Bool} {p q:Prop} (h:b=true) (hp:p):br b p q:=by subst h; exact hp
theorem z6r {b:Bool} {p q:Prop} (h:b=false) (hq:q):br b p q:=by subst h; exact hq
theorem z0l {b:Bool} {p q:Prop} (hp:b=true→p) (hq:b=false→q):br b p q:=by cases b; exact hq rfl; exact hp rfl
theorem z2o {a b:Int} {p q:Prop} (h:a<b) (hp:p):br (lti a b) p q:=z97 (zhw.2 h) hp
theorem z22 {a b:Int} {p q:Prop} (h:b≤a) (hq:q):br (lti a b) p q:=z6r (zeg.2 h) hq
theorem z1a {a b:Int} {p q:Prop} (hp:a<b→p) (hq:b≤a→q):br (lti a b) p q:=z0l (fun h=>hp (zhw.1 h)) (fun h=>hq (zeg.1 h))
theorem zgj {a b:Int} {p q:Prop} (h:a=b) (hp:p):br (eqi a b) p q:=z97 (z82.2 h) hp
theorem zfd {a b:Int} {p q:Prop} (h:a≠b) (hq:q):br (eqi a b) p q:=z6r (z60.2 h) hq
theorem z27 {a b:Int} {p q:Prop} (hp:a=b→p) (hq:a≠b→q):br (eqi a b) p q:=z0l (fun h=>hp (z82.1 h)) (fun h=>hq (z60.1 h))
theorem ne_t {a b:Int} {p q:Prop} (h:a≠b) (hp:p):br (!eqi a b) p q:=z97 (not_true.2 (z60.2 h)) hp
theorem ne_f {a b:Int} {p q:Prop} (h:a=b) (hq:q):br (!eqi a b) p q:=z6r (not_false.2 (z82.2 h)) hq
theorem z1c {a b:Int} {p q:Prop} (hp:a≠b→p) (hq:a=b→q):br (!eqi a b) p q:=z0l (fun h=>hp (z60.1 (not_true.1 h))) (fun h=>hq (z82.1 (not_false.1 h)))
theorem z4n {b:Bool} {p q:Prop} (hp:b=false→p) (hq:b=true→q):br (!b) p q:=z0l (fun h=>hp (not_true.1 h)) (fun h=>hq (not_false.1 h))
theorem nt_t {b:Bool} {p q:Prop} (h:b=false) (hp:p):br (!b) p q:=z97 (not_true.2 h) hp
theorem nt_f {b:Bool} {p q:Prop} (h:b=true) (hq:q):br (!b) p q:=z6r (not_false.2 h) hq
theorem z0q {α:Type} {l:List α} {k:Nat} (h:k<l.length) (d:α):l.drop k=nth l k d::l.drop (k+1):=by
 rw [List.drop_eq_getElem_cons h]
 simp [nth,List.getD_eq_getElem?_getD,h]
def Sm {α:Type} (l:List α):Prop:=l.length≤140737488355328
theorem z08 (n:Nat):Int.toNat (n:Int)=n:=rfl
theorem z0f {k:Nat} (h:k<9223372036854775807):w64 ((k:Int)+1)=((k+1:Nat):Int):=by rw [z0e (by omega) (by omega)]; omega
theorem z3u {α:Type} {l:List α} {k:Nat} (h:k<l.length) (d:α):l.take (k+1)=l.take k++[nth l k d]:=by
 rw [List.take_succ_eq_append_getElem h]
 simp [nth,List.getD_eq_getElem?_getD,h]
theorem z5f {α:Type} {p:α→Bool} {l:List α} {k:Nat} (h:k<l.length) (d:α) (ht:(l.take k).all p=true) (hd:p (nth l k d)=true):(l.take (k+1)).all p=true:=by
 rw [z3u h d,List.all_append,ht]; simp [hd]
theorem zbv {α:Type} {p:α→Bool} {l:List α} {k:Nat} (h:k<l.length) (d:α) (hd:p (nth l k d)=false):l.all p=false:=by
 rw [← List.take_append_drop k l,List.all_append,z0q h d]; simp [hd]
theorem zdw (f:Flash):doCh f []=(f,true):=by
 unfold doCh
 cases f with
 | mk ws fu =>
  simp only [z0a,List.foldl_nil,List.length_nil]
  split
  ·rfl
  ·rw [if_pos (by simp; omega)]; simp
theorem zab (ws:List Int) (fu:Int) (c:Change) (cs:List Change) :
  doCh ⟨ws,fu⟩ (c::cs)=if fu=0 then (⟨ws,0⟩,false) else doCh ⟨ws.set c.at_.toNat (fnwApp c.word (ws.getD c.at_.toNat 0)),burnFuel fu⟩ cs:=by
 unfold doCh burnFuel
 simp only [List.length_cons]
 by_cases h0:fu=0
 ·subst h0
  simp only [if_true]
  rw [if_neg (by omega),if_neg (by omega)]
  simp [z0a]
 ·rw [if_neg h0]
  by_cases h1:fu<0
  ·rw [if_pos h1,if_neg (show ¬ 0<fu by omega),if_pos h1]; simp [z0a]
  ·rw [if_neg h1,if_pos (show 0<fu by omega),if_neg (show ¬ fu-1<0 by omega)]
   by_cases h2:((cs.length+1:Nat):Int)≤fu
   ·rw [if_pos h2,if_pos (by omega)]
    simp only [z0a,List.foldl_cons]
    congr 2
    omega
   ·rw [if_neg h2,if_neg (by omega)]
    have:fu.toNat=(fu-1).toNat+1:=by omega
    rw [this,List.take_succ_cons]
    simp [z0a]
theorem z1n (cs:List Change):∀ ws:List Int,(z0a ws cs).length=ws.length:=by
 induction cs with
 | nil=>intro ws; rfl
 | cons c cs ih=>intro ws; simp only [z0a,List.foldl_cons]; exact (ih _).trans (by simp)
theorem z4i (f:Flash) (cs:List Change):(doCh f cs).1.words.length=f.words.length:=by
 unfold doCh
 split
 ·exact z1n _ _
 ·split
  ·exact z1n _ _
  ·exact z1n _ _
theorem z9a (a:Int):∀ n,(wipeFrom a n).length=n:=by
 intro n
 induction n generalizing a with
 | zero=>rfl
 | succ n ih=>simp [wipeFrom,ih]
theorem z2c:∀ (l:List Int) (a:Int),(z0c a l).length=l.length
 | [],_=>rfl
 | w::l,a=>by simp [z0c,z2c l]
end Vm
end Go.Proofs.YtlbppjmekiemiacGreatDoor

namespace Go.Proofs.YtlbppjmekiemiacGreatDoor
namespace Vm

theorem zje (n m:Nat) (hn:n<65536) (hm:m<65536):andi (n:Int) (m:Int)=((n &&& m:Nat):Int):=by
 have h1:n &&& m≤n:=Nat.and_le_left
 have e:(BitVec.ofInt 64 (n:Int) &&& BitVec.ofInt 64 (m:Int)).toNat=n &&& m:=by
  rw [BitVec.toNat_and]
  have a1:(BitVec.ofInt 64 (n:Int)).toNat=n:=by rw [BitVec.ofInt_natCast,BitVec.toNat_ofNat]; omega
  have a2:(BitVec.ofInt 64 (m:Int)).toNat=m:=by rw [BitVec.ofInt_natCast,BitVec.toNat_ofNat]; omega
  rw [a1,a2]
 unfold andi
 rw [e,z0e (by omega) (by omega)]

theorem z6c {w:Int} (h:okWord w=true):∃ n:Nat,w=n∧n<65536:=by
 simp only [okWord,Bool.and_eq_true,decide_eq_true_eq] at h
 exact ⟨w.toNat,by omega,by omega⟩
theorem okWord_of {n:Nat} (h:n<65536):okWord (n:Int)=true:=by simp [okWord]; omega
theorem zan {a b:Int} (ha:okWord a=true) (hb:okWord b=true):okWord (andi a b)=true:=by
 obtain ⟨n,rfl,hn⟩:=z6c ha
 obtain ⟨m,rfl,hm⟩:=z6c hb
 rw [zje n m hn hm]
 exact okWord_of (Nat.lt_of_le_of_lt Nat.and_le_left hn)
theorem z68 {a:Int} (ha:okWord a=true):andi 65535 a=a:=by
 obtain ⟨n,rfl,hn⟩:=z6c ha
 have:=zje 65535 n (by omega) hn
 rw [show ((65535:Nat):Int)=65535 from rfl] at this
 rw [this,Nat.and_comm,show (65535:Nat)=2 ^ 16-1 from rfl,Nat.and_two_pow_sub_one_of_lt_two_pow (by omega)]

theorem z21 {l:List Int} (h:z04 l=true) (i:Nat) (hi:i<l.length):okWord (l.getD i 0)=true:=by
 have:=List.all_eq_true.1 h (l[i]) (List.getElem_mem hi)
 simpa [List.getD_eq_getElem?_getD,hi] using this
theorem z8v {l:List Int} (h:∀ i,i<l.length→okWord (l.getD i 0)=true):z04 l=true:=by
 refine List.all_eq_true.2 fun w hw=>?_
 obtain ⟨i,hi,rfl⟩:=List.getElem_of_mem hw
 simpa [List.getD_eq_getElem?_getD,hi] using h i hi
theorem zgb {l:List Int} (h:z04 l=true) (k:Nat):z04 (l.take k)=true:=List.all_eq_true.2 fun w hw=>List.all_eq_true.1 h w (List.mem_of_mem_take hw)
theorem ze9 {l:List Int} (h:z04 l=true) (k:Nat):z04 (l.drop k)=true:=List.all_eq_true.2 fun w hw=>List.all_eq_true.1 h w (List.mem_of_mem_drop hw)

theorem z6p {a b:List Int} (hl:a.length=b.length) (h:∀ i,i<a.length→a.getD i 0=b.getD i 0):a=b:=by
 refine List.ext_getElem hl fun i h1 h2=>?_
 have:=h i h1
 simpa [List.getD_eq_getElem?_getD,h1,h2] using this

theorem z87 (l:List Int) (j i:Nat) (x:Int):(l.set j x).getD i 0=if i=j∧j<l.length then x else l.getD i 0:=by
 simp only [List.getD_eq_getElem?_getD,List.getElem?_set]
 by_cases e:j=i
 ·subst e
  by_cases hl:j<l.length
  ·simp [hl]
  ·simp [hl]
 ·rw [if_neg e,if_neg (fun h=>e h.1.symm)]

theorem z1x (a b:List Change) (ws:List Int):z0a ws (a++b)=z0a (z0a ws a) b:=by simp [z0a,List.foldl_append]
theorem z3i (c:Change) (cs:List Change) (ws:List Int):z0a ws (c::cs)=z0a (ws.set c.at_.toNat (fnwApp c.word (ws.getD c.at_.toNat 0))) cs:=rfl

theorem z65:∀ (l:List Int) (a:Int) (ws:List Int),0≤a→a+(l.length:Nat)≤(ws.length:Nat)→∀ i:Nat,
  (z0a ws (z0c a l)).getD i 0=if a≤i∧(i:Int)<a+(l.length:Nat) then andi (ws.getD i 0) (l.getD (i-a.toNat) 0) else ws.getD i 0
 | [],a,ws,h0,h1,i=>by
  rw [if_neg (by simp only [List.length_nil]; omega)]; rfl
 | w::l,a,ws,h0,h1,i=>by
  simp only [List.length_cons] at h1 ⊢
  simp only [z0c,z3i]
  rw [z65 l (a+1) _ (by omega) (by simp; omega) i,z87]
  by_cases c1:i=a.toNat
  ·rw [if_neg (by omega),if_pos ⟨c1,by omega⟩,if_pos (by omega)]
   subst c1
   simp [fnwApp]
  ·have e1:(if i=a.toNat∧a.toNat<ws.length then fnwApp (some w) (ws.getD a.toNat 0) else ws.getD i 0)=ws.getD i 0:=if_neg (by omega)
   rw [e1]
   by_cases c2:a+1≤i∧(i:Int)<a+1+(l.length:Nat)
   ·rw [if_pos c2,if_pos (by omega)]
    congr 1
    rw [show i-a.toNat=(i-(a+1).toNat)+1 by omega,List.getD_cons_succ]
   ·rw [if_neg c2,if_neg (by omega)]

theorem burn_ok {ws l:List Int} {a:Int} (h0:0≤a) (h1:a+(l.length:Nat)≤(ws.length:Nat)) (hw:z04 ws=true) (hl:z04 l=true):z04 (z0a ws (z0c a l))=true:=by
 refine z8v fun i hi=>?_
 rw [z1n] at hi
 rw [z65 l a ws h0 h1]
 split
 ·rename_i h
  exact zan (z21 hw i hi) (z21 hl _ (by omega))
 ·exact z21 hw i hi

theorem z10 {f:Flash} (h:z0b f=0):okLen f.words.length=true∧-1≤f.fuel∧f.fuel≤100000∧z04 f.words=true:=by
 unfold z0b at h
 split at h
 ·split at h
  ·rename_i h1 h2
   simp only [Bool.and_eq_true,decide_eq_true_eq] at h2
   exact ⟨h1,h2.1.1,h2.1.2,h2.2⟩
  ·cases h
 ·cases h
theorem z52 {f:Flash} (h1:okLen f.words.length=true) (h2:-1≤f.fuel) (h3:f.fuel≤100000) (h4:z04 f.words=true):z0b f=0:=by
 unfold z0b
 rw [if_pos h1,if_pos (by simp [h2,h3,h4])]
theorem z6f {n:Nat} (h:okLen n=true):32≤n∧n≤192:=by
 simp [okLen] at h; omega

theorem z72 {f:Flash} {a:Int} {l:List Int} (h1:okLen f.words.length=true) (h2:-1≤f.fuel) (h3:f.fuel≤100000) (h4:z04 f.words=true) (h5:0≤a) (h6:a+(l.length:Nat)≤(f.words.length:Nat)) (h7:z04 l=true) :
  programF f a l=power (doCh f (z0c a l)):=by
 unfold programF
 rw [if_pos (z52 h1 h2 h3 h4),if_pos (by omega),if_pos h7]
theorem z5p {f:Flash} {a:Int} {l:List Int} (h:(programF f a l).2=0∨(programF f a l).2=7):okLen f.words.length=true∧-1≤f.fuel∧f.fuel≤100000∧z04 f.words=true∧0≤a∧a+(l.length:Nat)≤(f.words.length:Nat)∧z04 l=true:=by
 unfold programF at h
 by_cases c:z0b f=0
 ·rw [if_pos c] at h
  obtain ⟨k1,k2,k3,k4⟩:=z10 c
  by_cases c2:0≤a∧a≤(f.words.length:Int)∧(l.length:Int)≤f.words.length-a
  ·rw [if_pos c2] at h
   by_cases c3:z04 l=true
   ·exact ⟨k1,k2,k3,k4,c2.1,by omega,c3⟩
   ·rw [if_neg c3] at h; simp at h
  ·rw [if_neg c2] at h; simp at h
 ·rw [if_neg c] at h
  simp only at h
  rcases h with h | h
  ·exact absurd h c
  ·unfold z0b at h
   split at h
   ·split at h<;>simp at h
   ·simp at h
theorem zeh {ws:List Int} {cs:List Change}:doCh ⟨ws,-1⟩ cs=(⟨z0a ws cs,-1⟩,true):=by simp [doCh]
theorem z7d {ws:List Int} {fu:Int} {cs:List Change} (h:(cs.length:Int)≤fu):doCh ⟨ws,fu⟩ cs=(⟨z0a ws cs,fu-cs.length⟩,true):=by
 unfold doCh
 rw [if_neg (by simp; omega),if_pos (by simpa using h)]
theorem zi8 {α:Type} (l:List α) (k:Nat):slc l 0 k=l.take k:=by simp [slc]
theorem slc_drop {α:Type} (l:List α) (k:Nat):slc l k l.length=l.drop k:=by simp [slc]
theorem zb9:∀ (n:Nat) (a:Int) (ws:List Int),0≤a→a+(n:Nat)≤(ws.length:Nat)→∀ i:Nat,
  (z0a ws (wipeFrom a n)).getD i 0=if a≤i∧(i:Int)<a+(n:Nat) then 65535 else ws.getD i 0
 | 0,a,ws,h0,h1,i=>by
  rw [if_neg (by omega)]; rfl
 | n+1,a,ws,h0,h1,i=>by
  simp only [wipeFrom,z3i]
  rw [zb9 n (a+1) _ (by omega) (by simp; omega) i,z87]
  by_cases c1:i=a.toNat
  ·rw [if_neg (by omega),if_pos ⟨c1,by omega⟩,if_pos (by omega)]; rfl
  ·have e1:(if i=a.toNat∧a.toNat<ws.length then fnwApp none (ws.getD a.toNat 0) else ws.getD i 0)=ws.getD i 0:=if_neg (by omega)
   rw [e1]
   by_cases c2:a+1≤i∧(i:Int)<a+1+(n:Nat)
   ·rw [if_pos c2,if_pos (by omega)]
   ·rw [if_neg c2,if_neg (by omega)]
theorem wipe_ok {ws:List Int} {s:Int} (h0:0≤s) (h1:(s+1)*32≤(ws.length:Nat)) (hw:z04 ws=true):z04 (z0a ws (wipeCh s))=true:=by
 refine z8v fun i hi=>?_
 rw [z1n] at hi
 unfold wipeCh
 rw [zb9 _ _ _ (by omega) (by omega)]
 split
 ·rfl
 ·exact z21 hw i hi
theorem zb0:∀ (l:List Int) (a:Int) (k:Nat),(z0c a l).take k=z0c a (l.take k)
 | [],_,_=>by simp [z0c]
 | _::_,_,0=>rfl
 | w::l,a,k+1=>by simp only [z0c,List.take_succ_cons,zb0 l]
theorem z37 (l:List Int) (a b i:Nat) (h:a+i<b):(slc l a b).getD i 0=l.getD (a+i) 0:=by
 simp only [slc,List.getD_eq_getElem?_getD,List.getElem?_drop,List.getElem?_take]
 rw [if_pos h]
end Vm
end Go.Proofs.YtlbppjmekiemiacGreatDoor

namespace Go.Proofs.YtlbppjmekiemiacGreatDoor
namespace Vm

def z0g (f:Flash) (slot:Int):Int :=
 if z0b f=0 then (if f.words.length=192 then (if slot=0∨slot=1 then 0 else 5) else 4) else z0b f
def clearCh (slot:Int):List Change:=wipeCh (2+2*slot)++wipeCh (3+2*slot)
def clearS (f:Flash) (slot:Int):Flash × Int :=
 if z0g f slot=0 then power (doCh f (clearCh slot)) else (noFlash,z0g f slot)
def fillS (f:Flash) (slot at_:Int) (l:List Int):Flash × Int :=
 if z0g f slot=0 then (if 0≤at_∧at_≤40∧(l.length:Int)≤40-at_ then programF f (68+64*slot+at_) l else (noFlash,2)) else (noFlash,z0g f slot)
def okHead (long name:Int):Bool:=decide (1≤long) && decide (long≤40) && decide (1≤name) && decide (name≤60)
def headOf (long name:Int):List Int:=[long,name,65535-long,65535-name]
def sealS (f:Flash) (slot long name:Int):Flash × Int :=
 if z0g f slot=0 then (if okHead long name then programF f (64+64*slot) (headOf long name) else (noFlash,3)) else (noFlash,z0g f slot)
def bodyS (f:Flash) (slot n:Int):List Int × Int :=
 if z0g f slot=0 then (if 0≤n∧n≤40 then (slc f.words (68+64*slot).toNat (68+64*slot+n).toNat,0) else ([],2)) else ([],z0g f slot)
def sealedAt (ws:List Int) (b:Nat):Bool :=
 okHead (ws.getD b 0) (ws.getD (b+1) 0) && decide (ws.getD (b+2) 0=65535-ws.getD b 0) && decide (ws.getD (b+3) 0=65535-ws.getD (b+1) 0)
def beginS (slot:Int):Nat:=(64+64*slot).toNat
def imageR (ws:List Int) (slot:Int):List Int × Int :=
 if sealedAt ws (beginS slot) then (slc ws (beginS slot+4) (beginS slot+4+(ws.getD (beginS slot) 0).toNat),ws.getD (beginS slot+1) 0) else ([],0)
def z1l (f:Flash) (slot:Int):List Int × Int × Int :=
 if z0g f slot=0 then ((imageR f.words slot).1,(imageR f.words slot).2,if sealedAt f.words (beginS slot) then 0 else 4) else ([],0,z0g f slot)

theorem z4t {ws:List Int} {fu:Int} {cs:List Change} (h:¬ (cs.length:Int)≤fu) (h0:0≤fu):doCh ⟨ws,fu⟩ cs=(⟨z0a ws (cs.take fu.toNat),0⟩,false):=by
 unfold doCh
 rw [if_neg (by simp only; omega),if_neg (by simpa using h)]
theorem z33 (f:Flash) (a b:List Change):doCh f (a++b)=if (doCh f a).2 then doCh (doCh f a).1 b else doCh f a:=by
 obtain ⟨ws,fu⟩:=f
 by_cases h1:fu<0
 ·have e:∀ (vs:List Int) (cs:List Change),doCh ⟨vs,fu⟩ cs=(⟨z0a vs cs,fu⟩,true):=fun vs cs=>by simp [doCh,h1]
  rw [e,e,if_pos rfl,e,z1x]
 ·by_cases h2:(a.length:Int)≤fu
  ·rw [z7d (cs:=a) h2,if_pos rfl]
   by_cases h3:(b.length:Int)≤fu-a.length
   ·rw [z7d (cs:=b) h3,z7d (by rw [List.length_append]; omega),z1x,List.length_append]
    rw [show fu-((a.length+b.length:Nat):Int)=fu-a.length-b.length by omega]
   ·rw [z4t (by rw [List.length_append]; omega) (by omega),z4t (by omega) (by omega)]
    rw [show fu.toNat=a.length+(fu-a.length).toNat by omega,List.take_length_add_append,z1x]
  ·rw [z4t (by rw [List.length_append]; omega) (by omega),z4t (cs:=a) (by omega) (by omega),List.take_append_of_le_length (by omega)]
   rfl
theorem xori_nat (n:Nat) (hn:n<65536):xori 65535 (n:Int)=65535-(n:Int):=by
 have h1:(65535:Nat) ^^^ n=65535-n:=by
  have:BitVec.ofNat 16 65535 ^^^ BitVec.ofNat 16 n=BitVec.ofNat 16 65535-BitVec.ofNat 16 n:=by
   have:=BitVec.not_eq_neg_add (BitVec.ofNat 16 n)
   rw [show BitVec.ofNat 16 65535=BitVec.allOnes 16 from rfl,BitVec.allOnes_xor,BitVec.allOnes_sub_eq_not]
  have:=congrArg BitVec.toNat this
  rw [BitVec.toNat_xor,BitVec.toNat_sub,BitVec.toNat_ofNat,BitVec.toNat_ofNat] at this
  rw [Nat.mod_eq_of_lt (show 65535<2 ^ 16 by decide),Nat.mod_eq_of_lt (show n<2 ^ 16 by omega)] at this
  omega
 have e:(BitVec.ofInt 64 65535 ^^^ BitVec.ofInt 64 (n:Int)).toNat=65535-n:=by
  rw [BitVec.toNat_xor]
  have a2:(BitVec.ofInt 64 (n:Int)).toNat=n:=by rw [BitVec.ofInt_natCast,BitVec.toNat_ofNat]; omega
  rw [a2,show (BitVec.ofInt 64 65535).toNat=65535 from rfl,h1]
 unfold xori
 rw [e,z0e (by omega) (by omega)]; omega
theorem za0 {a:Int} (h0:0≤a) (h1:a≤65535):xori 65535 a=65535-a:=by
 obtain ⟨n,rfl⟩:=Int.eq_ofNat_of_zero_le h0
 exact xori_nat n (by omega)
theorem z3h {f:Flash} {slot:Int} (h:z0g f slot=0):z0b f=0∧f.words.length=192∧(slot=0∨slot=1):=by
 unfold z0g at h
 split at h
 ·rename_i h1
  split at h
  ·rename_i h2
   split at h
   ·rename_i h3; exact ⟨h1,h2,h3⟩
   ·cases h
  ·cases h
 ·exact absurd h ‹_›
theorem z7w (f:Flash):z0b f=0∨z0b f=3∨z0b f=4:=by
 unfold z0b
 split
 ·split
  ·exact .inl rfl
  ·exact .inr (.inl rfl)
 ·exact .inr (.inr rfl)
theorem z31 (f:Flash) (cs:List Change) (h1:-1≤f.fuel) (h2:f.fuel≤100000):-1≤(doCh f cs).1.fuel∧(doCh f cs).1.fuel≤100000:=by
 unfold doCh
 split
 ·exact ⟨h1,h2⟩
 ·split
  ·simp only; omega
  ·simp only; omega
theorem z5u {w:Int} (h:okWord w=true):0≤w∧w≤65535:=by
 simpa only [okWord,Bool.and_eq_true,decide_eq_true_eq] using h
theorem zh5 {ws:List Int} {b:Nat} (h:sealedAt ws b=true):1≤ws.getD b 0∧ws.getD b 0≤40∧1≤ws.getD (b+1) 0∧ws.getD (b+1) 0≤60∧ws.getD (b+2) 0=65535-ws.getD b 0∧ws.getD (b+3) 0=65535-ws.getD (b+1) 0:=by
 simp only [sealedAt,okHead,Bool.and_eq_true,decide_eq_true_eq] at h; omega
end Vm
end Go.Proofs.YtlbppjmekiemiacGreatDoor

namespace Go.Proofs.YtlbppjmekiemiacGreatDoor
namespace Vm

def within (a b:Int) (cs:List Change):Bool:=cs.all fun c=>decide (a≤c.at_) && decide (c.at_<b)
theorem z2m {a b:Int} {xs ys:List Change} (h1:within a b xs=true) (h2:within a b ys=true):within a b (xs++ys)=true:=by
 unfold within at *; rw [List.all_append,h1,h2]; rfl
theorem z57 {a b:Int} {xs:List Change} (h:within a b xs=true) (k:Nat):within a b (xs.take k)=true :=
 List.all_eq_true.2 fun c hc=>List.all_eq_true.1 h c (List.mem_of_mem_take hc)
theorem z2r (a b:Int):∀ (n:Nat) (p:Int),a≤p→p+(n:Nat)≤b→within a b (wipeFrom p n)=true
 | 0,_,_,_=>rfl
 | n+1,p,h0,h1=>by
  have:=z2r a b n (p+1) (by omega) (by omega)
  unfold within at this ⊢
  simp only [wipeFrom,List.all_cons,this,Bool.and_true,Bool.and_eq_true,decide_eq_true_eq]
  omega
theorem z28 (a b:Int):∀ (l:List Int) (p:Int),a≤p→p+(l.length:Nat)≤b→within a b (z0c p l)=true
 | [],_,_,_=>rfl
 | w::l,p,h0,h1=>by
  simp only [List.length_cons] at h1
  have:=z28 a b l (p+1) (by omega) (by omega)
  unfold within at this ⊢
  simp only [z0c,List.all_cons,this,Bool.and_true,Bool.and_eq_true,decide_eq_true_eq]
  omega
theorem z26 {a b:Int} (h0:0≤a):∀ (cs:List Change) (ws:List Int),within a b cs=true→∀ i:Nat,(i:Int)<a∨b≤i→(z0a ws cs).getD i 0=ws.getD i 0
 | [],_,_,_,_=>rfl
 | c::cs,ws,h,i,hi=>by
  unfold within at h
  simp only [List.all_cons,Bool.and_eq_true,decide_eq_true_eq] at h
  rw [z3i,z26 h0 cs _ (by unfold within; simpa using h.2) i hi,z87,if_neg (by omega)]
theorem zhp {a b:Int} (h0:0≤a) (f:Flash) (cs:List Change) (h:within a b cs=true) (i:Nat) (hi:(i:Int)<a∨b≤i):(doCh f cs).1.words.getD i 0=f.words.getD i 0:=by
 unfold doCh
 split
 ·exact z26 h0 _ _ h i hi
 ·split
  ·exact z26 h0 _ _ h i hi
  ·exact z26 h0 _ _ (z57 h _) i hi
theorem zfi {xs ws:List Int} (c d:Nat) (hl:xs.length=ws.length) (h:∀ i,c≤i→i<d→xs.getD i 0=ws.getD i 0):slc xs c d=slc ws c d:=by
 refine z6p (by simp [slc,hl]) fun i hi=>?_
 have hi:c+i<d:=by simp [slc] at hi; omega
 rw [z37 _ _ _ _ hi,z37 _ _ _ _ hi]
 exact h _ (by omega) hi
theorem zei (f:Flash) (s:Int):z0g f s=0∨z0g f s=3∨z0g f s=4∨z0g f s=5:=by
 have:=z7w f
 unfold z0g
 split
 ·split
  ·split
   ·exact .inl rfl
   ·exact .inr (.inr (.inr rfl))
  ·exact .inr (.inr (.inl rfl))
 ·omega
theorem z4y {f:Flash} {s:Int} (h:¬ z0g f s=0):¬ (z0g f s=0∨z0g f s=7):=by
 have:=zei f s
 omega
theorem zjs {f:Flash} {s:Int} (h:(clearS f s).2=0∨(clearS f s).2=7):z0g f s=0∧clearS f s=power (doCh f (clearCh s)):=by
 unfold clearS at h ⊢
 by_cases c:z0g f s=0
 ·rw [if_pos c]; exact ⟨c,rfl⟩
 ·rw [if_neg c] at h
  exact absurd h (z4y c)
theorem sealS_out {f:Flash} {s n m:Int} (h:(sealS f s n m).2=0∨(sealS f s n m).2=7):z0g f s=0∧okHead n m=true∧sealS f s n m=programF f (64+64*s) (headOf n m):=by
 unfold sealS at h ⊢
 by_cases c:z0g f s=0
 ·rw [if_pos c] at h ⊢
  by_cases c2:okHead n m=true
  ·rw [if_pos c2]; exact ⟨c,c2,rfl⟩
  ·rw [if_neg c2] at h; simp at h
 ·rw [if_neg c] at h
  exact absurd h (z4y c)
theorem fillS_out {f:Flash} {s a:Int} {l:List Int} (h:(fillS f s a l).2=0∨(fillS f s a l).2=7):z0g f s=0∧(0≤a∧a≤40∧(l.length:Int)≤40-a)∧fillS f s a l=programF f (68+64*s+a) l:=by
 unfold fillS at h ⊢
 by_cases c:z0g f s=0
 ·rw [if_pos c] at h ⊢
  by_cases c2:0≤a∧a≤40∧(l.length:Int)≤40-a
  ·rw [if_pos c2]; exact ⟨c,c2,rfl⟩
  ·rw [if_neg c2] at h; simp at h
 ·rw [if_neg c] at h
  exact absurd h (z4y c)
theorem z9k {f:Flash} {a:Int} {l:List Int} (h:(programF f a l).2=0∨(programF f a l).2=7):programF f a l=power (doCh f (z0c a l)):=by
 obtain ⟨h1,h2,h3,h4,h5,h6,h7⟩:=z5p h
 exact z72 h1 h2 h3 h4 h5 h6 h7
theorem z6a (t:Nat):beginS (t:Int)=64+64*t:=by unfold beginS; omega
theorem zh3 {xs ws:List Int} {t:Nat} (hl:xs.length=ws.length) (h:∀ i,64+64*t≤i→i<128+64*t→xs.getD i 0=ws.getD i 0) :
  sealedAt xs (beginS t)=sealedAt ws (beginS t)∧imageR xs t=imageR ws t:=by
 have e0:=h (64+64*t) (by omega) (by omega)
 have e1:=h (64+64*t+1) (by omega) (by omega)
 have e2:=h (64+64*t+2) (by omega) (by omega)
 have e3:=h (64+64*t+3) (by omega) (by omega)
 have es:sealedAt xs (beginS t)=sealedAt ws (beginS t):=by
  rw [z6a]; unfold sealedAt; rw [e0,e1,e2,e3]
 refine ⟨es,?_⟩
 unfold imageR
 rw [es]
 cases c:sealedAt ws (beginS t)
 ·rfl
 ·have:=zh5 c
  rw [z6a] at this ⊢
  rw [e0,e1]
  simp only [if_true]
  congr 1
  exact zfi _ _ hl (fun i h1 h2=>h i (by omega) (by omega))
theorem zek {xs ws:List Int} {fx fw:Int} {t:Nat} (h1:z0g ⟨xs,fx⟩ t=0) (h2:z0g ⟨ws,fw⟩ t=0) (hl:xs.length=ws.length) (h:∀ i,64+64*t≤i→i<128+64*t→xs.getD i 0=ws.getD i 0) :
  z1l ⟨xs,fx⟩ t=z1l ⟨ws,fw⟩ t:=by
 obtain ⟨e1,e2⟩:=zh3 hl h
 unfold z1l
 rw [if_pos h1,if_pos h2,e1,e2]
theorem z3m {ws:List Int} {fu:Int} {t:Nat} (h1:ws.length=192) (h2:-1≤fu) (h3:fu≤100000) (h4:z04 ws=true) (ht:t≤1):z0g ⟨ws,fu⟩ t=0:=by
 unfold z0g
 rw [if_pos (z52 (by simp only; rw [h1]; rfl) h2 h3 h4),if_pos h1,if_pos (by omega)]
theorem clear_at {ws:List Int} {t:Nat} (hl:ws.length=192) (ht:t≤1) (hw:z04 ws=true) :
  z04 (z0a ws (clearCh t))=true∧(∀ i,64+64*t≤i→i<128+64*t→(z0a ws (clearCh t)).getD i 0=65535)∧∀ i,i<64+64*t∨128+64*t≤i→(z0a ws (clearCh t)).getD i 0=ws.getD i 0:=by
 have e:z0a ws (clearCh t)=z0a (z0a ws (wipeCh (2+2*(t:Int)))) (wipeCh (3+2*(t:Int))):=z1x _ _ _
 have l1:(z0a ws (wipeCh (2+2*(t:Int)))).length=192:=(z1n _ _).trans hl
 refine ⟨?_,fun i h1 h2=>?_,fun i hi=>?_⟩
 ·rw [e]
  exact wipe_ok (by omega) (by omega) (wipe_ok (by omega) (by omega) hw)
 ·rw [e]
  unfold wipeCh at l1 ⊢
  rw [zb9 _ _ _ (by omega) (by omega)]
  split
  ·rfl
  ·rw [zb9 _ _ _ (by omega) (by omega),if_pos (by omega)]
 ·refine z26 (a:=64+64*(t:Int)) (b:=128+64*(t:Int)) (by omega) _ _ ?_ i (by omega)
  unfold clearCh wipeCh
  exact z2m (z2r _ _ _ _ (by omega) (by omega)) (z2r _ _ _ _ (by omega) (by omega))
end Vm
end Go.Proofs.YtlbppjmekiemiacGreatDoor

namespace Go.Proofs.YtlbppjmekiemiacGreatDoor
namespace Vm

def checkRec (r:List Int):Int:=if 1≤r.length∧r.length≤4 then (if z04 r then 0 else 3) else 2
def recW (r:List Int):List Int:=(42240+(r.length:Int))::r
def headN (x:Int):Nat:=if 42241≤x∧x≤42244 then (x-42240).toNat else 0
def allClean (l:List Int):Bool:=l.all fun w=>decide (w=65535)
def scanL:Nat→List Int→List (List Int) × Option Nat
 | 0,_=>([],some 0)
 | _+1,[]=>([],some 0)
 | m+1,x::xs =>
  if x=65535 then ([],if allClean xs then some 0 else none)
  else if headN x=0 then ([],none)
  else if headN x≤xs.length then (xs.take (headN x)::(scanL m (xs.drop (headN x))).1,(scanL m (xs.drop (headN x))).2.map (·+headN x+1))
  else ([],none)
def sectorW (ws:List Int) (s:Nat):List Int:=slc ws (32*s) (32*s+32)
def scanS (ws:List Int) (s:Nat):List (List Int) × Option Nat:=scanL 32 ((sectorW ws s).drop 1)
def nextI (s:Nat):Option Nat→Int
 | some n=>32*s+1+n
 | none=>-1
def genOf (ws:List Int) (s:Nat):Int:=if ws.getD (32*s) 0=65535 then 0 else ws.getD (32*s) 0
def liveS (ws:List Int):Nat:=if genOf ws 0<genOf ws 1 then 1 else 0
def z0k (ws:List Int):Int:=genOf ws (liveS ws)
def liveOk (ws:List Int):Bool:=decide (0<z0k ws)
def z0d (f:Flash):Int :=
 if z0b f=0 then (if 64≤f.words.length then (if 0<z0k f.words∧z0k f.words≤60000 then 0 else 5) else 4) else z0b f
def formatCh:List Change:=wipeCh 1++wipeCh 0++z0c 0 [1]
def formatF (f:Flash):Flash × Int :=
 if z0b f=0 then (if 64≤f.words.length then power (doCh f formatCh) else (noFlash,4)) else (noFlash,z0b f)
def recsOf (ws:List Int):List (List Int):=(scanS ws (liveS ws)).1
def recordsF (f:Flash):List (List Int) × Int:=if z0d f=0 then (recsOf f.words,0) else ([],z0d f)
def allW (rs:List (List Int)):List Int:=rs.flatMap recW
def gather (n:Nat):List (List Int)→Int
 | []=>0
 | k::ks=>if checkRec k=0 then (if n+1+k.length≤31 then gather (n+1+k.length) ks else 8) else checkRec k
def room (n:Nat):Option Nat→Bool
 | some a=>decide (a+n≤30)
 | none=>false
def hereCh (s a:Nat) (r:List Int):List Change:=z0c ((32*s+1+a:Nat)+1:Int) r++z0c (32*s+1+a:Nat) [42240+(r.length:Int)]
def thereCh (o:Nat) (rs:List (List Int)) (g:Int):List Change:=wipeCh o++z0c (32*(o:Int)+1) (allW rs)++z0c (32*(o:Int)) [g]
def appendCh (ws r:List Int) (keep:List (List Int)):Option (List Change) :=
 if room r.length (scanS ws (liveS ws)).2 then some (hereCh (liveS ws) ((scanS ws (liveS ws)).2.getD 0) r)
 else if z0k ws=60000 then none
 else some (thereCh (1-liveS ws) (keep++[r]) (z0k ws+1))
def appendE (f:Flash) (r:List Int) (keep:List (List Int)):Int :=
 if z0d f=0 then (if checkRec r=0 then gather 0 (keep++[r]) else checkRec r) else z0d f
def z0u (f:Flash) (r:List Int) (keep:List (List Int)):Flash × Int :=
 if appendE f r keep=0 then
  (match appendCh f.words r keep with
  | some cs=>power (doCh f cs)
  | none=>(noFlash,8))
 else (noFlash,appendE f r keep)
def smR (l:List (List Int)):Bool:=l.all fun r=>decide (r.length≤140737488355328)
theorem ori_head {n:Int} (h0:0≤n) (h1:n≤255):ori 42240 n=42240+n:=by
 obtain ⟨m,rfl⟩:=Int.eq_ofNat_of_zero_le h0
 have e1:42240 ||| m=42240+m:=by
  exact (Nat.two_pow_add_eq_or_of_lt (b:=m) (i:=8) (by omega) 165).symm
 have e:(BitVec.ofInt 64 42240 ||| BitVec.ofInt 64 (m:Int)).toNat=42240+m:=by
  rw [BitVec.toNat_or]
  have a2:(BitVec.ofInt 64 (m:Int)).toNat=m:=by rw [BitVec.ofInt_natCast,BitVec.toNat_ofNat]; omega
  rw [a2,show (BitVec.ofInt 64 42240).toNat=42240 from rfl,e1]
 unfold ori
 rw [e,z0e (by omega) (by omega)]; omega
theorem xori_head {x:Int} (h:okWord x=true):0≤xori x 42240∧xori x 42240≤65535∧(xori x 42240<1∨4<xori x 42240→headN x=0)∧(1≤xori x 42240→xori x 42240≤4→xori x 42240=(headN x:Int)∧headN x≠0∧headN x≤4):=by
 obtain ⟨n,rfl,hn⟩:=z6c h
 have e:xori (n:Int) 42240=((n ^^^ 42240:Nat):Int):=by
  have e:(BitVec.ofInt 64 (n:Int) ^^^ BitVec.ofInt 64 42240).toNat=n ^^^ 42240:=by
   rw [BitVec.toNat_xor]
   have a2:(BitVec.ofInt 64 (n:Int)).toNat=n:=by rw [BitVec.ofInt_natCast,BitVec.toNat_ofNat]; omega
   rw [a2,show (BitVec.ofInt 64 42240).toNat=42240 from rfl]
  have hl:n ^^^ 42240<2 ^ 16:=Nat.xor_lt_two_pow (by omega) (by omega)
  unfold xori
  rw [e,z0e (by omega) (by omega)]
 have hl:n ^^^ 42240<2 ^ 16:=Nat.xor_lt_two_pow (by omega) (by omega)
 have back:n=(n ^^^ 42240) ^^^ 42240:=by rw [Nat.xor_assoc,Nat.xor_self,Nat.xor_zero]
 rw [e]
 obtain ⟨m,hm⟩:∃ m,n ^^^ 42240=m:=⟨_,rfl⟩
 rw [hm] at back hl ⊢
 refine ⟨by omega,by omega,fun h=>?_,fun h1 h2=>?_⟩
 ·unfold headN
  by_cases c:(42241:Int)≤n∧(n:Int)≤42244
  ·exfalso
   have:n=42241∨n=42242∨n=42243∨n=42244:=by omega
   rcases this with rfl | rfl | rfl | rfl
   ·rw [show (42241:Nat) ^^^ 42240=1 from by decide] at hm; omega
   ·rw [show (42242:Nat) ^^^ 42240=2 from by decide] at hm; omega
   ·rw [show (42243:Nat) ^^^ 42240=3 from by decide] at hm; omega
   ·rw [show (42244:Nat) ^^^ 42240=4 from by decide] at hm; omega
  ·rw [if_neg c]
 ·have:m=1∨m=2∨m=3∨m=4:=by omega
  rcases this with rfl | rfl | rfl | rfl
  ·rw [show (1:Nat) ^^^ 42240=42241 from by decide] at back; subst back; decide
  ·rw [show (2:Nat) ^^^ 42240=42242 from by decide] at back; subst back; decide
  ·rw [show (3:Nat) ^^^ 42240=42243 from by decide] at back; subst back; decide
  ·rw [show (4:Nat) ^^^ 42240=42244 from by decide] at back; subst back; decide
theorem zd8 {ws:List Int} (h:z04 ws=true) (i:Nat):0≤ws.getD i 0∧ws.getD i 0≤65535:=by
 by_cases c:i<ws.length
 ·exact z5u (z21 h i c)
 ·simp [List.getD_eq_getElem?_getD,List.getElem?_eq_none (Nat.le_of_not_lt c)]
theorem z5c {ws:List Int} (h:z04 ws=true) (s:Nat):0≤genOf ws s∧genOf ws s<65535:=by
 have:=zd8 h (32*s)
 unfold genOf
 split<;>omega
theorem z6l (ws:List Int):liveS ws≤1:=by unfold liveS; split<;>omega
theorem z1w {f:Flash} (h:z0d f=0):z0b f=0∧64≤f.words.length∧0<z0k f.words∧z0k f.words≤60000:=by
 unfold z0d at h
 split at h
 ·rename_i h1
  split at h
  ·rename_i h2
   split at h
   ·rename_i h3; exact ⟨h1,h2,h3⟩
   ·cases h
  ·cases h
 ·exact absurd h ‹_›
theorem slc_ok {l:List Int} (h:z04 l=true) (a b:Nat):z04 (slc l a b)=true:=ze9 (zgb h b) a
theorem zho:∀ (m:Nat) (l:List Int) (a:Nat),(scanL m l).2=some a→a≤l.length
 | 0,_,a,h=>by simp only [scanL,Option.some.injEq] at h; omega
 | _+1,[],a,h=>by simp only [scanL,Option.some.injEq] at h; omega
 | m+1,x::xs,a,h=>by
  simp only [scanL] at h
  split at h
  ·simp only at h
   split at h
   ·cases h; omega
   ·cases h
  ·split at h
   ·cases h
   ·split at h
    ·rename_i h1 h2 h3
     simp only [Option.map] at h
     split at h
     ·rename_i b hb
      have:=zho m _ b hb
      simp only [List.length_drop] at this
      cases h
      simp only [List.length_cons]; omega
     ·cases h
    ·cases h
theorem scanS_le {ws:List Int} {s a:Nat} (hl:32*s+32≤ws.length) (h:(scanS ws s).2=some a):a≤31:=by
 have:=zho _ _ _ h
 rw [List.length_drop,sectorW,z41 _ _ _ hl] at this
 omega
theorem z6m (r:List Int):(recW r).length=r.length+1:=rfl
theorem zf8 (rs:List (List Int)) (r:List Int):allW (rs++[r])=allW rs++recW r:=by simp [allW]
theorem z1r {r:List Int} (h:checkRec r=0):1≤r.length∧r.length≤4∧z04 r=true:=by
 unfold checkRec at h
 split at h
 ·rename_i h1
  split at h
  ·rename_i h2; exact ⟨h1.1,h1.2,h2⟩
  ·cases h
 ·cases h
end Vm
end Go.Proofs.YtlbppjmekiemiacGreatDoor

namespace Go.Proofs.YtlbppjmekiemiacGreatDoor
namespace Vm

def chOk (c:Change):Bool:=match c.word with | none=>true | some w=>okWord w
theorem z90:∀ (cs:List Change) (ws:List Int),z04 ws=true→cs.all chOk=true→z04 (z0a ws cs)=true
 | [],_,h,_=>h
 | c::cs,ws,h,hc=>by
  simp only [List.all_cons,Bool.and_eq_true] at hc
  rw [z3i]
  refine z90 cs _ (z8v fun i hi=>?_) hc.2
  rw [z87]
  split
  ·have hg:=zd8 h c.at_.toNat
   unfold chOk at hc
   unfold fnwApp
   split
   ·rfl
   ·rename_i w hw
    rw [hw] at hc
    exact zan (by simp only [okWord,Bool.and_eq_true,decide_eq_true_eq]; exact hg) hc.1
  ·exact z21 h i (by simpa using hi)
theorem zar (a:Int):∀ n,(wipeFrom a n).all chOk=true:=by
 intro n
 induction n generalizing a with
 | zero=>rfl
 | succ n ih=>simp [wipeFrom,ih,chOk]
theorem z3w:∀ (l:List Int) (a:Int),z04 l=true→(z0c a l).all chOk=true
 | [],_,_=>rfl
 | w::l,a,h=>by
  unfold z04 at h
  simp only [List.all_cons,Bool.and_eq_true] at h
  simp only [z0c,List.all_cons,Bool.and_eq_true]
  exact ⟨h.1,z3w l _ h.2⟩
theorem zj9 {α:Type} {p:α→Bool} {l:List α} (h:l.all p=true) (k:Nat):(l.take k).all p=true:=List.all_eq_true.2 fun x hx=>List.all_eq_true.1 h x (List.mem_of_mem_take hx)
theorem zc1 (f:Flash) (cs:List Change):∃ k,k≤cs.length∧(doCh f cs).1.words=z0a f.words (cs.take k)∧((doCh f cs).2=true→k=cs.length):=by
 unfold doCh
 split
 ·exact ⟨cs.length,Nat.le_refl _,by simp,fun _=>rfl⟩
 ·split
  ·exact ⟨cs.length,Nat.le_refl _,by simp,fun _=>rfl⟩
  ·rename_i h1 h2
   exact ⟨f.fuel.toNat,by omega,rfl,fun h=>by simp at h⟩

/- scanning -/
theorem zcj:∀ (m m2:Nat) (l:List Int),l.length≤m→l.length≤m2→scanL m l=scanL m2 l
 | 0,0,_,_,_=>rfl
 | 0,_+1,[],_,_=>rfl
 | 0,_+1,_::_,h,_=>by simp at h
 | _+1,0,[],_,_=>rfl
 | _+1,0,_::_,_,h=>by simp at h
 | _+1,_+1,[],_,_=>rfl
 | m+1,m2+1,x::xs,h,h2=>by
  simp only [List.length_cons] at h h2
  have:=zcj m m2 (xs.drop (headN x)) (by simp only [List.length_drop]; omega) (by simp only [List.length_drop]; omega)
  simp only [scanL,this]
theorem zjn {m:Nat} {l:List Int} (h:(scanL m l).2=some 0) (hm:l.length≤m):(scanL m l).1=[]∧allClean l=true:=by
 match m,l,hm with
 | 0,[],_=>exact ⟨rfl,rfl⟩
 | _+1,[],_=>exact ⟨rfl,rfl⟩
 | m+1,x::xs,hm =>
  simp only [scanL] at h ⊢
  by_cases c:x=65535
  ·rw [if_pos c] at h ⊢
   refine ⟨rfl,?_⟩
   simp only at h
   unfold allClean at h ⊢
   simp only [List.all_cons,c,decide_true,Bool.true_and]
   cases hx:xs.all fun w=>decide (w=65535)
   ·rw [hx] at h; simp at h
   ·rfl
  ·rw [if_neg c] at h
   split at h
   ·cases h
   ·split at h
    ·simp only [Option.map] at h
     split at h
     ·simp at h
     ·cases h
    ·cases h
theorem zgg:∀ (m:Nat) (pre t t':List Int),(scanL m (pre++t)).2=some pre.length→(pre++t).length≤m→(pre++t').length≤m →
  scanL m (pre++t')=((scanL m (pre++t)).1++(scanL m t').1,(scanL m t').2.map (·+pre.length))∧allClean t=true
 | m,[],t,t',h,hm,hm'=>by
  obtain ⟨h1,h2⟩:=zjn h hm
  simp only [List.nil_append] at h1 h2 ⊢
  rw [h1]
  refine ⟨?_,h2⟩
  rw [List.nil_append,List.length_nil]
  cases hc:scanL m t' with
  | mk a b=>cases b<;>rfl
 | 0,x::pre,t,t',h,hm,_=>by simp at hm
 | m+1,x::pre,t,t',h,hm,hm'=>by
  simp only [List.cons_append,List.length_cons,List.length_append] at h hm hm'
  simp only [scanL] at h
  have hx:x≠65535:=fun c=>by
   rw [if_pos c] at h
   simp only at h
   split at h<;>simp at h
  rw [if_neg hx] at h
  have hn:headN x≠0:=fun c=>by rw [if_pos c] at h; simp at h
  rw [if_neg hn] at h
  have hl:headN x≤(pre++t).length:=by
   by_cases c:headN x≤(pre++t).length
   ·exact c
   ·rw [if_neg c] at h; simp at h
  rw [if_pos hl] at h
  simp only [Option.map] at h
  split at h
  ·rename_i b hb
   simp only [Option.some.injEq] at h
   obtain ⟨n,hnn⟩:∃ n,headN x=n:=⟨_,rfl⟩
   rw [hnn] at h hb hl hn
   have hpl:n≤pre.length:=by omega
   have d1:∀ u,(pre++u).drop n=pre.drop n++u:=fun u=>List.drop_append_of_le_length hpl
   have t1:∀ u,(pre++u).take n=pre.take n:=fun u=>List.take_append_of_le_length hpl
   rw [d1] at hb
   have ih:=zgg m (pre.drop n) t t' (by rw [hb]; simp; omega) (by simp; omega) (by simp; omega)
   refine ⟨?_,ih.2⟩
   have ef:scanL (m+1) t'=scanL m t':=zcj _ _ _ (by omega) (by omega)
   rw [ef]
   simp only [List.cons_append,scanL,if_neg hx,hnn,if_neg hn,d1,t1]
   rw [if_pos (by simp; omega),if_pos (by simp; omega),ih.1]
   simp only [List.cons_append]
   congr 1
   cases (scanL m t').2 with
   | none=>rfl
   | some c=>simp only [Option.map,List.length_drop,List.length_cons,Option.some.injEq]; omega
  ·cases h
theorem z91:∀ (rs:List (List Int)) (m:Nat) (t:List Int),(∀ k∈rs,1≤k.length∧k.length≤4)→(allW rs++t).length≤m→allClean t=true →
  scanL m (allW rs++t)=(rs,some (allW rs).length)
 | [],m,t,_,hm,ht=>by
  simp only [allW,List.flatMap_nil,List.nil_append,List.length_nil] at hm ⊢
  match m,t,hm with
  | 0,[],_=>rfl
  | _+1,[],_=>rfl
  | m+1,x::xs,_ =>
   unfold allClean at ht
   simp only [List.all_cons,Bool.and_eq_true,decide_eq_true_eq] at ht
   simp only [scanL]
   rw [if_pos ht.1,if_pos (by unfold allClean; exact ht.2)]
 | k::rs,m,t,hr,hm,ht=>by
  have hk:=hr k (by simp)
  have e:allW (k::rs)++t=(42240+(k.length:Int))::(k++(allW rs++t)):=by simp [allW,recW]
  have el:(allW (k::rs)).length=k.length+1+(allW rs).length:=by simp [allW,recW]; omega
  rw [e] at hm ⊢
  simp only [List.length_cons,List.length_append] at hm
  match m,hm with
  | m+1,hm =>
   have hh:headN (42240+(k.length:Int))=k.length:=by
    unfold headN
    rw [if_pos (by omega)]; omega
   simp only [scanL]
   rw [if_neg (by omega),hh,if_neg (by omega),if_pos (by simp),List.take_left,List.drop_left]
   rw [z91 rs m t (fun k hk=>hr k (by simp [hk])) (by simp; omega) ht,el]
   simp only [Option.map,Prod.mk.injEq,Option.some.injEq,true_and]
   omega
theorem zbd:∀ (m:Nat) (l:List Int),(∀ r∈(scanL m l).1,r.length≤4)∧(scanL m l).1.length≤l.length
 | 0,_=>by simp [scanL]
 | _+1,[]=>by simp [scanL]
 | m+1,x::xs=>by
  obtain ⟨h1,h2⟩:=zbd m (xs.drop (headN x))
  have h4:headN x≤4:=by unfold headN; split<;>omega
  simp only [scanL]
  split
  ·simp
  ·split
   ·simp
   ·split
    ·refine ⟨fun r hr=>?_,?_⟩
     ·rcases List.mem_cons.1 hr with rfl | hr
      ·rw [List.length_take]; omega
      ·exact h1 r hr
     ·simp only [List.length_drop] at h2
      simp only [List.length_cons]; omega
    ·simp
theorem zed (ws:List Int):(∀ r∈recsOf ws,r.length≤4)∧(recsOf ws).length≤32:=by
 unfold recsOf scanS
 obtain ⟨h1,h2⟩:=zbd 32 ((sectorW ws (liveS ws)).drop 1)
 refine ⟨h1,Nat.le_trans h2 ?_⟩
 unfold sectorW slc
 simp; omega
/- what the log looks at -/
theorem z43 {xs ws:List Int} {s:Nat} (h:xs.getD (32*s) 0=ws.getD (32*s) 0):genOf xs s=genOf ws s:=by unfold genOf; rw [h]
theorem zac {xs ws:List Int} {s:Nat} (hl:xs.length=ws.length) (h:∀ i,32*s≤i→i<32*s+32→xs.getD i 0=ws.getD i 0):scanS xs s=scanS ws s:=by
 unfold scanS sectorW
 rw [zfi _ _ hl h]
theorem zbz {xs ws:List Int} (hl:xs.length=ws.length) (h:∀ i,i<64→xs.getD i 0=ws.getD i 0):liveS xs=liveS ws∧z0k xs=z0k ws∧recsOf xs=recsOf ws:=by
 have e0:genOf xs 0=genOf ws 0:=z43 (h 0 (by omega))
 have e1:genOf xs 1=genOf ws 1:=z43 (h 32 (by omega))
 have es:liveS xs=liveS ws:=by unfold liveS; rw [e0,e1]
 have hs:=z6l ws
 refine ⟨es,?_,?_⟩
 ·unfold z0k; rw [es]
  have:liveS ws=0∨liveS ws=1:=by omega
  rcases this with h | h
  ·rw [h,e0]
  ·rw [h,e1]
 ·unfold recsOf; rw [es,zac hl (fun i h1 h2=>h i (by omega))]
theorem z75 {ws:List Int} {fu:Int} (h1:okLen ws.length=true) (h2:-1≤fu) (h3:fu≤100000) (h4:z04 ws=true) (h5:64≤ws.length) (h6:0<z0k ws) (h7:z0k ws≤60000):z0d ⟨ws,fu⟩=0:=by
 unfold z0d
 rw [if_pos (z52 h1 h2 h3 h4),if_pos h5,if_pos ⟨h6,h7⟩]
theorem zh0 (f:Flash):z0d f=0∨z0d f=3∨z0d f=4∨z0d f=5:=by
 have:=z7w f
 unfold z0d
 split
 ·split
  ·split
   ·exact .inl rfl
   ·exact .inr (.inr (.inr rfl))
  ·exact .inr (.inr (.inl rfl))
 ·omega
theorem zfj:∀ (rs:List (List Int)) (n:Nat),n≤31→gather n rs=0→n+(allW rs).length≤31∧∀ k∈rs,checkRec k=0
 | [],n,hn,_=>by simp [allW]; omega
 | k::rs,n,hn,h=>by
  simp only [gather] at h
  by_cases c:checkRec k=0
  ·rw [if_pos c] at h
   by_cases c2:n+1+k.length≤31
   ·rw [if_pos c2] at h
    obtain ⟨h1,h2⟩:=zfj rs _ c2 h
    have el:(allW (k::rs)).length=k.length+1+(allW rs).length:=by simp [allW,recW]; omega
    refine ⟨by omega,fun r hr=>?_⟩
    rcases List.mem_cons.1 hr with rfl | hr
    ·exact c
    ·exact h2 r hr
   ·rw [if_neg c2] at h; cases h
  ·rw [if_neg c] at h; exact absurd h c
theorem allW_ok {rs:List (List Int)} (h:∀ k∈rs,checkRec k=0):z04 (allW rs)=true:=by
 unfold z04 allW
 rw [List.all_flatMap]
 refine List.all_eq_true.2 fun k hk=>?_
 obtain ⟨h1,h2,h3⟩:=z1r (h k hk)
 unfold recW
 rw [List.all_cons]
 unfold z04 at h3
 rw [h3]
 simp only [okWord,Bool.and_true,Bool.and_eq_true,decide_eq_true_eq]; omega
end Vm
end Go.Proofs.YtlbppjmekiemiacGreatDoor

namespace Go.Proofs.YtlbppjmekiemiacGreatDoor
namespace Vm

def tailS (ws:List Int) (s:Nat):List Int:=(sectorW ws s).drop 1
theorem za9 {ws:List Int} {s:Nat} (h:32*s+32≤ws.length):(tailS ws s).length=31:=by
 unfold tailS sectorW
 rw [List.length_drop,z41 _ _ _ h]
theorem z44 (l:List Int) (a i:Nat):(l.drop a).getD i 0=l.getD (a+i) 0:=by simp [List.getD_eq_getElem?_getD,List.getElem?_drop]
theorem z6g (ws:List Int) (s i:Nat) (hi:i<31):(tailS ws s).getD i 0=ws.getD (32*s+1+i) 0:=by
 unfold tailS sectorW
 rw [z44,z37 _ _ _ _ (by omega)]
 congr 1; omega
theorem zk3 {l:List Int} (h:allClean l=true) (i:Nat) (hi:i<l.length):l.getD i 0=65535:=by
 have:=List.all_eq_true.1 h (l[i]) (List.getElem_mem hi)
 simpa [List.getD_eq_getElem?_getD,hi] using this
theorem zj2 {l:List Int} (h:∀ i,i<l.length→l.getD i 0=65535):allClean l=true:=by
 refine List.all_eq_true.2 fun w hw=>?_
 obtain ⟨i,hi,rfl⟩:=List.getElem_of_mem hw
 simpa [List.getD_eq_getElem?_getD,hi] using h i hi
theorem zak (a b:List Int) (i:Nat):(a++b).getD i 0=if i<a.length then a.getD i 0 else b.getD (i-a.length) 0:=by
 simp only [List.getD_eq_getElem?_getD,List.getElem?_append]
 split<;>rfl
theorem live_same {g ws:List Int} (h0:genOf g 0=genOf ws 0) (h1:genOf g 1=genOf ws 1):liveS g=liveS ws∧z0k g=z0k ws:=by
 have es:liveS g=liveS ws:=by unfold liveS; rw [h0,h1]
 have hs:=z6l ws
 refine ⟨es,?_⟩
 unfold z0k; rw [es]
 have:liveS ws=0∨liveS ws=1:=by omega
 rcases this with h | h
 ·rw [h,h0]
 ·rw [h,h1]
theorem zef {ws r:List Int} {a:Nat} (hl:64≤ws.length) (hr1:1≤r.length) (hr2:r.length≤4) (hro:z04 r=true) (hsc:(scanS ws (liveS ws)).2=some a) (ha:a+r.length≤30) (k:Nat) (hk:k≤r.length+1) :
  within 1 64 (hereCh (liveS ws) a r)=true∧z0k (z0a ws ((hereCh (liveS ws) a r).take k))=z0k ws ∧
  (k≤r.length→recsOf (z0a ws ((hereCh (liveS ws) a r).take k))=recsOf ws)∧(k=r.length+1→recsOf (z0a ws ((hereCh (liveS ws) a r).take k))=recsOf ws++[r]):=by
 have hs:=z6l ws
 unfold recsOf
 obtain ⟨s,hss⟩:∃ s,liveS ws=s:=⟨_,rfl⟩
 rw [hss] at hsc hs ⊢
 have hl2:32*s+32≤ws.length:=by omega
 obtain ⟨p,hp⟩:∃ p,32*s+1+a=p:=⟨_,rfl⟩
 have hch:hereCh s a r=z0c ((p:Int)+1) r++z0c (p:Int) [42240+(r.length:Int)]:=by unfold hereCh; rw [hp]
 have hw:within (p:Nat) ((32*s+32:Nat):Int) (hereCh s a r)=true:=by
  rw [hch]
  exact z2m (z28 _ _ _ _ (by omega) (by omega)) (z28 _ _ _ _ (by omega) (by simp only [List.length_cons,List.length_nil]; omega))
 obtain ⟨g,hg⟩:∃ g,z0a ws ((hereCh s a r).take k)=g:=⟨_,rfl⟩
 have gl:g.length=ws.length:=hg ▸ z1n _ _
 have gout:∀ i,i<p∨32*s+32≤i→g.getD i 0=ws.getD i 0:=fun i hi=>by
  rw [← hg]; exact z26 (by omega) _ _ (z57 hw k) i (by omega)
 have g0:genOf g 0=genOf ws 0:=z43 (gout _ (by omega))
 have g1:genOf g 1=genOf ws 1:=z43 (gout _ (by omega))
 obtain ⟨e1,e2⟩:=live_same g0 g1
 rw [hg,e1,hss]
 refine ⟨?_,e2,?_⟩
 ·unfold within at hw ⊢
  refine List.all_eq_true.2 fun c hc=>?_
  have:=List.all_eq_true.1 hw c hc
  simp only [Bool.and_eq_true,decide_eq_true_eq] at this ⊢
  omega
 have tl:=za9 hl2
 have tlg:=za9 (ws:=g) (s:=s) (by omega)
 have td:∀ i,i<31→(tailS g s).getD i 0=g.getD (32*s+1+i) 0:=z6g g s
 have pl:((tailS ws s).take a).length=a:=by rw [List.length_take]; omega
 have sp:=zgg 32 ((tailS ws s).take a) ((tailS ws s).drop a) ((tailS g s).drop a) (by rw [List.take_append_drop,pl]; exact hsc) (by simp; omega) (by simp; omega)
 have epre:(tailS g s).take a=(tailS ws s).take a:=by
  refine z6p (by simp; omega) fun i hi=>?_
  have hi:i<a:=by simp at hi; omega
  have e:∀ l:List Int,(l.take a).getD i 0=l.getD i 0:=fun l=>by simp only [List.getD_eq_getElem?_getD]; rw [List.getElem?_take_of_lt hi]
  rw [e,e,td i (by omega),z6g ws s i (by omega),gout _ (by omega)]
 have hscg:scanS g s=scanL 32 ((tailS ws s).take a++(tailS g s).drop a):=by
  rw [← epre,List.take_append_drop]; rfl
 have hscw:(scanS ws s).1=(scanL 32 ((tailS ws s).take a++(tailS ws s).drop a)).1:=by rw [List.take_append_drop]; rfl
 have clean:=sp.2
 have wclean:∀ i,p≤i→i<32*s+32→ws.getD i 0=65535:=fun i h1 h2=>by
  have:=zk3 clean (i-p) (by simp; omega)
  rw [z44,z6g _ _ _ (by omega)] at this
  rw [show 32*s+1+(a+(i-p))=i by omega] at this
  exact this
 rw [hscg,sp.1,← hscw]
 refine ⟨fun hk1=>?_,fun hk1=>?_⟩
 ·have eg:g=z0a ws (z0c ((p:Int)+1) (r.take k)):=by
   rw [← hg,hch,List.take_append_of_le_length (by rw [z2c]; exact hk1),zb0]
  have hx:((tailS g s).drop a)=65535::(tailS g s).drop (a+1):=by
   rw [z0q (by omega) 0]
   congr 1
   show (tailS g s).getD a 0=_
   rw [td a (by omega),eg,z26 (a:=(p:Int)+1) (b:=200) (by omega) _ _ (z28 _ _ _ _ (by omega) (by rw [List.length_take]; omega)) _ (by omega)]
   exact wclean _ (by omega) (by omega)
  rw [hx]
  simp [scanL]
 ·have eg:g=z0a (z0a ws (z0c ((p:Int)+1) r)) (z0c (p:Int) [42240+(r.length:Int)]):=by
   rw [← hg,hch,List.take_of_length_le (by rw [List.length_append,z2c,z2c]; simp; omega),z1x]
  have b1:=z65 r ((p:Int)+1) ws (by omega) (by omega)
  have b2:=z65 [42240+(r.length:Int)] (p:Int) (z0a ws (z0c ((p:Int)+1) r)) (by omega) (by rw [z1n]; simp only [List.length_cons,List.length_nil]; omega)
  simp only [List.length_cons,List.length_nil] at b2
  have hgd:∀ i,p≤i→i<32*s+32→g.getD i 0=if i=p then 42240+(r.length:Int) else if i<p+1+r.length then r.getD (i-(p+1)) 0 else 65535:=fun i h1 h2=>by
   rw [eg,b2]
   by_cases c:i=p
   ·rw [if_pos (by omega),if_pos c,b1,if_neg (by omega),wclean i h1 h2]
    rw [show i-Int.toNat (p:Int)=0 by omega,List.getD_cons_zero,z68 (by simp only [okWord,Bool.and_eq_true,decide_eq_true_eq]; omega)]
   ·rw [if_neg (by omega),if_neg c,b1]
    by_cases c2:i<p+1+r.length
    ·rw [if_pos (by omega),if_pos c2,wclean i h1 h2,show ((p:Int)+1).toNat=p+1 by omega,z68 (z21 hro _ (by omega))]
    ·rw [if_neg (by omega),if_neg c2,wclean i h1 h2]
  have hx:(tailS g s).drop a=allW [r]++(tailS g s).drop (a+1+r.length):=by
   have la:(allW [r]).length=r.length+1:=by simp [allW,recW]
   refine z6p (by simp [la]; omega) fun i hi=>?_
   have hi:a+i<31:=by simp at hi; omega
   rw [z44,td _ hi,zak,la]
   have e:allW [r]=(42240+(r.length:Int))::r:=by simp [allW,recW]
   by_cases c:i<r.length+1
   ·rw [if_pos c,hgd _ (by omega) (by omega),e]
    by_cases c2:i=0
    ·subst c2; rw [if_pos (by omega)]; rfl
    ·rw [if_neg (by omega),if_pos (by omega)]
     obtain ⟨j,rfl⟩:∃ j,i=j+1:=⟨i-1,by omega⟩
     rw [List.getD_cons_succ]; congr 1; omega
   ·rw [if_neg c,z44,td _ (by omega)]; congr 1; omega
  rw [hx,z91 [r] 32 _ (by simp; omega) (by rw [← hx]; simp; omega) (zj2 fun i hi=>by
   have hi:a+1+r.length+i<31:=by simp at hi; omega
   rw [z44,td _ hi,hgd _ (by omega) (by omega),if_neg (by omega),if_neg (by omega)])]
set_option maxHeartbeats 2000000 in
theorem zjr {ws:List Int} {rs:List (List Int)} (hl:64≤ws.length) (hok:z04 ws=true) (hg0:0<z0k ws) (hg1:z0k ws<60000) (hrs:∀ k∈rs,checkRec k=0) (hal:(allW rs).length≤31) (k:Nat) (hk:k≤33+(allW rs).length) :
  within 0 64 (thereCh (1-liveS ws) rs (z0k ws+1))=true∧0<z0k (z0a ws ((thereCh (1-liveS ws) rs (z0k ws+1)).take k))∧z0k (z0a ws ((thereCh (1-liveS ws) rs (z0k ws+1)).take k))≤z0k ws+1 ∧
  (k<33+(allW rs).length→recsOf (z0a ws ((thereCh (1-liveS ws) rs (z0k ws+1)).take k))=recsOf ws) ∧
  (k=33+(allW rs).length→recsOf (z0a ws ((thereCh (1-liveS ws) rs (z0k ws+1)).take k))=rs):=by
 have hs:=z6l ws
 have hgr:=z5c hok (liveS ws)
 have hgo:=z5c hok (1-liveS ws)
 have hlg:z0k ws=genOf ws (liveS ws):=rfl
 have hls:liveS ws=if genOf ws 0<genOf ws 1 then 1 else 0:=rfl
 unfold recsOf
 obtain ⟨s,hss⟩:∃ s,liveS ws=s:=⟨_,rfl⟩
 rw [hss] at hs hgr hgo hlg hls ⊢
 obtain ⟨gn,hgn⟩:∃ gn,z0k ws=gn:=⟨_,rfl⟩
 rw [hgn] at hg0 hg1 hlg ⊢
 obtain ⟨o,ho⟩:∃ o,1-s=o:=⟨_,rfl⟩
 rw [ho] at hgo ⊢
 have ho1:o≤1∧o+s=1:=by omega
 have hl2:32*o+32≤ws.length:=by omega
 have hch:thereCh o rs (gn+1)=(⟨32*(o:Int),none⟩::(wipeFrom (32*(o:Int)+1) 31++z0c (32*(o:Int)+1) (allW rs)))++z0c (32*(o:Int)) [gn+1]:=rfl
 have hmid:within (32*(o:Int)+1) (32*(o:Int)+32) (wipeFrom (32*(o:Int)+1) 31++z0c (32*(o:Int)+1) (allW rs))=true :=
  z2m (z2r _ _ _ _ (by omega) (by omega)) (z28 _ _ _ _ (by omega) (by omega))
 have hw:within (32*o:Nat) ((32*o+32:Nat):Int) (thereCh o rs (gn+1))=true:=by
  unfold thereCh wipeCh
  exact z2m (z2m (z2r _ _ _ _ (by omega) (by omega)) (z28 _ _ _ _ (by omega) (by omega))) (z28 _ _ _ _ (by omega) (by simp only [List.length_cons,List.length_nil]; omega))
 have lmid:(wipeFrom (32*(o:Int)+1) 31++z0c (32*(o:Int)+1) (allW rs)).length=31+(allW rs).length:=by rw [List.length_append,z9a,z2c]
 obtain ⟨mid,hmd⟩:∃ mid,wipeFrom (32*(o:Int)+1) 31++z0c (32*(o:Int)+1) (allW rs)=mid:=⟨_,rfl⟩
 obtain ⟨g,hg⟩:∃ g,z0a ws ((thereCh o rs (gn+1)).take k)=g:=⟨_,rfl⟩
 have gl:g.length=ws.length:=hg ▸ z1n _ _
 have gout:∀ i,i<32*o∨32*o+32≤i→g.getD i 0=ws.getD i 0:=fun i hi=>by
  rw [← hg]; exact z26 (by omega) _ _ (z57 hw k) i (by omega)
 have gs:genOf g s=genOf ws s:=z43 (gout _ (by omega))
 have sso:s=0∧o=1∨s=1∧o=0:=by omega
 rw [hg]
 have w64':within 0 64 (thereCh o rs (gn+1))=true:=by
  unfold within at hw ⊢
  refine List.all_eq_true.2 fun c hc=>?_
  have:=List.all_eq_true.1 hw c hc
  simp only [Bool.and_eq_true,decide_eq_true_eq] at this ⊢
  omega
 have part:k<33+(allW rs).length→genOf g o≤genOf ws o∧(genOf g o=genOf ws o∨genOf g o=0):=fun hk2=>by
  match k,hk2 with
  | 0,_ =>
   have:g=ws:=by rw [← hg]; rfl
   rw [this]; exact ⟨Int.le_refl _,.inl rfl⟩
  | k+1,hk2 =>
   have eg:g=z0a (ws.set (32*o) 65535) (mid.take k):=by
    rw [← hg,hch,hmd,List.take_append_of_le_length (by rw [List.length_cons,← hmd,lmid]; omega),List.take_succ_cons,z3i]
    rfl
   have e0:g.getD (32*o) 0=65535:=by
    rw [eg,z26 (a:=32*(o:Int)+1) (b:=32*(o:Int)+32) (by omega) _ _ (z57 (hmd ▸ hmid) k) _ (by omega),z87,if_pos ⟨rfl,by omega⟩]
   have:genOf g o=0:=by unfold genOf; rw [if_pos e0]
   rw [this]; exact ⟨hgo.1,.inr rfl⟩
 have whole:k=33+(allW rs).length→liveS g=o∧z0k g=gn+1∧(scanS g o).1=rs:=fun hk2=>by
  have eg:g=z0a (z0a (z0a ws (wipeFrom (32*(o:Int)) 32)) (z0c (32*(o:Int)+1) (allW rs))) (z0c (32*(o:Int)) [gn+1]):=by
   rw [← hg,List.take_of_length_le (by rw [hch,hmd,List.length_append,List.length_cons,← hmd,lmid,z2c]; simp; omega)]
   unfold thereCh wipeCh
   rw [z1x,z1x]
  have l1:(z0a ws (wipeFrom (32*(o:Int)) 32)).length=ws.length:=z1n _ _
  have l2:(z0a (z0a ws (wipeFrom (32*(o:Int)) 32)) (z0c (32*(o:Int)+1) (allW rs))).length=ws.length:=(z1n _ _).trans l1
  have b1:=zb9 32 (32*(o:Int)) ws (by omega) (by omega)
  have b2:=z65 (allW rs) (32*(o:Int)+1) (z0a ws (wipeFrom (32*(o:Int)) 32)) (by omega) (by omega)
  have b3:=z65 [gn+1] (32*(o:Int)) (z0a (z0a ws (wipeFrom (32*(o:Int)) 32)) (z0c (32*(o:Int)+1) (allW rs))) (by omega) (by simp only [List.length_cons,List.length_nil]; omega)
  simp only [List.length_cons,List.length_nil] at b3
  have aok:=allW_ok hrs
  have hgd:∀ i,32*o≤i→i<32*o+32→g.getD i 0=if i=32*o then gn+1 else if i<32*o+1+(allW rs).length then (allW rs).getD (i-(32*o+1)) 0 else 65535:=fun i h1 h2=>by
   rw [eg,b3]
   by_cases c:i=32*o
   ·rw [if_pos (by omega),if_pos c,b2,if_neg (by omega),b1,if_pos (by omega)]
    rw [show i-Int.toNat (32*(o:Int))=0 by omega,List.getD_cons_zero,z68 (by simp only [okWord,Bool.and_eq_true,decide_eq_true_eq]; omega)]
   ·rw [if_neg (by omega),if_neg c,b2]
    by_cases c2:i<32*o+1+(allW rs).length
    ·rw [if_pos (by omega),if_pos c2,b1,if_pos (by omega),show (32*(o:Int)+1).toNat=32*o+1 by omega,z68 (z21 aok _ (by omega))]
    ·rw [if_neg (by omega),if_neg c2,b1,if_pos (by omega)]
  have e0:genOf g o=gn+1:=by
   unfold genOf
   rw [hgd _ (by omega) (by omega),if_pos rfl,if_neg (by omega)]
  have es:liveS g=o:=by
   unfold liveS
   rcases sso with ⟨rfl,rfl⟩ | ⟨rfl,rfl⟩
   ·rw [if_pos (by omega)]
   ·rw [if_neg (by omega)]
  refine ⟨es,by unfold z0k; rw [es,e0],?_⟩
  have tlg:=za9 (ws:=g) (s:=o) (by omega)
  have td:∀ i,i<31→(tailS g o).getD i 0=g.getD (32*o+1+i) 0:=z6g g o
  have hx:tailS g o=allW rs++(tailS g o).drop (allW rs).length:=by
   refine z6p (by simp; omega) fun i hi=>?_
   rw [tlg] at hi
   rw [zak]
   by_cases c:i<(allW rs).length
   ·rw [if_pos c,td _ hi,hgd _ (by omega) (by omega),if_neg (by omega),if_pos (by omega),show 32*o+1+i-(32*o+1)=i by omega]
   ·rw [if_neg c,z44,show (allW rs).length+(i-(allW rs).length)=i by omega]
  show (scanL 32 (tailS g o)).1=rs
  rw [hx,z91 rs 32 _ (fun k hk=>⟨(z1r (hrs k hk)).1,(z1r (hrs k hk)).2.1⟩) (by rw [← hx]; omega) (zj2 fun i hi=>by
   have hi:(allW rs).length+i<31:=by simp at hi; omega
   rw [z44,td _ hi,hgd _ (by omega) (by omega),if_neg (by omega),if_neg (by omega)])]
 by_cases hk2:k=33+(allW rs).length
 ·obtain ⟨q1,q2,q3⟩:=whole hk2
  rw [q2,q1]
  exact ⟨w64',by omega,by omega,fun h=>absurd hk2 (by omega),fun _=>q3⟩
 ·obtain ⟨q1,q2⟩:=part (by omega)
  have es:liveS g=s∧z0k g=gn:=by
   have e:liveS g=s:=by
    unfold liveS
    rcases sso with ⟨rfl,rfl⟩ | ⟨rfl,rfl⟩
    ·rw [if_neg]
     by_cases c:genOf ws 0<genOf ws 1
     ·rw [if_pos c] at hls; omega
     ·omega
    ·rw [if_pos]
     by_cases c:genOf ws 0<genOf ws 1
     ·omega
     ·rw [if_neg c] at hls; omega
   refine ⟨e,by unfold z0k; rw [e,gs]; exact hlg.symm⟩
  rw [es.1,es.2]
  refine ⟨w64',by omega,by omega,fun _=>?_,fun h=>absurd h hk2⟩
  rw [zac gl (fun i h1 h2=>gout i (by omega))]
end Vm
end Go.Proofs.YtlbppjmekiemiacGreatDoor

namespace Go.Proofs.YtlbppjmekiemiacGreatDoor
namespace Vm

theorem zc9 {f:Flash} {r:List Int} {keep:List (List Int)} (h:appendE f r keep=0):z0d f=0∧checkRec r=0∧gather 0 (keep++[r])=0:=by
 unfold appendE at h
 split at h
 ·rename_i h1
  split at h
  ·rename_i h2; exact ⟨h1,h2,h⟩
  ·exact absurd h ‹_›
 ·exact absurd h ‹_›
theorem zg5:∀ (rs:List (List Int)) (n:Nat),gather n rs=0∨gather n rs=2∨gather n rs=3∨gather n rs=8
 | [],_=>.inl rfl
 | k::rs,n=>by
  simp only [gather]
  split
  ·split
   ·exact zg5 rs _
   ·exact .inr (.inr (.inr rfl))
  ·unfold checkRec
   split
   ·split
    ·exact .inl rfl
    ·exact .inr (.inr (.inl rfl))
   ·exact .inr (.inl rfl)
theorem zkg (f:Flash) (r:List Int) (keep:List (List Int)) (h:z0d f=0):appendE f r keep=0∨appendE f r keep=2∨appendE f r keep=3∨appendE f r keep=8:=by
 unfold appendE
 rw [if_pos h]
 by_cases c:checkRec r=0
 ·rw [if_pos c]; exact zg5 _ _
 ·rw [if_neg c]
  unfold checkRec at c ⊢
  split
  ·split
   ·exact .inl rfl
   ·exact .inr (.inr (.inl rfl))
  ·exact .inr (.inl rfl)
theorem zgo (f:Flash) (r:List Int) (keep:List (List Int)):appendE f r keep≠7:=by
 by_cases h:z0d f=0
 ·have:=zkg f r keep h; omega
 ·unfold appendE
  rw [if_neg h]
  have:=zh0 f; omega
theorem z5b {f:Flash} {r:List Int} {keep:List (List Int)} (h:(z0u f r keep).2=0∨(z0u f r keep).2=7) :
  ∃ cs,appendE f r keep=0∧appendCh f.words r keep=some cs∧z0u f r keep=power (doCh f cs):=by
 unfold z0u at h ⊢
 by_cases c:appendE f r keep=0
 ·rw [if_pos c] at h ⊢
  cases hc:appendCh f.words r keep with
  | none=>rw [hc] at h; simp at h
  | some cs=>exact ⟨cs,c,rfl,rfl⟩
 ·rw [if_neg c] at h
  have:=zgo f r keep
  simp only at h
  omega
theorem zez {f:Flash} {r:List Int} {keep:List (List Int)} {cs:List Change} (h:appendE f r keep=0) (hc:appendCh f.words r keep=some cs):z0u f r keep=power (doCh f cs):=by
 unfold z0u
 rw [if_pos h,hc]
theorem z7f {ws:List Int} {fu:Int} {r:List Int} {keep:List (List Int)} {cs:List Change} (hE:appendE ⟨ws,fu⟩ r keep=0) (hC:appendCh ws r keep=some cs) :
  2≤cs.length∧cs.length≤64∧cs.all chOk=true∧within 0 64 cs=true∧∀ k,k≤cs.length →
   0<z0k (z0a ws (cs.take k))∧(z0k (z0a ws (cs.take k))≤60000∧z0k (z0a ws (cs.take k))≤z0k ws+1)∧(k<cs.length→recsOf (z0a ws (cs.take k))=recsOf ws) ∧
   (k=cs.length→recsOf (z0a ws (cs.take k))=recsOf ws++[r]∨recsOf (z0a ws (cs.take k))=keep++[r]):=by
 obtain ⟨e1,e2,e3⟩:=zc9 hE
 obtain ⟨k1,k2,k3,k4⟩:=z1w e1
 obtain ⟨c1,_,_,c4⟩:=z10 k1
 obtain ⟨r1,r2,r3⟩:=z1r e2
 obtain ⟨g1,g2⟩:=zfj _ 0 (by omega) e3
 simp only at k2 k3 k4 c4
 unfold appendCh at hC
 by_cases hr:room r.length (scanS ws (liveS ws)).2=true
 ·rw [if_pos hr] at hC
  cases hsc:(scanS ws (liveS ws)).2 with
  | none=>rw [hsc] at hr; cases hr
  | some a =>
   rw [hsc] at hr hC
   simp only [room,decide_eq_true_eq] at hr
   simp only [Option.getD_some,Option.some.injEq] at hC
   have hl:cs.length=r.length+1:=by rw [← hC]; unfold hereCh; rw [List.length_append,z2c,z2c]; rfl
   refine ⟨by omega,by omega,?_,?_,fun k hk=>?_⟩
   ·rw [← hC]; unfold hereCh
    rw [List.all_append,z3w _ _ r3,z3w]
    ·rfl
    ·simp only [z04,okWord,List.all_cons,List.all_nil,Bool.and_true,Bool.and_eq_true,decide_eq_true_eq]; omega
   ·have:=(zef k2 r1 r2 r3 hsc hr 0 (by omega)).1
    rw [hC] at this
    unfold within at this ⊢
    refine List.all_eq_true.2 fun c hc=>?_
    have:=List.all_eq_true.1 this c hc
    simp only [Bool.and_eq_true,decide_eq_true_eq] at this ⊢
    omega
   ·obtain ⟨_,q2,q3,q4⟩:=zef k2 r1 r2 r3 hsc hr k (by omega)
    rw [hC] at q2 q3 q4
    exact ⟨by omega,⟨by omega,by omega⟩,fun h=>q3 (by omega),fun h=>.inl (q4 (by omega))⟩
 ·rw [if_neg hr] at hC
  by_cases hg:z0k ws=60000
  ·rw [if_pos hg] at hC; cases hC
  rw [if_neg hg] at hC
  simp only [Option.some.injEq] at hC
  have hl:cs.length=33+(allW (keep++[r])).length:=by rw [← hC]; unfold thereCh wipeCh; rw [List.length_append,List.length_append,z9a,z2c,z2c,List.length_singleton]; omega
  have key:=fun k hk=>zjr (rs:=keep++[r]) k2 c4 k3 (by omega) g2 (by omega) k hk
  rw [hC] at key
  have gr:=z5c c4 (liveS ws)
  have gg:z0k ws=genOf ws (liveS ws):=rfl
  refine ⟨by omega,by omega,?_,(key 0 (by omega)).1,fun k hk=>?_⟩
  ·rw [← hC]; unfold thereCh wipeCh
   rw [List.all_append,List.all_append,zar,z3w _ _ (allW_ok g2),z3w]
   ·rfl
   ·simp only [z04,okWord,List.all_cons,List.all_nil,Bool.and_true,Bool.and_eq_true,decide_eq_true_eq]; omega
  ·obtain ⟨_,q1,q2,q3,q4⟩:=key k (by omega)
   exact ⟨q1,⟨by omega,q2⟩,fun h=>q3 (by omega),fun h=>.inr (q4 (by omega))⟩
theorem zcw {ws:List Int} {fu:Int} {r:List Int} {keep:List (List Int)} {cs:List Change} (hE:appendE ⟨ws,fu⟩ r keep=0) (hC:appendCh ws r keep=some cs) {fv:Int} (hf1:-1≤fv) (hf2:fv≤100000) :
  z0d ⟨(doCh ⟨ws,fu⟩ cs).1.words,fv⟩=0∧(doCh ⟨ws,fu⟩ cs).1.words.length=ws.length∧(∀ i,64≤i→(doCh ⟨ws,fu⟩ cs).1.words.getD i 0=ws.getD i 0) ∧
  (recsOf (doCh ⟨ws,fu⟩ cs).1.words=recsOf ws++[r]∨recsOf (doCh ⟨ws,fu⟩ cs).1.words=keep++[r]∨((doCh ⟨ws,fu⟩ cs).2=false∧recsOf (doCh ⟨ws,fu⟩ cs).1.words=recsOf ws)):=by
 obtain ⟨e1,e2,e3⟩:=zc9 hE
 obtain ⟨k1,k2,k3,k4⟩:=z1w e1
 obtain ⟨c1,_,_,c4⟩:=z10 k1
 obtain ⟨q1,q2,q3,q4,q5⟩:=z7f hE hC
 have hl:=z4i ⟨ws,fu⟩ cs
 have ho:=fun i hi=>zhp (a:=0) (b:=64) (by omega) ⟨ws,fu⟩ cs q4 i hi
 obtain ⟨k,h1,h2,h3⟩:=zc1 ⟨ws,fu⟩ cs
 simp only at k2 c1 c4 hl ho h2
 obtain ⟨p1,p2,p3,p4⟩:=q5 k h1
 have hok:z04 (doCh ⟨ws,fu⟩ cs).1.words=true:=by rw [h2]; exact z90 _ _ c4 (zj9 q3 k)
 rw [← h2] at p1 p2 p3 p4
 refine ⟨z75 (by rw [hl]; exact c1) hf1 hf2 hok (by omega) p1 p2.1,hl,fun i hi=>ho i (by omega),?_⟩
 by_cases c:k=cs.length
 ·rcases p4 c with h | h
  ·exact .inl h
  ·exact .inr (.inl h)
 ·refine .inr (.inr ⟨?_,p3 (by omega)⟩)
  cases hd:(doCh ⟨ws,fu⟩ cs).2
  ·rfl
  ·exact absurd (h3 hd) c
theorem zb7 {f:Flash} (h:z0d f=0):recordsF f=(recsOf f.words,0):=by unfold recordsF; rw [if_pos h]
end Vm
end Go.Proofs.YtlbppjmekiemiacGreatDoor

namespace Go.Proofs.YtlbppjmekiemiacGreatDoor
namespace Vm

def digs:Nat→Nat→List UInt8
 | 0,_=>[]
 | f+1,u=>if u<10 then [UInt8.ofNat (48+u)] else digs f (u / 10)++[UInt8.ofNat (48+u % 10)]
def numT (n:Int):List UInt8:=digs 20 n.toNat
theorem digs_eq:∀ (f u:Nat),u<10 ^ f→0<f→Go.Lib.decDigits u=digs f u
 | 0,_,_,h=>absurd h (by omega)
 | f+1,u,hu,_=>by
  rw [Go.Lib.decDigits]
  by_cases c:u<10
  ·rw [dif_pos c]; simp [digs,c]
  ·rw [dif_neg c]
   have h1:u / 10<10 ^ f:=by
    rw [Nat.pow_succ] at hu
    exact Nat.div_lt_of_lt_mul (by omega)
   have h2:0<f:=by
    cases f with
    | zero=>simp at h1; omega
    | succ f=>omega
   rw [digs_eq f (u / 10) h1 h2]
   simp [digs,c]
theorem itoa_eq {n:Int} (h0:0≤n) (h1:n≤9223372036854775807):Go.Lib.itoa n=numT n:=by
 unfold Go.Lib.itoa numT
 rw [if_neg (by omega)]
 exact digs_eq 20 _ (by omega) (by omega)
def joinT (sep:List UInt8):List (List UInt8)→List UInt8
 | []=>[]
 | x::xs=>match xs with
  | []=>x
  | _::_=>x++sep++joinT sep xs
theorem join_eq (sep:List UInt8):∀ xs,Go.Lib.join xs sep=joinT sep xs
 | []=>rfl
 | [x]=>by simp [Go.Lib.join,List.intercalate,joinT]
 | x::y::xs=>by
  have:=join_eq sep (y::xs)
  simp only [Go.Lib.join,List.intercalate,joinT] at this ⊢
  rw [← this]
  simp [List.intersperse]
def indexFrom (k:Int) (s:List UInt8):List (List UInt8)→Int
 | []=>-1
 | x::r=>if x=s then k else indexFrom (k+1) s r
def indexS (s:List UInt8) (l:List (List UInt8)):Int:=indexFrom 0 s l
def hasS (s:List UInt8) (l:List (List UInt8)):Bool:=l.any fun x=>decide (x=s)
def bookFrom (seen:List (List UInt8)):List (List UInt8)→Int
 | []=>0
 | s::r=>if 2000<s.length then 2 else if hasS s seen then 6 else bookFrom (seen++[s]) r
def z0r (l:List (List UInt8)):Int:=if 60<l.length then 2 else bookFrom [] l
def nameB (l:List (List UInt8)) (s:List UInt8):Int × Int:=if z0r l=0 then (indexS s l+1,0) else (0,z0r l)
def nums (l:List Int):Bool:=l.all fun n=>decide (0≤n) && decide (n≤9223372036854775807)
def listT (l:List Int):List UInt8:=joinT [32] (l.map numT)
theorem zig:∀ f u,(digs f u).length≤f
 | 0,_=>by simp [digs]
 | f+1,u=>by
  simp only [digs]
  split
  ·simp
  ·have:=zig f (u / 10)
   simp; omega
theorem z7s (n:Int):(numT n).length≤20:=zig _ _
theorem zeq (sep:List UInt8) (m:Nat):∀ xs:List (List UInt8),(∀ x∈xs,x.length≤m)→(joinT sep xs).length≤xs.length*(m+sep.length)
 | [],_=>by simp [joinT]
 | [x],h=>by have:=h x (by simp); simp [joinT]; omega
 | x::y::xs,h=>by
  have h1:=h x (by simp)
  have h2:=zeq sep m (y::xs) (fun z hz=>h z (by simp at hz ⊢; exact .inr hz))
  simp only [joinT,List.length_append,List.length_cons] at h2 ⊢
  rw [Nat.add_mul (xs.length+1) 1]
  omega
theorem z84 (l:List Int):(listT l).length≤l.length*21:=by
 have:=zeq [32] 20 (l.map numT) (fun x hx=>by
  obtain ⟨n,_,rfl⟩:=List.mem_map.1 hx
  exact z7s n)
 simpa [listT] using this
theorem z2d (s:List UInt8):∀ (l:List (List UInt8)) (k:Int),0≤k→indexFrom k s l=-1∨(k≤indexFrom k s l∧indexFrom k s l<k+(l.length:Nat))
 | [],_,_=>.inl rfl
 | x::r,k,hk=>by
  simp only [indexFrom]
  split
  ·exact .inr ⟨by omega,by simp only [List.length_cons]; omega⟩
  ·rcases z2d s r (k+1) (by omega) with h | h
   ·exact .inl h
   ·exact .inr ⟨by omega,by simp only [List.length_cons]; omega⟩
theorem zkl (s:List UInt8) (l:List (List UInt8)):decide (0≤indexS s l)=hasS s l:=by
 have key:∀ (l:List (List UInt8)) (k:Int),0≤k→decide (0≤indexFrom k s l)=hasS s l:=by
  intro l
  induction l with
  | nil=>intro k _; rfl
  | cons x r ih =>
   intro k hk
   have ih':=ih (k+1) (by omega)
   simp only [hasS,List.any_cons]
   by_cases c:x=s
   ·have e:indexFrom k s (x::r)=k:=if_pos c
    rw [show decide (0≤indexFrom k s (x::r))=true from decide_eq_true (by rw [e]; exact hk)]; simp [c]
   ·have e:indexFrom k s (x::r)=indexFrom (k+1) s r:=if_neg c
    rw [show decide (0≤indexFrom k s (x::r))=decide (0≤indexFrom (k+1) s r) from by simp only [e],ih']; simp [c,hasS]
 exact key l 0 (by omega)
def notBehind (last:Option Int) (k:Int):Bool:=match last with
 | some p=>decide (k≤p)
 | none=>false
def rootEnd (e t n:Int):Int:=if e=0 then (if t<1∨n<t then 4 else 0) else e
def keysFrom (last:Option Int):List Int→Int
 | []=>0
 | k::r=>if k<1∨50<k then 3 else if notBehind last k then 6 else keysFrom (some k) r
def checkRoot (v:Int) (ks:List Int) (t:Int):Int :=
 if v<1∨1000<v then 3 else if ks.length=0∨6<ks.length then 2 else rootEnd (keysFrom none ks) t ks.length
def okTarget (i:Int) (t:Target):Bool:=decide (t.unit=i) && decide (1≤t.image) && decide (t.image≤60) && decide (1≤t.long) && decide (t.long≤40)
def okTargets (i:Int):List Target→Bool
 | []=>true
 | t::r=>okTarget i t && okTargets (i+1) r
def z0i (v u:Int) (ts:List Target):Int :=
 if v<1∨1000<v∨u<0∨100000<u then 3 else if ts.length=0∨4<ts.length then 2 else if okTargets 0 ts then 0 else 3
def z0j (w:List Int):Int:=if w.length=0∨40<w.length then 2 else if z04 w then 0 else 3
def rootText (v:Int) (ks:List Int) (t:Int):List UInt8:=[114,111,111,116,32]++numT v++[32]++numT t++[32,111,102,32]++listT ks
def targetT (t:Target):List UInt8:=[59,32]++listT [t.unit,t.image,t.long]
def targetsT (ts:List Target):List UInt8:=ts.flatMap targetT
def z1h (v u:Int) (ts:List Target):List UInt8:=[114,101,108,101,97,115,101,32]++numT v++[32,117,110,116,105,108,32]++numT u++targetsT ts
def imageText (w:List Int):List UInt8:=[105,109,97,103,101,32]++listT w
def rootTextE (v:Int) (ks:List Int) (t:Int):List UInt8 × Int:=if checkRoot v ks t=0 then (rootText v ks t,0) else ([],checkRoot v ks t)
def releaseTextE (v u:Int) (ts:List Target):List UInt8 × Int:=if z0i v u ts=0 then (z1h v u ts,0) else ([],z0i v u ts)
def imageTextE (w:List Int):List UInt8 × Int:=if z0j w=0 then (imageText w,0) else ([],z0j w)
def z0m (l:List (List UInt8)) (w:List Int):Int × Int:=if z0j w=0 then nameB l (imageText w) else (0,z0j w)
theorem zbq:∀ (ks:List Int) (last:Option Int),keysFrom last ks=0→nums ks=true
 | [],_,_=>rfl
 | k::r,last,h=>by
  simp only [keysFrom] at h
  by_cases c:k<1∨50<k
  ·rw [if_pos c] at h; cases h
  ·rw [if_neg c] at h
   by_cases c2:notBehind last k=true
   ·rw [if_pos c2] at h; cases h
   ·rw [if_neg c2] at h
    have:=zbq r _ h
    unfold nums at this ⊢
    simp only [List.all_cons,this,Bool.and_true,Bool.and_eq_true,decide_eq_true_eq]; omega
theorem z2e {v:Int} {ks:List Int} {t:Int} (h:checkRoot v ks t=0):1≤v∧v≤1000∧1≤t∧t≤(ks.length:Int)∧ks.length≤6∧nums ks=true:=by
 unfold checkRoot at h
 by_cases c1:v<1∨1000<v
 ·rw [if_pos c1] at h; cases h
 rw [if_neg c1] at h
 by_cases c2:ks.length=0∨6<ks.length
 ·rw [if_pos c2] at h; cases h
 rw [if_neg c2] at h
 unfold rootEnd at h
 by_cases c3:keysFrom none ks=0
 ·rw [if_pos c3] at h
  by_cases c4:t<1∨(ks.length:Int)<t
  ·rw [if_pos c4] at h; cases h
  ·exact ⟨by omega,by omega,by omega,by omega,by omega,zbq _ _ c3⟩
 ·rw [if_neg c3] at h; exact absurd h c3
theorem z9h:∀ (ts:List Target) (i:Int),okTargets i ts=true→0≤i→i+ts.length≤1000→∀ t∈ts,0≤t.unit∧t.unit≤1000∧0≤t.image∧t.image≤1000∧0≤t.long∧t.long≤1000
 | [],_,_,_,_,t,ht=>by simp at ht
 | x::r,i,h,h0,h1,t,ht=>by
  simp only [okTargets,Bool.and_eq_true] at h
  simp only [List.length_cons] at h1
  rcases List.mem_cons.1 ht with rfl | ht
  ·have:=h.1
   simp only [okTarget,Bool.and_eq_true,decide_eq_true_eq] at this
   omega
  ·exact z9h r (i+1) h.2 (by omega) (by omega) t ht
theorem z3z {v u:Int} {ts:List Target} (h:z0i v u ts=0):1≤v∧v≤1000∧0≤u∧u≤100000∧1≤ts.length∧ts.length≤4∧∀ t∈ts,0≤t.unit∧t.unit≤1000∧0≤t.image∧t.image≤1000∧0≤t.long∧t.long≤1000:=by
 unfold z0i at h
 by_cases c1:v<1∨1000<v∨u<0∨100000<u
 ·rw [if_pos c1] at h; cases h
 rw [if_neg c1] at h
 by_cases c2:ts.length=0∨4<ts.length
 ·rw [if_pos c2] at h; cases h
 rw [if_neg c2] at h
 by_cases c3:okTargets 0 ts=true
 ·exact ⟨by omega,by omega,by omega,by omega,by omega,by omega,z9h ts 0 c3 (by omega) (by omega)⟩
 ·rw [if_neg c3] at h; cases h
theorem z2k {w:List Int} (h:z0j w=0):1≤w.length∧w.length≤40∧z04 w=true:=by
 unfold z0j at h
 by_cases c1:w.length=0∨40<w.length
 ·rw [if_pos c1] at h; cases h
 rw [if_neg c1] at h
 by_cases c2:z04 w=true
 ·exact ⟨by omega,by omega,c2⟩
 ·rw [if_neg c2] at h; cases h
theorem z59 {w:List Int} (h:z04 w=true):nums w=true:=List.all_eq_true.2 fun n hn=>by
 have:=z5u (List.all_eq_true.1 h n hn)
 simp only [Bool.and_eq_true,decide_eq_true_eq]; omega
theorem indexS_at (s:List UInt8) (l:List (List UInt8)) (h:0≤indexS s l):nth l (indexS s l).toNat []=s:=by
 have key:∀ (l:List (List UInt8)) (k:Int),0≤k→0≤indexFrom k s l→nth l (indexFrom k s l-k).toNat []=s:=by
  intro l
  induction l with
  | nil=>intro k hk h; simp [indexFrom] at h
  | cons x r ih =>
   intro k hk h
   by_cases c:x=s
   ·have e:indexFrom k s (x::r)=k:=if_pos c
    rw [e,show (k-k).toNat=0 by omega]; exact c
   ·have e:indexFrom k s (x::r)=indexFrom (k+1) s r:=if_neg c
    rw [e] at h ⊢
    have h1:=ih (k+1) (by omega) h
    rcases z2d s r (k+1) (by omega) with g | g
    ·omega
    ·rw [show (indexFrom (k+1) s r-k).toNat=(indexFrom (k+1) s r-(k+1)).toNat+1 by omega]
     exact h1
 have:=key l 0 (by omega) h
 rw [show indexFrom 0 s l-0=indexS s l from by unfold indexS; omega] at this
 exact this
end Vm
end Go.Proofs.YtlbppjmekiemiacGreatDoor

namespace Go.Proofs.YtlbppjmekiemiacGreatDoor
namespace Vm

theorem z98 (sep:List UInt8):∀ (x:List UInt8) (xs:List (List UInt8)),joinT sep (x::xs)=x++xs.flatMap (fun y=>sep++y)
 | x,[]=>by simp [joinT]
 | x,y::ys=>by
  have:=z98 sep y ys
  rw [show joinT sep (x::y::ys)=x++sep++joinT sep (y::ys) from rfl,this]; simp
end Vm
end Go.Proofs.YtlbppjmekiemiacGreatDoor

namespace Go.Proofs.YtlbppjmekiemiacGreatDoor
namespace Vm

def okSigned (s:Signed):Bool:=decide (1≤s.key) && decide (s.key≤50) && decide (1≤s.name) && decide (s.name≤60)
def checkSigned (l:List Signed):Int:=if 360<l.length then 2 else if l.all okSigned then 0 else 3
def isSig (k n:Int) (s:Signed):Bool:=eqi k s.key && (eqi n s.name && true)
def indexG (k n:Int) (j:Int):List Signed→Int
 | []=>-1
 | s::r=>if isSig k n s then j else indexG k n (j+1) r
def hasSig (k n:Int) (l:List Signed):Bool:=l.any (isSig k n)
def indexI (k:Int) (j:Int):List Int→Int
 | []=>-1
 | x::r=>if x=k then j else indexI k (j+1) r
def hasI (k:Int) (l:List Int):Bool:=l.any fun x=>decide (x=k)
def signs (l:List Signed) (sigs:List Int) (name k:Int):Bool:=hasI k sigs && hasSig k name l
def countN (l:List Signed) (sigs:List Int) (name:Int) (ks:List Int):Nat:=(ks.filter (signs l sigs name)).length
def countT (l:List Signed) (r:Root) (sigs:List Int) (name:Int):Int × Int :=
 if checkSigned l=0 then (if checkRoot r.version r.keys r.thr=0 then (if 50<sigs.length then (0,2) else ((countN l sigs name r.keys:Nat),0)) else (0,checkRoot r.version r.keys r.thr)) else (0,checkSigned l)
def checkTrust (t:Trust):Int:=if t.version<0∨1000<t.version then 3 else checkRoot t.r.version t.r.keys t.r.thr
def noTrust:Trust:=⟨⟨0,[],0⟩,0⟩
def enough (l:List Signed) (r:Root) (sigs:List Int) (name:Int):Int:=if (countT l r sigs name).2=0 then (if (countT l r sigs name).1<r.thr then 9 else 0) else (countT l r sigs name).2
def turnE (b:List (List UInt8)) (l:List Signed) (t:Trust) (next:Root) (sigs:List Int):Int :=
 if checkTrust t=0 then (if checkRoot next.version next.keys next.thr=0 then (if z0r b=0 then (if next.version=t.r.version+1 then
  (if enough l t.r sigs (indexS (rootText next.version next.keys next.thr) b+1)=0 then enough l next sigs (indexS (rootText next.version next.keys next.thr) b+1) else enough l t.r sigs (indexS (rootText next.version next.keys next.thr) b+1)) else 10) else z0r b) else checkRoot next.version next.keys next.thr) else checkTrust t
def turnT (b:List (List UInt8)) (l:List Signed) (t:Trust) (next:Root) (sigs:List Int):Trust × Int :=
 if turnE b l t next sigs=0 then (⟨next,t.version⟩,0) else (noTrust,turnE b l t next sigs)
def rootsT (b:List (List UInt8)) (l:List Signed) (t:Trust):List Root→List (List Int)→Trust × Int
 | [],_=>(t,0)
 | r::rs,sg=>if (turnT b l t r (sg.headD [])).2=0 then rootsT b l (turnT b l t r (sg.headD [])).1 rs sg.tail else (noTrust,(turnT b l t r (sg.headD [])).2)
def okImage (b:List (List UInt8)) (x:Target) (w:List Int):Bool:=decide ((z0m b w).2=0) && decide ((z0m b w).1=x.image) && decide ((w.length:Int)=x.long)
def okImages (b:List (List UInt8)):List Target→List (List Int)→Bool
 | [],_=>true
 | x::xs,ws=>okImage b x (ws.headD []) && okImages b xs ws.tail
def relE (b:List (List UInt8)) (l:List Signed) (t:Trust) (o:Offer) (now units:Int):Int :=
 if z0i o.r.version o.r.til o.r.targets=0 then (if z0r b=0 then
  (if enough l t.r o.sigs (indexS (z1h o.r.version o.r.til o.r.targets) b+1)=0 then
   (if o.r.version≤t.version then 10 else if o.r.til<now then 11 else if (o.r.targets.length:Int)≠units∨(o.images.length:Int)≠units then 4 else if okImages b o.r.targets o.images then 0 else 5)
  else enough l t.r o.sigs (indexS (z1h o.r.version o.r.til o.r.targets) b+1)) else z0r b) else z0i o.r.version o.r.til o.r.targets
def takeEnd (b:List (List UInt8)) (l:List Signed) (o:Offer) (now units:Int) (x:Trust × Int):Trust × Int :=
 if x.2=0 then (if relE b l x.1 o now units=0 then (⟨x.1.r,o.r.version⟩,0) else (noTrust,relE b l x.1 o now units)) else (noTrust,x.2)
def takeT (b:List (List UInt8)) (l:List Signed) (t:Trust) (o:Offer) (now units:Int):Trust × Int :=
 if checkTrust t=0 then (if 6<o.roots.length∨o.rootSigs.length≠o.roots.length then (noTrust,2) else takeEnd b l o now units (rootsT b l t o.roots o.rootSigs)) else (noTrust,checkTrust t)
theorem ifz {x y:Int}:(if x=0 then y else x)=0↔x=0∧y=0:=by
 by_cases h:x=0
 ·rw [if_pos h]; exact ⟨fun g=>⟨h,g⟩,fun g=>g.2⟩
 ·rw [if_neg h]; exact ⟨fun g=>absurd g h,fun g=>absurd g.1 h⟩
theorem z2z {t:Trust} (h:checkTrust t=0):0≤t.version∧t.version≤1000∧checkRoot t.r.version t.r.keys t.r.thr=0:=by
 unfold checkTrust at h
 by_cases c:t.version<0∨1000<t.version
 ·rw [if_pos c] at h; cases h
 ·rw [if_neg c] at h; exact ⟨by omega,by omega,h⟩
theorem z3k {l:List (List UInt8)} (h:z0r l=0):l.length≤60:=by
 unfold z0r at h
 by_cases c:60<l.length
 ·rw [if_pos c] at h; cases h
 ·omega
theorem zj7 {b:List (List UInt8)} {l:List Signed} {t:Trust} {next:Root} {sigs:List Int} (h:turnE b l t next sigs=0) :
  checkTrust t=0∧checkRoot next.version next.keys next.thr=0∧z0r b=0∧next.version=t.r.version+1 ∧
  enough l t.r sigs (indexS (rootText next.version next.keys next.thr) b+1)=0∧enough l next sigs (indexS (rootText next.version next.keys next.thr) b+1)=0:=by
 unfold turnE at h
 obtain ⟨h1,h⟩:=ifz.1 h
 obtain ⟨h2,h⟩:=ifz.1 h
 obtain ⟨h3,h⟩:=ifz.1 h
 by_cases c:next.version=t.r.version+1
 ·rw [if_pos c] at h
  obtain ⟨h4,h⟩:=ifz.1 h
  exact ⟨h1,h2,h3,c,h4,h⟩
 ·rw [if_neg c] at h; cases h
theorem zjm {b:List (List UInt8)} {l:List Signed} {t:Trust} {next:Root} {sigs:List Int} (h:(turnT b l t next sigs).2=0):turnE b l t next sigs=0∧turnT b l t next sigs=(⟨next,t.version⟩,0):=by
 unfold turnT at h ⊢
 by_cases c:turnE b l t next sigs=0
 ·rw [if_pos c]; exact ⟨c,rfl⟩
 ·rw [if_neg c] at h; exact absurd h c
theorem zgk (l:List Signed) (sigs:List Int) (name k:Int) (r:List Int):countN l sigs name (k::r)=(if signs l sigs name k then 1 else 0)+countN l sigs name r:=by
 unfold countN
 rw [List.filter_cons]
 by_cases h:signs l sigs name k=true
 ·rw [if_pos h,if_pos h,List.length_cons]; omega
 ·rw [if_neg h,if_neg h]; omega
theorem zd4 (k:Int):∀ (l:List Int) (j:Int),0≤j→lei 0 (indexI k j l)=hasI k l
 | [],_,_=>rfl
 | x::r,j,hj=>by
  simp only [indexI,hasI,List.any_cons]
  by_cases c:x=k
  ·rw [if_pos c,decide_eq_true c]; exact decide_eq_true hj
  ·rw [if_neg c,decide_eq_false c]; exact zd4 k r (j+1) (by omega)
theorem zch (k n:Int):∀ (l:List Signed) (j:Int),0≤j→lei 0 (indexG k n j l)=hasSig k n l
 | [],_,_=>rfl
 | x::r,j,hj=>by
  simp only [indexG,hasSig,List.any_cons]
  by_cases c:isSig k n x=true
  ·rw [if_pos c,c]; exact decide_eq_true hj
  ·rw [if_neg c,(Bool.not_eq_true _).mp c]; exact zch k n r (j+1) (by omega)
end Vm
end Go.Proofs.YtlbppjmekiemiacGreatDoor

namespace Go.Proofs.YtlbppjmekiemiacGreatDoor
namespace Vm

theorem z6s {l:List Signed} (h:checkSigned l=0):l.length≤360∧l.all okSigned=true:=by
 unfold checkSigned at h
 by_cases c:360<l.length
 ·rw [if_pos c] at h; cases h
 ·rw [if_neg c] at h
  by_cases c2:l.all okSigned=true
  ·exact ⟨by omega,c2⟩
  ·rw [if_neg c2] at h; cases h
theorem zb1 {b:List (List UInt8)} {l:List Signed}:∀ (rs:List Root) (rg:List (List Int)) (t:Trust),checkTrust t=0→(rootsT b l t rs rg).2=0 →
  (rootsT b l t rs rg).1.version=t.version∧(rootsT b l t rs rg).1.r.version=t.r.version+rs.length∧checkTrust (rootsT b l t rs rg).1=0∧rootsT b l t rs rg=((rootsT b l t rs rg).1,0)
 | [],rg,t,h0,_=>⟨rfl,by simp [rootsT],h0,rfl⟩
 | r::rs,rg,t,h0,h=>by
  by_cases c:(turnT b l t r (rg.headD [])).2=0
  ·have e:rootsT b l t (r::rs) rg=rootsT b l (turnT b l t r (rg.headD [])).1 rs rg.tail:=if_pos c
   rw [e] at h ⊢
   obtain ⟨h1,h2⟩:=zjm c
   obtain ⟨k1,k2,_,k4,_⟩:=zj7 h1
   rw [h2] at h ⊢
   obtain ⟨t1,t2,_⟩:=z2z k1
   have c0:checkTrust ⟨r,t.version⟩=0:=by
    unfold checkTrust
    simp only
    rw [if_neg (by omega)]; exact k2
   obtain ⟨q1,q2,q3,q4⟩:=zb1 rs rg.tail ⟨r,t.version⟩ c0 h
   exact ⟨q1,by rw [q2,List.length_cons]; simp only; omega,q3,q4⟩
  ·have e:rootsT b l t (r::rs) rg=(noTrust,(turnT b l t r (rg.headD [])).2):=if_neg c
   rw [e] at h; exact absurd h c
theorem zdv {b:List (List UInt8)} {l:List Signed} {t:Trust} {o:Offer} {now units:Int} (h:relE b l t o now units=0) :
  z0i o.r.version o.r.til o.r.targets=0∧z0r b=0∧enough l t.r o.sigs (indexS (z1h o.r.version o.r.til o.r.targets) b+1)=0∧t.version<o.r.version∧now≤o.r.til∧(o.r.targets.length:Int)=units∧(o.images.length:Int)=units∧okImages b o.r.targets o.images=true:=by
 unfold relE at h
 obtain ⟨h1,h⟩:=ifz.1 h
 obtain ⟨h2,h⟩:=ifz.1 h
 obtain ⟨h3,h⟩:=ifz.1 h
 by_cases c1:o.r.version≤t.version
 ·rw [if_pos c1] at h; cases h
 rw [if_neg c1] at h
 by_cases c2:o.r.til<now
 ·rw [if_pos c2] at h; cases h
 rw [if_neg c2] at h
 by_cases c3:(o.r.targets.length:Int)≠units∨(o.images.length:Int)≠units
 ·rw [if_pos c3] at h; cases h
 rw [if_neg c3] at h
 by_cases c4:okImages b o.r.targets o.images=true
 ·exact ⟨h1,h2,h3,by omega,by omega,by omega,by omega,c4⟩
 ·rw [if_neg c4] at h; cases h
theorem z9z {b:List (List UInt8)} {l:List Signed} {t:Trust} {o:Offer} {now units:Int} (h:(takeT b l t o now units).2=0) :
  checkTrust t=0∧o.roots.length≤6∧o.rootSigs.length=o.roots.length∧(rootsT b l t o.roots o.rootSigs).2=0∧relE b l (rootsT b l t o.roots o.rootSigs).1 o now units=0∧takeT b l t o now units=(⟨(rootsT b l t o.roots o.rootSigs).1.r,o.r.version⟩,0):=by
 unfold takeT at h ⊢
 by_cases c1:checkTrust t=0
 ·rw [if_pos c1] at h ⊢
  by_cases c2:6<o.roots.length∨o.rootSigs.length≠o.roots.length
  ·rw [if_pos c2] at h; cases h
  ·rw [if_neg c2] at h ⊢
   unfold takeEnd at h ⊢
   by_cases c3:(rootsT b l t o.roots o.rootSigs).2=0
   ·rw [if_pos c3] at h ⊢
    by_cases c4:relE b l (rootsT b l t o.roots o.rootSigs).1 o now units=0
    ·rw [if_pos c4]; exact ⟨c1,by omega,by omega,c3,c4,rfl⟩
    ·rw [if_neg c4] at h; exact absurd h c4
   ·rw [if_neg c3] at h; exact absurd h c3
 ·rw [if_neg c1] at h; exact absurd h c1
end Vm
end Go.Proofs.YtlbppjmekiemiacGreatDoor

namespace Go.Proofs.YtlbppjmekiemiacGreatDoor
namespace Vm

structure UState where
 slot:Int
 by_:Int
 ready:Int
def nonE (l:List (List Int)):Bool:=l.all fun r=>decide (0<r.length)
def stepR (s:UState) (r:List Int):UState :=
 if r.getD 0 0=1∧r.length=3∧r.getD 1 0≤1 then ⟨r.getD 1 0,r.getD 2 0,0⟩
 else if r.getD 0 0=2∧r.length=2 then ⟨s.slot,s.by_,r.getD 1 0⟩
 else if r.getD 0 0=3∧r.length=2 then ⟨s.slot,s.by_,0⟩ else s
def stateR (l:List (List Int)):UState:=l.foldl stepR ⟨0,0,0⟩
def ofU (f:Flash):UState:=stateR (recordsF f).1
def keepS (by_ slot ready:Int):List (List Int):=[1,slot,by_]::if 0<ready then [[2,ready]] else []
def z14 (u:UnitD):Int :=
 if z0d u.f=0 then (if u.f.words.length=192 then (if u.n<0∨8<u.n∨u.got<0∨40<u.got then 3 else 0) else 4) else z0d u.f
def readU (u:UnitD):UState × Int:=if z14 u=0 then (ofU u.f,0) else (⟨0,0,0⟩,z14 u)
def noUnit:UnitD:=⟨noFlash,false,0,0⟩
def factoryU (image:List Int) (name:Int):Flash × Int:=sealS (fillS (formatF (newFlash 6).1).1 0 0 image).1 0 image.length name
def newU (image:List Int) (name:Int):UnitD × Int :=
 if z0j image=0 then (if (factoryU image name).2=0 then (⟨(z0u (factoryU image name).1 [1,0,0] []).1,true,0,0⟩,0) else (noUnit,(factoryU image name).2)) else (noUnit,z0j image)
def downU (u:UnitD):UnitD:=⟨u.f,false,0,0⟩
def changeU (u:UnitD) (f:Flash) (e:Int):UnitD × Bool :=
 if e=0 then (⟨f,u.up,u.n,u.got⟩,true) else if e=7 then (⟨f,false,0,0⟩,false) else (u,false)
def z1o (u:UnitD) (r:List Int):UnitD × Bool :=
 changeU u (z0u u.f r (keepS (ofU u.f).by_ (ofU u.f).slot (ofU u.f).ready)).1 (z0u u.f r (keepS (ofU u.f).by_ (ofU u.f).slot (ofU u.f).ready)).2
def fillC (u:UnitD) (s:UState) (m:Message):UnitD × Bool:=changeU u (fillS u.f (1-s.slot) m.at_ m.words).1 (fillS u.f (1-s.slot) m.at_ m.words).2
def fillU (u:UnitD) (s:UState) (m:Message):UnitD :=
 if u.n≠m.n∨u.got≠m.at_∨40<m.at_+m.words.length then u
 else if (fillC u s m).2 then ⟨(fillC u s m).1.f,(fillC u s m).1.up,(fillC u s m).1.n,(fillC u s m).1.got+m.words.length⟩ else (fillC u s m).1
def clearC (u:UnitD) (s:UState):UnitD × Bool:=changeU u (clearS u.f (1-s.slot)).1 (clearS u.f (1-s.slot)).2
def pieceU (u:UnitD) (s:UState) (m:Message):UnitD :=
 if 0<s.ready∨m.n≤s.by_∨8<m.n then u
 else if m.at_=0∧(u.n≠m.n∨u.got=0) then
  (if (clearC u s).2 then fillU ⟨(clearC u s).1.f,(clearC u s).1.up,m.n,0⟩ s m else (clearC u s).1)
 else fillU u s m
def voteM (m:Message) (y:Bool):List Message:=[⟨3,m.unit,m.n,0,0,[],y⟩]
def doneM (m:Message):List Message:=[⟨6,m.unit,m.n,0,0,[],false⟩]
def sealC (u:UnitD) (s:UState) (m:Message):UnitD × Bool:=changeU u (sealS u.f (1-s.slot) m.at_ m.image).1 (sealS u.f (1-s.slot) m.at_ m.image).2
def sealedU (u:UnitD) (s:UState) (m:Message) (body:List Int):UnitD × List Message :=
 if (z1l u.f (1-s.slot)).2.2=0∧(z1l u.f (1-s.slot)).2.1=m.image∧(z1l u.f (1-s.slot)).1=body then
  (if (z1o u [2,m.n]).2 then ((z1o u [2,m.n]).1,voteM m true) else ((z1o u [2,m.n]).1,[]))
 else (u,voteM m false)
def prepareU (b:List (List UInt8)) (u:UnitD) (s:UState) (m:Message):UnitD × List Message :=
 if m.n≤s.by_ then (u,doneM m) else if s.ready=m.n then (u,voteM m true) else if 0<s.ready then (u,voteM m false)
 else if (bodyS u.f (1-s.slot) m.at_).2=0∧u.n=m.n∧u.got=m.at_ then
  (if (z0m b (bodyS u.f (1-s.slot) m.at_).1).2=0∧(z0m b (bodyS u.f (1-s.slot) m.at_).1).1≠0∧(z0m b (bodyS u.f (1-s.slot) m.at_).1).1=m.image then
   (if (sealC u s m).2 then sealedU ⟨(sealC u s m).1.f,(sealC u s m).1.up,0,0⟩ s m (bodyS u.f (1-s.slot) m.at_).1
   else ((sealC u s m).1,[]))
  else (u,voteM m false))
 else (u,voteM m false)
def goneU (u:UnitD) (m:Message):UnitD × List Message:=if u.n=m.n then (⟨u.f,u.up,0,0⟩,doneM m) else (u,doneM m)
def decidedU (u:UnitD) (s:UState) (m:Message):UnitD × List Message :=
 if m.kind=4 then (if s.by_=m.n then (u,doneM m) else if s.ready=m.n then
   (if (z1o u [1,1-s.slot,m.n]).2 then ((z1o u [1,1-s.slot,m.n]).1,doneM m) else ((z1o u [1,1-s.slot,m.n]).1,[]))
  else (u,[]))
 else if m.n≤s.by_ then (u,[]) else if s.ready=m.n then
  (if (z1o u [3,m.n]).2 then goneU (z1o u [3,m.n]).1 m else ((z1o u [3,m.n]).1,[]))
 else goneU u m
def checkM (m:Message):Int :=
 if m.kind<1∨7<m.kind∨m.unit<0∨4≤m.unit∨m.n<1∨8<m.n∨m.at_<0∨40<m.at_∨m.image<0∨60<m.image∨8<m.words.length then 3 else if z04 m.words then 0 else 3
def z0x (b:List (List UInt8)) (u:UnitD) (m:Message):UnitD × List Message :=
 if u.up then (if m.kind=1 then (pieceU u (ofU u.f) m,[]) else if m.kind=2 then prepareU b u (ofU u.f) m else if m.kind=4∨m.kind=5 then decidedU u (ofU u.f) m else (u,[])) else (u,[])
def hearE (b:List (List UInt8)) (u:UnitD) (m:Message):Int:=if z0r b=0 then (if z14 u=0 then checkM m else z14 u) else z0r b
def hearU (b:List (List UInt8)) (u:UnitD) (m:Message):(UnitD × List Message) × Int :=
 if hearE b u m=0 then (z0x b u m,0) else ((noUnit,[]),hearE b u m)
def z4l (u:UnitD):UnitD × Int:=if z14 u=0 then (⟨⟨u.f.words,-1⟩,true,0,0⟩,0) else (noUnit,z14 u)
def z5i (u:UnitD):List Int × Int × Int:=if z14 u=0 then z1l u.f (ofU u.f).slot else ([],0,z14 u)
def smM (l:List Message):Bool:=l.all fun m=>decide (m.words.length≤140737488355328)
end Vm
end Go.Proofs.YtlbppjmekiemiacGreatDoor

namespace Go.Proofs.YtlbppjmekiemiacGreatDoor
namespace Vm

theorem z54 {l r:List Int} (h:z04 l=true) (hs:∀ x∈r,x∈l):z04 r=true:=List.all_eq_true.2 fun x hx=>List.all_eq_true.1 h x (hs x hx)
theorem z7e {r:List Int} (h1:1≤r.length) (h2:r.length≤4) (h3:z04 r=true):checkRec r=0:=by
 unfold checkRec
 rw [if_pos ⟨h1,h2⟩,if_pos h3]
theorem zgm (x:Int):headN x=0∨(1≤headN x∧headN x≤4):=by
 unfold headN
 split
 ·exact .inr (by omega)
 ·exact .inl rfl
theorem zjh:∀ (m:Nat) (l:List Int),z04 l=true→∀ r∈(scanL m l).1,checkRec r=0
 | 0,_,_,r,hr=>by simp [scanL] at hr
 | _+1,[],_,r,hr=>by simp [scanL] at hr
 | m+1,x::xs,h,r,hr=>by
  have hx:z04 xs=true:=z54 h fun y hy=>List.mem_cons_of_mem _ hy
  simp only [scanL] at hr
  split at hr
  ·simp at hr
  ·split at hr
   ·simp at hr
   ·rename_i h0
    split at hr
    ·rename_i hle
     rcases List.mem_cons.1 hr with rfl | hr
     ·have:=zgm x
      exact z7e (by rw [List.length_take]; omega) (by rw [List.length_take]; omega) (z54 hx fun y hy=>List.mem_of_mem_take hy)
     ·exact zjh m _ (z54 hx fun y hy=>List.mem_of_mem_drop hy) r hr
    ·simp at hr
theorem recsOf_ok {ws:List Int} (h:z04 ws=true):∀ r∈recsOf ws,checkRec r=0:=by
 intro r hr
 refine zjh 32 _ (z54 h fun y hy=>?_) r hr
 have:=List.mem_of_mem_drop hy
 unfold sectorW slc at this
 exact List.mem_of_mem_take (List.mem_of_mem_drop this)
theorem z3j (f:Flash):(recordsF f).1.length≤32∧∀ r∈(recordsF f).1,checkRec r=0:=by
 unfold recordsF
 by_cases c:z0d f=0
 ·rw [if_pos c]
  obtain ⟨k1,_⟩:=z1w c
  obtain ⟨_,_,_,c4⟩:=z10 k1
  exact ⟨(zed _).2,recsOf_ok c4⟩
 ·rw [if_neg c]; exact ⟨by simp,fun r hr=>by simp at hr⟩
theorem zhc {l:List (List Int)} (h:∀ r∈l,checkRec r=0):nonE l=true:=List.all_eq_true.2 fun r hr=>by
 have:=(z1r (h r hr)).1
 exact decide_eq_true (by omega)
def OkState (s:UState):Prop:=(0≤s.slot∧s.slot≤1)∧(0≤s.by_∧s.by_≤65535)∧0≤s.ready∧s.ready≤65535
theorem zh2 {r:List Int} (h:z04 r=true) (i:Nat):0≤r.getD i 0∧r.getD i 0≤65535:=by
 rw [List.getD_eq_getElem?_getD]
 cases hi:r[i]? with
 | none=>simp
 | some x =>
  have:=z5u (List.all_eq_true.1 h x (List.mem_of_getElem? hi))
  simpa using this
theorem stepR_ok {s:UState} {r:List Int} (hs:OkState s) (hr:checkRec r=0):OkState (stepR s r):=by
 obtain ⟨_,_,r3⟩:=z1r hr
 have w1:=zh2 r3 1
 have w2:=zh2 r3 2
 obtain ⟨a,b,c⟩:=hs
 unfold stepR
 split
 ·rename_i h; exact ⟨⟨w1.1,h.2.2⟩,w2,by simp,by simp⟩
 ·split
  ·exact ⟨a,b,w1⟩
  ·split
   ·exact ⟨a,b,by simp,by simp⟩
   ·exact ⟨a,b,c⟩
theorem ziz:∀ (l:List (List Int)) (s:UState),OkState s→(∀ r∈l,checkRec r=0)→OkState (l.foldl stepR s)
 | [],_,hs,_=>hs
 | r::l,s,hs,h=>ziz l _ (stepR_ok hs (h r (by simp))) fun x hx=>h x (by simp [hx])
theorem z49 (f:Flash):OkState (ofU f):=ziz _ _ ⟨by simp,by simp,by simp⟩ (z3j f).2
theorem keepS_sm (b s r:Int):smR (keepS b s r)=true∧(keepS b s r).length≤2:=by
 unfold keepS
 split<;>exact ⟨by simp [smR],by simp⟩
theorem z3a {u:UnitD} (h:z14 u=0):z0d u.f=0∧u.f.words.length=192∧0≤u.n∧u.n≤8∧0≤u.got∧u.got≤40:=by
 unfold z14 at h
 by_cases c1:z0d u.f=0
 ·rw [if_pos c1] at h
  by_cases c2:u.f.words.length=192
  ·rw [if_pos c2] at h
   by_cases c3:u.n<0∨8<u.n∨u.got<0∨40<u.got
   ·rw [if_pos c3] at h; cases h
   ·exact ⟨c1,c2,by omega,by omega,by omega,by omega⟩
  ·rw [if_neg c2] at h; cases h
 ·rw [if_neg c1] at h; exact absurd h c1
theorem z1e {m:Message} (h:checkM m=0):1≤m.kind∧m.kind≤7∧0≤m.unit∧m.unit≤3∧1≤m.n∧m.n≤8∧0≤m.at_∧m.at_≤40∧0≤m.image∧m.image≤60∧m.words.length≤8∧z04 m.words=true:=by
 unfold checkM at h
 by_cases c:m.kind<1∨7<m.kind∨m.unit<0∨4≤m.unit∨m.n<1∨8<m.n∨m.at_<0∨40<m.at_∨m.image<0∨60<m.image∨8<m.words.length
 ·rw [if_pos c] at h; cases h
 ·rw [if_neg c] at h
  by_cases c2:z04 m.words=true
  ·exact ⟨by omega,by omega,by omega,by omega,by omega,by omega,by omega,by omega,by omega,by omega,by omega,c2⟩
  ·rw [if_neg c2] at h; cases h
theorem z5o {u:UnitD} {f:Flash} {e:Int} (h:(changeU u f e).2=true):e=0∧changeU u f e=(⟨f,u.up,u.n,u.got⟩,true):=by
 unfold changeU at h ⊢
 by_cases c:e=0
 ·rw [if_pos c]; exact ⟨c,rfl⟩
 ·rw [if_neg c] at h
  split at h<;>cases h
theorem zfl {f:Flash} {s:Int} (h:(z1l f s).2.2=0):(z1l f s).1.length≤140737488355328:=by
 unfold z1l at h ⊢
 by_cases c:z0g f s=0
 ·rw [if_pos c]
  have hl:f.words.length=192:=by
   unfold z0g at c
   by_cases c1:z0b f=0
   ·rw [if_pos c1] at c
    by_cases c2:f.words.length=192
    ·exact c2
    ·rw [if_neg c2] at c; cases c
   ·rw [if_neg c1] at c; exact absurd c c1
  unfold imageR
  split
  ·have:(slc f.words (beginS s+4) (beginS s+4+(f.words.getD (beginS s) 0).toNat)).length≤f.words.length:=by unfold slc; rw [List.length_drop,List.length_take]; omega
   exact Nat.le_trans this (by omega)
  ·simp
 ·rw [if_neg c]; simp
end Vm
end Go.Proofs.YtlbppjmekiemiacGreatDoor

namespace Go.Proofs.YtlbppjmekiemiacGreatDoor
namespace Vm

def stW (ws:List Int):UState:=stateR (recsOf ws)
theorem zdj {f:Flash} (h:z0d f=0):ofU f=stW f.words:=by unfold ofU stW; rw [zb7 h]
def OkF (f:Flash):Prop:=z0d f=0∧f.words.length=192
theorem z2y {f:Flash} (h:OkF f):-1≤f.fuel∧f.fuel≤100000∧z04 f.words=true∧0<z0k f.words∧z0k f.words≤60000:=by
 obtain ⟨h1,_⟩:=h
 obtain ⟨k1,_,k3,k4⟩:=z1w h1
 obtain ⟨_,c2,c3,c4⟩:=z10 k1
 exact ⟨c2,c3,c4,k3,k4⟩
theorem okF_mk {f:Flash} (hl:f.words.length=192) (h2:-1≤f.fuel) (h3:f.fuel≤100000) (h4:z04 f.words=true) (h5:0<z0k f.words) (h6:z0k f.words≤60000):OkF f :=
 ⟨z75 (by rw [hl]; rfl) h2 h3 h4 (by omega) h5 h6,hl⟩
def Beside (o:Nat) (g f:Flash):Prop:=OkF g∧(∀ i,i<64+64*o∨128+64*o≤i→g.words.getD i 0=f.words.getD i 0)∧(f.fuel=-1→g.fuel=-1)
theorem z7h {o:Nat} {f:Flash} (h:OkF f):Beside o f f:=⟨h,fun _ _=>rfl,id⟩
theorem zf9 {o:Nat} {h g f:Flash} (h1:Beside o h g) (h2:Beside o g f):Beside o h f:=⟨h1.1,fun i hi=>(h1.2.1 i hi).trans (h2.2.1 i hi),fun e=>h1.2.2 (h2.2.2 e)⟩
theorem z2n {f:Flash} {cs:List Change} (h:f.fuel=-1):doCh f cs=(⟨z0a f.words cs,-1⟩,true):=by
 obtain ⟨ws,fu⟩:=f
 simp only at h
 subst h
 exact zeh
theorem z79 {o:Nat} {f:Flash} {cs:List Change} (h:OkF f) (ho:o≤1) (hw:within (64+64*o:Nat) (128+64*o:Nat) cs=true) (hc:cs.all chOk=true):Beside o (doCh f cs).1 f:=by
 obtain ⟨p1,p2,p3,p4,p5⟩:=z2y h
 have hl:=z4i f cs
 have hout:=fun i hi=>zhp (a:=(64+64*o:Nat)) (b:=(128+64*o:Nat)) (by omega) f cs hw i hi
 obtain ⟨f1,f2⟩:=z31 f cs p1 p2
 obtain ⟨k,k1,k2,_⟩:=zc1 f cs
 have hok:z04 (doCh f cs).1.words=true:=by rw [k2]; exact z90 _ _ p3 (zj9 hc k)
 obtain ⟨_,g2,_⟩:=zbz (xs:=(doCh f cs).1.words) (ws:=f.words) hl (fun i hi=>hout i (by omega))
 exact ⟨okF_mk (hl.trans h.2) f1 f2 hok (by rw [g2]; exact p4) (by rw [g2]; exact p5),fun i hi=>hout i (by omega),fun e=>by rw [z2n e]⟩
theorem z5x {o:Nat} {g f:Flash} (h:Beside o g f) (hf:OkF f):ofU g=ofU f:=by
 rw [zdj h.1.1,zdj hf.1]
 unfold stW
 rw [(zbz (xs:=g.words) (ws:=f.words) (h.1.2.trans hf.2.symm) fun i hi=>h.2.1 i (by omega)).2.2]
def Fine (e:Int) (f:Flash):Prop:=f.fuel=-1→e≠7
theorem z8p {f:Flash} {cs:List Change}:Fine (power (doCh f cs)).2 f:=fun e=>by
 rw [z2n e]; show (powerE true:Int)≠7; decide
theorem z4e {o:Nat} {f:Flash} (h:OkF f) (ho:o≤1) (he:(clearS f (o:Int)).2=0∨(clearS f (o:Int)).2=7):Beside o (clearS f (o:Int)).1 f∧Fine (clearS f (o:Int)).2 f:=by
 obtain ⟨_,e⟩:=zjs he
 rw [e]
 refine ⟨z79 h ho ?_ ?_,z8p⟩
 ·unfold clearCh wipeCh
  exact z2m (z2r _ _ _ _ (by omega) (by omega)) (z2r _ _ _ _ (by omega) (by omega))
 ·unfold clearCh wipeCh
  rw [List.all_append,zar,zar]; rfl
theorem z7a {o:Nat} {f:Flash} {a:Int} {l:List Int} (h:OkF f) (ho:o≤1) (he:(fillS f (o:Int) a l).2=0∨(fillS f (o:Int) a l).2=7):Beside o (fillS f (o:Int) a l).1 f∧Fine (fillS f (o:Int) a l).2 f:=by
 obtain ⟨_,⟨a1,a2,a3⟩,e⟩:=fillS_out he
 rw [e] at he ⊢
 obtain ⟨_,_,_,_,_,_,i7⟩:=z5p he
 rw [z9k he]
 exact ⟨z79 h ho (z28 _ _ _ _ (by omega) (by omega)) (z3w _ _ i7),z8p⟩
theorem z7i {o:Nat} {f:Flash} {n m:Int} (h:OkF f) (ho:o≤1) (he:(sealS f (o:Int) n m).2=0∨(sealS f (o:Int) n m).2=7):Beside o (sealS f (o:Int) n m).1 f∧Fine (sealS f (o:Int) n m).2 f:=by
 obtain ⟨_,_,e⟩:=sealS_out he
 rw [e] at he ⊢
 obtain ⟨_,_,_,_,_,_,i7⟩:=z5p he
 rw [z9k he]
 exact ⟨z79 h ho (z28 _ _ _ _ (by omega) (by simp only [headOf,List.length_cons,List.length_nil]; omega)) (z3w _ _ i7),z8p⟩
theorem checkU_mk {u:UnitD} (h:OkF u.f) (h1:0≤u.n) (h2:u.n≤8) (h3:0≤u.got) (h4:u.got≤40):z14 u=0:=by
 unfold z14
 rw [if_pos h.1,if_pos h.2,if_neg (by omega)]
theorem z6w {u:UnitD} (h:z14 u=0):OkF u.f:=⟨(z3a h).1,(z3a h).2.1⟩
def OkC (u:UnitD):Prop:=(0≤u.n∧u.n≤8)∧0≤u.got∧u.got≤40
theorem z2b {o:Nat} {u:UnitD} {g:Flash} {e:Int} (hu:OkF u.f) (hc:OkC u) (h:(e=0∨e=7)→Beside o g u.f∧Fine e u.f) :
  Beside o (changeU u g e).1.f u.f∧OkC (changeU u g e).1∧(u.f.fuel=-1→(changeU u g e).2=false→(changeU u g e).1=u):=by
 unfold changeU
 by_cases c:e=0
 ·rw [if_pos c]; exact ⟨(h (.inl c)).1,hc,fun _ h=>by cases h⟩
 ·rw [if_neg c]
  by_cases c2:e=7
  ·rw [if_pos c2]; exact ⟨(h (.inr c2)).1,⟨by simp,by simp⟩,fun hf _=>absurd c2 ((h (.inr c2)).2 hf)⟩
  ·rw [if_neg c2]; exact ⟨z7h hu,hc,fun _ _=>rfl⟩
theorem z9f {o:Nat} {u:UnitD} {s:UState} {m:Message} (hu:OkF u.f) (hc:OkC u) (ho:o≤1) (hs:1-s.slot=(o:Int)):Beside o (fillU u s m).f u.f∧OkC (fillU u s m):=by
 unfold fillU
 by_cases c:u.n≠m.n∨u.got≠m.at_∨40<m.at_+m.words.length
 ·rw [if_pos c]; exact ⟨z7h hu,hc⟩
 ·rw [if_neg c]
  have hb:Beside o (fillC u s m).1.f u.f∧OkC (fillC u s m).1:=by
   unfold fillC
   rw [hs]
   have:=z2b (o:=o) (u:=u) (g:=(fillS u.f (o:Int) m.at_ m.words).1) (e:=(fillS u.f (o:Int) m.at_ m.words).2) hu hc (fun he=>z7a hu ho he)
   exact ⟨this.1,this.2.1⟩
  by_cases c2:(fillC u s m).2=true
  ·rw [if_pos c2]
   have e:(fillC u s m).1=⟨(fillS u.f (1-s.slot) m.at_ m.words).1,u.up,u.n,u.got⟩:=by rw [show fillC u s m=_ from (z5o (u:=u) c2).2]
   refine ⟨hb.1,?_⟩
   rw [e]
   obtain ⟨h1,h2,h3⟩:=hc
   exact ⟨h1,by simp only; omega,by simp only; omega⟩
  ·rw [if_neg c2]; exact hb
theorem z80 {o:Nat} {u:UnitD} {s:UState} {m:Message} (hu:OkF u.f) (hc:OkC u) (hm:1≤m.n∧m.n≤8) (ho:o≤1) (hs:1-s.slot=(o:Int)):Beside o (pieceU u s m).f u.f∧OkC (pieceU u s m):=by
 unfold pieceU
 by_cases c:0<s.ready∨m.n≤s.by_∨8<m.n
 ·rw [if_pos c]; exact ⟨z7h hu,hc⟩
 rw [if_neg c]
 by_cases c2:m.at_=0∧(u.n≠m.n∨u.got=0)
 ·rw [if_pos c2]
  have hb:Beside o (clearC u s).1.f u.f∧OkC (clearC u s).1:=by
   unfold clearC
   rw [hs]
   have:=z2b (o:=o) (u:=u) (g:=(clearS u.f (o:Int)).1) (e:=(clearS u.f (o:Int)).2) hu hc (fun he=>z4e hu ho he)
   exact ⟨this.1,this.2.1⟩
  by_cases c3:(clearC u s).2=true
  ·rw [if_pos c3]
   have:=z9f (u:=⟨(clearC u s).1.f,(clearC u s).1.up,m.n,0⟩) (s:=s) (m:=m) hb.1.1 ⟨⟨by simp only; omega,hm.2⟩,by simp,by simp⟩ ho hs
   exact ⟨zf9 this.1 hb.1,this.2⟩
  ·rw [if_neg c3]; exact hb
 ·rw [if_neg c2]; exact z9f hu hc ho hs
theorem keep_st {s:UState} (h:OkState s):stateR (keepS s.by_ s.slot s.ready)=s:=by
 obtain ⟨⟨a1,a2⟩,_,c1,c2⟩:=h
 obtain ⟨sl,by_,re⟩:=s
 simp only at a1 a2 c1 c2
 unfold keepS stateR
 have e1:∀ t:UState,stepR t [1,sl,by_]=⟨sl,by_,0⟩:=fun t=>if_pos ⟨rfl,rfl,a2⟩
 by_cases c:0<re
 ·rw [if_pos c,List.foldl_cons,e1,List.foldl_cons,List.foldl_nil]
  unfold stepR
  rw [if_neg (by simp),if_pos ⟨rfl,rfl⟩]
  rfl
 ·rw [if_neg c,List.foldl_cons,e1,List.foldl_nil,show re=0 by omega]
theorem z4a {u:UnitD} {r:List Int} (hu:OkF u.f) (hc:OkC u) :
  OkF (z1o u r).1.f∧OkC (z1o u r).1∧(∀ i,64≤i→(z1o u r).1.f.words.getD i 0=u.f.words.getD i 0)∧(ofU (z1o u r).1.f=ofU u.f∨ofU (z1o u r).1.f=stepR (ofU u.f) r) ∧
  ((z1o u r).2=true→ofU (z1o u r).1.f=stepR (ofU u.f) r∧(z1o u r).1=⟨(z1o u r).1.f,u.up,u.n,u.got⟩) ∧
  (u.f.fuel=-1→(z1o u r).1.f.fuel=-1∧((z1o u r).2=false→(z1o u r).1=u)):=by
 unfold z1o
 obtain ⟨keep,hk⟩:∃ keep,keepS (ofU u.f).by_ (ofU u.f).slot (ofU u.f).ready=keep:=⟨_,rfl⟩
 have hks:stateR keep=ofU u.f:=by rw [← hk]; exact keep_st (z49 u.f)
 rw [hk]
 by_cases he:(z0u u.f r keep).2=0∨(z0u u.f r keep).2=7
 ·obtain ⟨cs,a1,a2,a3⟩:=z5b he
  obtain ⟨p1,p2,_⟩:=z2y hu
  obtain ⟨f1,f2⟩:=z31 u.f cs p1 p2
  obtain ⟨b1,b2,b3,b4⟩:=zcw (ws:=u.f.words) (fu:=u.f.fuel) a1 a2 f1 f2
  have hg:(z0u u.f r keep).1=(doCh u.f cs).1:=by rw [a3]; rfl
  have hF:OkF (z0u u.f r keep).1:=by rw [hg]; exact ⟨b1,b2.trans hu.2⟩
  have hst:∀ k,recsOf (doCh u.f cs).1.words=k→ofU (z0u u.f r keep).1=stateR k:=fun k e=>by rw [hg,zdj b1]; unfold stW; rw [← e]
  have h1:stateR (recsOf u.f.words++[r])=stepR (ofU u.f) r:=by rw [zdj hu.1]; unfold stateR stW; rw [List.foldl_append]; rfl
  have h2:stateR (keep++[r])=stepR (ofU u.f) r:=by rw [← hks]; unfold stateR; rw [List.foldl_append]; rfl
  have hor:ofU (z0u u.f r keep).1=stepR (ofU u.f) r∨((doCh u.f cs).2=false∧ofU (z0u u.f r keep).1=ofU u.f):=by
   rcases b4 with b4 | b4 | ⟨b4,b5⟩
   ·exact .inl ((hst _ b4).trans h1)
   ·exact .inl ((hst _ b4).trans h2)
   ·exact .inr ⟨b4,by rw [hst _ b5,zdj hu.1]; rfl⟩
  have hw:∀ i,64≤i→(z0u u.f r keep).1.words.getD i 0=u.f.words.getD i 0:=fun i hi=>by rw [hg]; exact b3 i hi
  rcases he with he | he
  ·have hd:(doCh u.f cs).2=true:=by
    rw [a3] at he
    cases hd:(doCh u.f cs).2 with
    | true=>rfl
    | false=>simp only [power,hd,powerE] at he; omega
   have hs:=hor.resolve_right (fun h=>by rw [hd] at h; cases h.1)
   unfold changeU
   rw [if_pos he]
   refine ⟨hF,hc,hw,.inr hs,fun _=>⟨hs,rfl⟩,fun ef=>⟨?_,fun h=>by cases h⟩⟩
   rw [hg,z2n ef]
  ·have hn:¬ (z0u u.f r keep).2=0:=by omega
   unfold changeU
   rw [if_neg hn,if_pos he]
   refine ⟨hF,⟨by simp,by simp⟩,hw,hor.elim .inr (fun h=>.inl h.2),(fun h=>by cases h),fun ef=>?_⟩
   rw [a3,z2n ef] at he
   exact absurd he (show ¬ (powerE true:Int)=7 by decide)
 ·unfold changeU
  rw [if_neg (fun h=>he (.inl h)),if_neg (fun h=>he (.inr h))]
  exact ⟨hu,hc,fun _ _=>rfl,.inl rfl,(fun h=>by cases h),fun ef=>⟨ef,fun _=>rfl⟩⟩
theorem zci {b:List (List UInt8)} {u:UnitD} {m:Message} (h:u.up=false):z0x b u m=(u,[]):=by
 unfold z0x; rw [if_neg (by rw [h]; simp)]
theorem zdd {b:List (List UInt8)} {u:UnitD} {m:Message} (h:(hearU b u m).2=0):hearE b u m=0∧hearU b u m=(z0x b u m,0):=by
 unfold hearU at h ⊢
 by_cases c:hearE b u m=0
 ·rw [if_pos c]; exact ⟨c,rfl⟩
 ·rw [if_neg c] at h; exact absurd h c
theorem zhq {b:List (List UInt8)} {u:UnitD} {m:Message} (h1:z0r b=0) (h2:z14 u=0) (h3:checkM m=0):hearU b u m=(z0x b u m,0):=by
 unfold hearU hearE
 rw [if_pos h1,if_pos h2,if_pos h3]
end Vm
end Go.Proofs.YtlbppjmekiemiacGreatDoor

namespace Go.Proofs.YtlbppjmekiemiacGreatDoor
namespace Vm

theorem z95 {s:UState} (h:OkState s):∃ o:Nat,o≤1∧1-s.slot=(o:Int)∧s.slot=((1-o:Nat):Int):=by
 obtain ⟨⟨h1,h2⟩,_⟩:=h
 by_cases c:s.slot=0
 ·exact ⟨1,by omega,by omega,by omega⟩
 ·exact ⟨0,by omega,by omega,by omega⟩
theorem zcv {u:UnitD} (h:z14 u=0):OkC u:=by
 obtain ⟨_,_,a,b,c,d⟩:=z3a h
 exact ⟨⟨a,b⟩,c,d⟩
theorem zbr {u:UnitD} (h:OkF u.f) (hc:OkC u):z14 u=0:=checkU_mk h hc.1.1 hc.1.2 hc.2.1 hc.2.2
def Kept (u:UnitD) (x:UnitD):Prop:=OkF x.f∧OkC x∧(ofU x.f).slot=(ofU u.f).slot∧(ofU x.f).by_=(ofU u.f).by_ ∧
 ∀ i,64+64*(ofU u.f).slot.toNat≤i→i<128+64*(ofU u.f).slot.toNat→x.f.words.getD i 0=u.f.words.getD i 0
theorem z7k {u x:UnitD} {o:Nat} (hu:OkF u.f) (hs:(ofU u.f).slot=((1-o:Nat):Int)) (ho:o≤1) (h:Beside o x.f u.f) (hc:OkC x):Kept u x:=by
 have e:=z5x h hu
 refine ⟨h.1,hc,by rw [e],by rw [e],fun i h1 h2=>h.2.1 i ?_⟩
 rw [hs] at h1 h2
 omega
theorem zec {u x:UnitD} {r:List Int} (hx:Kept u x) (hr:(stepR (ofU x.f) r).slot=(ofU x.f).slot∧(stepR (ofU x.f) r).by_=(ofU x.f).by_):Kept u (z1o x r).1:=by
 obtain ⟨k1,k2,k3,k4,k5⟩:=hx
 obtain ⟨n1,n2,n3,n4,_⟩:=z4a (r:=r) k1 k2
 refine ⟨n1,n2,?_,?_,fun i h1 h2=>(n3 i (by omega)).trans (k5 i h1 h2)⟩
 ·rcases n4 with e | e
  ·rw [e]; exact k3
  ·rw [e,hr.1]; exact k3
 ·rcases n4 with e | e
  ·rw [e]; exact k4
  ·rw [e,hr.2]; exact k4
theorem zcm (s:UState) (n:Int):stepR s [2,n]=⟨s.slot,s.by_,n⟩:=by
 unfold stepR
 rw [if_neg (by simp),if_pos ⟨rfl,rfl⟩]; rfl
theorem zdt (s:UState) (n:Int):stepR s [3,n]=⟨s.slot,s.by_,0⟩:=by
 unfold stepR
 rw [if_neg (by simp),if_neg (by simp),if_pos ⟨rfl,rfl⟩]
theorem zb3 (s:UState) {o n:Int} (h:o≤1):stepR s [1,o,n]=⟨o,n,0⟩:=if_pos ⟨rfl,rfl,h⟩
theorem z5t (u:UnitD) (m:Message):(goneU u m).1.f=u.f:=by unfold goneU; split<;>rfl
theorem goneU_c {u:UnitD} (h:OkC u) (m:Message):OkC (goneU u m).1:=by
 unfold goneU
 split
 ·exact ⟨by simp,by simp⟩
 ·exact h
theorem zg8 {u x:UnitD} {m:Message} (h:Kept u x):Kept u (goneU x m).1:=by
 obtain ⟨k1,k2,k3,k4,k5⟩:=h
 have e:=z5t x m
 exact ⟨by rw [e]; exact k1,goneU_c k2 m,by rw [e]; exact k3,by rw [e]; exact k4,by rw [e]; exact k5⟩
theorem kept_refl {u:UnitD} (h:OkF u.f) (hc:OkC u):Kept u u:=⟨h,hc,rfl,rfl,fun _ _ _=>rfl⟩
theorem hears_all {b:List (List UInt8)} {u:UnitD} {m:Message} (hu:OkF u.f) (hc:OkC u) (hm:1≤m.n∧m.n≤8) :
  Kept u (z0x b u m).1∨(m.kind=4∧(ofU u.f).ready=m.n∧OkF (z0x b u m).1.f∧OkC (z0x b u m).1∧ofU (z0x b u m).1.f=⟨1-(ofU u.f).slot,m.n,0⟩∧∀ i,64≤i→(z0x b u m).1.f.words.getD i 0=u.f.words.getD i 0):=by
 have hk:=kept_refl hu hc
 obtain ⟨o,ho,hs,hs'⟩:=z95 (z49 u.f)
 by_cases hup:u.up=true
 case neg=>rw [zci (by simpa using hup)]; exact .inl hk
 unfold z0x
 rw [if_pos hup]
 by_cases k1:m.kind=1
 ·rw [if_pos k1]
  obtain ⟨p1,p2⟩:=z80 (u:=u) (s:=ofU u.f) (m:=m) hu hc hm ho hs
  exact .inl (z7k hu hs' ho p1 p2)
 rw [if_neg k1]
 by_cases k2:m.kind=2
 ·rw [if_pos k2]
  refine .inl ?_
  unfold prepareU
  by_cases c1:m.n≤(ofU u.f).by_
  ·rw [if_pos c1]; exact hk
  rw [if_neg c1]
  by_cases c2:(ofU u.f).ready=m.n
  ·rw [if_pos c2]; exact hk
  rw [if_neg c2]
  by_cases c3:0<(ofU u.f).ready
  ·rw [if_pos c3]; exact hk
  rw [if_neg c3]
  split
  case isFalse=>exact hk
  split
  case isFalse=>exact hk
  have hb:=z2b (o:=o) (u:=u) (g:=(sealS u.f (1-(ofU u.f).slot) m.at_ m.image).1) (e:=(sealS u.f (1-(ofU u.f).slot) m.at_ m.image).2) hu hc (fun he=>by rw [hs] at he ⊢; exact z7i hu ho he)
  have hb1:Beside o (sealC u (ofU u.f) m).1.f u.f:=hb.1
  have hb2:OkC (sealC u (ofU u.f) m).1:=hb.2.1
  split
  case isFalse=>exact z7k hu hs' ho hb1 hb2
  have hx:Kept u ⟨(sealC u (ofU u.f) m).1.f,(sealC u (ofU u.f) m).1.up,0,0⟩:=z7k hu hs' ho hb1 ⟨by simp,by simp⟩
  unfold sealedU
  split
  case isFalse=>exact hx
  have hn:=zec (r:=[2,m.n]) hx (by rw [zcm]; exact ⟨rfl,rfl⟩)
  split<;>exact hn
 rw [if_neg k2]
 by_cases k4:m.kind=4∨m.kind=5
 case neg=>rw [if_neg k4]; exact .inl hk
 rw [if_pos k4]
 unfold decidedU
 by_cases c4:m.kind=4
 ·rw [if_pos c4]
  by_cases c1:(ofU u.f).by_=m.n
  ·rw [if_pos c1]; exact .inl hk
  rw [if_neg c1]
  by_cases c2:(ofU u.f).ready=m.n
  case neg=>rw [if_neg c2]; exact .inl hk
  rw [if_pos c2]
  obtain ⟨n1,n2,n3,n4,_⟩:=z4a (u:=u) (r:=[1,1-(ofU u.f).slot,m.n]) hu hc
  have key:Kept u (z1o u [1,1-(ofU u.f).slot,m.n]).1∨(m.kind=4∧(ofU u.f).ready=m.n∧OkF (z1o u [1,1-(ofU u.f).slot,m.n]).1.f∧OkC (z1o u [1,1-(ofU u.f).slot,m.n]).1∧ofU (z1o u [1,1-(ofU u.f).slot,m.n]).1.f=⟨1-(ofU u.f).slot,m.n,0⟩∧∀ i,64≤i→(z1o u [1,1-(ofU u.f).slot,m.n]).1.f.words.getD i 0=u.f.words.getD i 0):=by
   rcases n4 with e | e
   ·exact .inl ⟨n1,n2,by rw [e],by rw [e],fun i h1 _=>n3 i (by omega)⟩
   ·rw [zb3 _ (by omega)] at e
    exact .inr ⟨c4,c2,n1,n2,e,n3⟩
  split<;>exact key
 ·rw [if_neg c4]
  by_cases c1:m.n≤(ofU u.f).by_
  ·rw [if_pos c1]; exact .inl hk
  rw [if_neg c1]
  by_cases c2:(ofU u.f).ready=m.n
  ·rw [if_pos c2]
   have hn:=zec (r:=[3,m.n]) hk (by rw [zdt]; exact ⟨rfl,rfl⟩)
   split
   ·exact .inl (zg8 hn)
   ·exact .inl hn
  ·rw [if_neg c2]; exact .inl (zg8 hk)
theorem zh6 {b:List (List UInt8)} {u:UnitD} {m:Message} (hu:z14 u=0) (hm:checkM m=0):z14 (z0x b u m).1=0:=by
 obtain ⟨_,_,_,_,m1,m2,_⟩:=z1e hm
 rcases hears_all (b:=b) (z6w hu) (zcv hu) ⟨m1,m2⟩ with h | ⟨_,_,h1,h2,_⟩
 ·exact zbr h.1 h.2.1
 ·exact zbr h1 h2
theorem okF_fuel {f:Flash} {fv:Int} (h:OkF f) (h1:-1≤fv) (h2:fv≤100000):OkF ⟨f.words,fv⟩:=by
 obtain ⟨_,_,p3,p4,p5⟩:=z2y h
 exact okF_mk h.2 h1 h2 p3 p4 p5
theorem z3s {g f:Flash} {s:Int} (hg:OkF g) (hf:OkF f) (hs:0≤s∧s≤1) (h:∀ i,64+64*s.toNat≤i→i<128+64*s.toNat→g.words.getD i 0=f.words.getD i 0):z1l g s=z1l f s:=by
 obtain ⟨t,rfl⟩:=Int.eq_ofNat_of_zero_le hs.1
 obtain ⟨a1,a2,a3,_⟩:=z2y hg
 obtain ⟨b1,b2,b3,_⟩:=z2y hf
 have h':∀ i,64+64*t≤i→i<128+64*t→g.words.getD i 0=f.words.getD i 0:=fun i h1 h2=>h i (by simpa using h1) (by simpa using h2)
 exact zek (xs:=g.words) (ws:=f.words) (fx:=g.fuel) (fw:=f.fuel) (z3m hg.2 a1 a2 a3 (by omega)) (z3m hf.2 b1 b2 b3 (by omega)) (hg.2.trans hf.2.symm) h'
theorem runsU_ok {u:UnitD} (h:z14 u=0):z5i u=z1l u.f (ofU u.f).slot:=by unfold z5i; rw [if_pos h]
theorem zdm {u:UnitD} (h:z14 u=0):readU u=(ofU u.f,0):=by unfold readU; rw [if_pos h]
theorem z9u {u:UnitD} (h:z14 u=0):z4l u=(⟨⟨u.f.words,-1⟩,true,0,0⟩,0):=by unfold z4l; rw [if_pos h]
theorem ofU_fuel {f:Flash} {fv:Int} (h:OkF f) (h1:-1≤fv) (h2:fv≤100000):ofU ⟨f.words,fv⟩=ofU f:=by
 rw [zdj h.1,zdj (okF_fuel h h1 h2).1]
end Vm
end Go.Proofs.YtlbppjmekiemiacGreatDoor

namespace Go.Proofs.YtlbppjmekiemiacGreatDoor
namespace Vm

theorem gone_up (u:UnitD) (m:Message):(goneU u m).1.up=u.up:=by unfold goneU; split<;>rfl
theorem z83 (u:UnitD) (m:Message):(goneU u m).2=doneM m:=by unfold goneU; split<;>rfl
theorem zf7 {b:List (List UInt8)} {u:UnitD} {m:Message} (hup:u.up=true) (hk:m.kind=4∨m.kind=5):z0x b u m=decidedU u (ofU u.f) m:=by
 unfold z0x; rw [if_pos hup,if_neg (by omega),if_neg (by omega),if_pos hk]
theorem z62 {k u n:Int} (h1:1≤k∧k≤7) (h2:0≤u∧u≤3) (h3:1≤n∧n≤8):checkM ⟨k,u,n,0,0,[],false⟩=0:=by
 unfold checkM
 rw [if_neg (by simp only [List.length_nil]; omega),if_pos (show z04 []=true from rfl)]
end Vm
end Go.Proofs.YtlbppjmekiemiacGreatDoor

namespace Go.Proofs.YtlbppjmekiemiacGreatDoor
namespace Vm

def Holds (ws image:List Int) (o k:Nat):Prop :=
 (∀ i,64+64*o≤i→i<68+64*o→ws.getD i 0=65535)∧(∀ i,i<k→ws.getD (68+64*o+i) 0=image.getD i 0)∧∀ i,68+64*o+k≤i→i<128+64*o→ws.getD i 0=65535
structure Heard (s:UState) (n:Int) (image:List Int) (o k:Nat) (u:UnitD):Prop where
 f:OkF u.f
 c:OkC u
 fuel:u.f.fuel=-1
 up:u.up=true
 st:ofU u.f=s
 none:k=0→u.got=0
 some:0<k→u.n=n∧u.got=k∧Holds u.f.words image o k
theorem z5l {f:Flash} {o:Nat} (h:OkF f) (ho:o≤1):z0g f (o:Int)=0:=by
 obtain ⟨a1,a2,a3,_⟩:=z2y h
 exact z3m (ws:=f.words) (fu:=f.fuel) h.2 a1 a2 a3 ho
theorem zih {ws:List Int} (h:ws.length=192):okLen ws.length=true:=by rw [h]; rfl
theorem fill_step {u:UnitD} {s:UState} {m:Message} {image p:List Int} {o k:Nat} (hu:OkF u.f) (hc:OkC u) (hf:u.f.fuel=-1) (ho:o≤1) (hs:1-s.slot=(o:Int)) (hst:ofU u.f=s) (hn:u.n=m.n) (hg:u.got=(k:Int)) (hm:m.at_=(k:Int)) (hw:m.words=p)
  (hp:z04 p=true) (hl:k+p.length≤40) (hi:∀ i,i<p.length→p.getD i 0=image.getD (k+i) 0) (hh:Holds u.f.words image o k) :
  ∃ g:Flash,fillU u s m=⟨g,u.up,u.n,((k+p.length:Nat):Int)⟩∧OkF g∧g.fuel=-1∧ofU g=s∧Holds g.words image o (k+p.length):=by
 have ck:=z5l hu ho
 obtain ⟨a1,a2,a3,_⟩:=z2y hu
 have ef:fillS u.f (o:Int) (k:Int) p=(⟨z0a u.f.words (z0c (68+64*(o:Int)+(k:Int)) p),-1⟩,0):=by
  unfold fillS
  rw [if_pos ck,if_pos (by omega),z72 (zih hu.2) a1 a2 a3 (by omega) (by rw [hu.2]; omega) hp,z2n hf]; rfl
 have hb:=z7a (o:=o) (a:=(k:Int)) (l:=p) hu ho (.inl (by rw [ef]))
 rw [ef] at hb
 refine ⟨_,?_,hb.1.1,rfl,(z5x hb.1 hu).trans hst,?_⟩
 ·unfold fillU
  rw [if_neg (by rw [hn,hg,hm,hw]; omega)]
  unfold fillC changeU
  rw [hs,hm,hw,ef,if_pos rfl,if_pos rfl]
  simp only [hg,len]
  congr 1
 ·have b_at:=z65 p (68+64*(o:Int)+(k:Int)) u.f.words (by omega) (by rw [hu.2]; omega)
  obtain ⟨h1,h2,h3⟩:=hh
  refine ⟨fun i i1 i2=>?_,fun i i1=>?_,fun i i1 i2=>?_⟩
  ·rw [b_at,if_neg (by omega)]; exact h1 i i1 i2
  ·rw [b_at]
   by_cases c:i<k
   ·rw [if_neg (by omega)]; exact h2 i c
   ·rw [if_pos (by omega),h3 _ (by omega) (by omega)]
    rw [show 68+64*o+i-(68+64*(o:Int)+(k:Int)).toNat=i-k by omega,z68 (z21 hp _ (by omega)),hi _ (by omega),show k+(i-k)=i by omega]
  ·rw [b_at,if_neg (by omega)]; exact h3 i (by omega) i2
theorem zkf {b:List (List UInt8)} {s:UState} {n:Int} {image p:List Int} {o k:Nat} {u:UnitD} {m:Message} (h:Heard s n image o k u) (hr:s.ready=0) (hby:s.by_<n) (hn:n≤8) (hn0:1≤n) (ho:o≤1) (hs:1-s.slot=(o:Int))
  (hk:m.kind=1) (hmn:m.n=n) (hm:m.at_=(k:Int)) (hw:m.words=p) (hp:z04 p=true) (hp0:0<p.length) (hl:k+p.length≤40) (hi:∀ i,i<p.length→p.getD i 0=image.getD (k+i) 0) :
  Heard s n image o (k+p.length) (z0x b u m).1∧(z0x b (z0x b u m).1 m).1=(z0x b u m).1:=by
 have e1:∀ v:UnitD,v.up=true→(z0x b v m).1=pieceU v (ofU v.f) m:=fun v hv=>by unfold z0x; rw [if_pos hv,if_pos hk]
 have key:Heard s n image o (k+p.length) (z0x b u m).1:=by
  rw [e1 u h.up,h.st]
  have fin:∀ v:UnitD,OkF v.f→OkC v→v.f.fuel=-1→ofU v.f=s→v.n=m.n→v.got=(k:Int)→v.up=true→Holds v.f.words image o k→Heard s n image o (k+p.length) (fillU v s m):=fun v q1 q2 q3 q4 q5 q6 q7 q8=>by
   obtain ⟨g,g1,g2,g3,g4,g5⟩:=fill_step q1 q2 q3 ho hs q4 q5 q6 hm hw hp hl hi q8
   rw [g1]
   exact ⟨g2,⟨q2.1,by simp only; omega,by simp only; omega⟩,g3,q7,g4,fun e=>by omega,fun _=>⟨by simp only; omega,rfl,g5⟩⟩
  unfold pieceU
  rw [if_neg (by omega)]
  by_cases c:k=0
  ·have hg:=h.none c
   subst c
   rw [if_pos ⟨hm,.inr hg⟩]
   have ck:=z5l h.f ho
   obtain ⟨a1,a2,a3,_⟩:=z2y h.f
   have ec:clearS u.f (o:Int)=(⟨z0a u.f.words (clearCh (o:Int)),-1⟩,0):=by
    unfold clearS
    rw [if_pos ck,z2n h.fuel]; rfl
   have hb:=z4e (o:=o) h.f ho (.inl (by rw [ec]))
   rw [ec] at hb
   obtain ⟨d1,d2,d3⟩:=clear_at h.f.2 ho a3
   obtain ⟨cw,hcw⟩:∃ cw,z0a u.f.words (clearCh (o:Int))=cw:=⟨_,rfl⟩
   rw [hcw] at ec hb d1 d2 d3
   have ec2:clearC u s=(⟨⟨cw,-1⟩,u.up,u.n,u.got⟩,true):=by
    unfold clearC changeU
    rw [hs,ec,if_pos rfl]
   rw [ec2,if_pos rfl]
   have q1:OkF (⟨cw,-1⟩:Flash):=hb.1.1
   have q4:ofU (⟨cw,-1⟩:Flash)=s:=(z5x hb.1 h.f).trans h.st
   have q8:Holds cw image o 0:=⟨fun i i1 i2=>d2 i i1 (by omega),fun i hi=>absurd hi (Nat.not_lt_zero i),fun i i1 i2=>d2 i (by omega) i2⟩
   exact fin ⟨⟨cw,-1⟩,u.up,m.n,0⟩ q1 ⟨by simp only; omega,by simp,by simp⟩ rfl q4 rfl rfl h.up q8
  ·obtain ⟨s1,s2,s3⟩:=h.some (by omega)
   rw [if_neg (by omega)]
   exact fin u h.f h.c h.fuel h.st (s1.trans hmn.symm) s2 h.up s3
 refine ⟨key,?_⟩
 obtain ⟨s1,s2,_⟩:=key.some (by omega)
 rw [e1 _ key.up,key.st]
 unfold pieceU
 rw [if_neg (by omega),if_neg (by omega)]
 unfold fillU
 rw [if_pos (.inr (.inl (by omega)))]
theorem seal_fine {g image:List Int} {o:Nat} {name:Int} (hl:g.length=192) (ho:o≤1) (hw:z04 g=true) (hh:Holds g image o image.length) (hi:z04 image=true) (h1:1≤image.length) (h2:image.length≤40) (h3:1≤name) (h4:name≤60) :
  sealS ⟨g,-1⟩ (o:Int) (image.length:Int) name=(⟨z0a g (z0c (64+64*(o:Int)) (headOf (image.length:Int) name)),-1⟩,0) ∧
  z1l ⟨z0a g (z0c (64+64*(o:Int)) (headOf (image.length:Int) name)),-1⟩ (o:Int)=(image,name,0):=by
 obtain ⟨g1,g2,g3⟩:=hh
 have ch:okHead (image.length:Int) name=true:=by
  simp only [okHead,Bool.and_eq_true,decide_eq_true_eq]; omega
 have hd:z04 (headOf (image.length:Int) name)=true:=by
  simp only [headOf,z04,okWord,List.all_cons,List.all_nil,Bool.and_eq_true,decide_eq_true_eq,Bool.and_true]; omega
 have hdl:(headOf (image.length:Int) name).length=4:=rfl
 have ck:z0g ⟨g,-1⟩ (o:Int)=0:=z3m hl (by omega) (by omega) hw ho
 refine ⟨?_,?_⟩
 ·unfold sealS
  rw [if_pos ck,if_pos ch,z72 (zih hl) (by simp) (by simp) hw (by omega) (by simp only [hl,hdl]; omega) hd,zeh]; rfl
 have h_at:∀ i:Nat,(z0a g (z0c (64+64*(o:Int)) (headOf (image.length:Int) name))).getD i 0=if 64+64*o≤i∧i<68+64*o then (headOf (image.length:Int) name).getD (i-(64+64*o)) 0 else g.getD i 0:=fun i=>by
  rw [z65 (headOf (image.length:Int) name) _ g (by omega) (by rw [hl,hdl]; omega) i,hdl]
  by_cases c:64+64*o≤i∧i<68+64*o
  ·rw [if_pos (by omega),if_pos c,g1 i (by omega) (by omega),show (64+64*(o:Int)).toNat=64+64*o by omega,z68 (z21 hd _ (by omega))]
  ·rw [if_neg (by omega),if_neg c]
 have hok:z04 (z0a g (z0c (64+64*(o:Int)) (headOf (image.length:Int) name)))=true:=burn_ok (by omega) (by rw [hl,hdl]; omega) hw hd
 have hhl:(z0a g (z0c (64+64*(o:Int)) (headOf (image.length:Int) name))).length=192:=(z1n _ _).trans hl
 obtain ⟨h,hh⟩:∃ x,z0a g (z0c (64+64*(o:Int)) (headOf (image.length:Int) name))=x:=⟨_,rfl⟩
 rw [hh] at hok hhl h_at ⊢
 have hsl:sealedAt h (beginS (o:Int))=true∧h.getD (64+64*o) 0=(image.length:Int)∧h.getD (64+64*o+1) 0=name:=by
  rw [z6a]
  have e0:=h_at (64+64*o); have e1:=h_at (64+64*o+1); have e2:=h_at (64+64*o+2); have e3:=h_at (64+64*o+3)
  rw [if_pos (by omega)] at e0 e1 e2 e3
  rw [show 64+64*o-(64+64*o)=0 by omega] at e0
  rw [show 64+64*o+1-(64+64*o)=1 by omega] at e1
  rw [show 64+64*o+2-(64+64*o)=2 by omega] at e2
  rw [show 64+64*o+3-(64+64*o)=3 by omega] at e3
  refine ⟨?_,e0,e1⟩
  unfold sealedAt
  rw [e0,e1,e2,e3]
  simp only [headOf,List.getD_cons_zero,List.getD_cons_succ,ch,decide_true,Bool.true_and]
 unfold z1l
 rw [if_pos (z3m hhl (by omega) (by omega) hok ho),if_pos hsl.1]
 unfold imageR
 rw [if_pos hsl.1,z6a,hsl.2.1,hsl.2.2,z08]
 have:slc h (64+64*o+4) (64+64*o+4+image.length)=image:=by
  have sl:(slc h (64+64*o+4) (64+64*o+4+image.length)).length=image.length:=by rw [z41 _ _ _ (by omega)]
  refine z6p sl fun i hi=>?_
  rw [sl] at hi
  rw [z37 _ _ _ _ (by omega),h_at,if_neg (by omega),show 64+64*o+4+i=68+64*o+i by omega,g2 i hi]
 rw [this]
theorem zbj {b:List (List UInt8)} {w:List Int} (h:(z0m b w).2=0) (h0:(z0m b w).1≠0):z0j w=0∧1≤(z0m b w).1∧(z0m b w).1≤60∧z0r b=0:=by
 unfold z0m at h h0 ⊢
 by_cases c:z0j w=0
 ·rw [if_pos c] at h h0 ⊢
  unfold nameB at h h0 ⊢
  by_cases c2:z0r b=0
  ·rw [if_pos c2] at h h0 ⊢
   have:=z2d (imageText w) b 0 (by omega)
   have hb:=z3k c2
   unfold indexS at h0 ⊢
   exact ⟨c,by simp only at h0 ⊢; omega,by simp only at h0 ⊢; omega,c2⟩
  ·rw [if_neg c2] at h; exact absurd h c2
 ·rw [if_neg c] at h; exact absurd h c
theorem slc_at (l:List Int) (k j i:Nat) (h:k+i<j):(slc l k j).getD i 0=l.getD (k+i) 0:=z37 l k j i h
end Vm
end Go.Proofs.YtlbppjmekiemiacGreatDoor

namespace Go.Proofs.YtlbppjmekiemiacGreatDoor
namespace Vm

structure GState where
 n:Int
 version:Int
 commit:Bool
 abort:Bool
 ended:Bool
def noState:GState:=⟨0,0,false,false,false⟩
def stepGt (s:GState) (r:List Int):GState :=
 if r.getD 0 0=1∧r.length=3∧1≤r.getD 1 0∧r.getD 1 0≤8 then ⟨r.getD 1 0,r.getD 2 0,false,false,false⟩
 else if r.length≠2∨r.getD 1 0≠s.n∨s.n=0 then s
 else if r.getD 0 0=2∧s.abort=false then ⟨s.n,s.version,true,s.abort,s.ended⟩
 else if r.getD 0 0=3∧s.commit=false then ⟨s.n,s.version,s.commit,true,s.ended⟩
 else if r.getD 0 0=4∧(s.commit=true∨s.abort=true) then ⟨s.n,s.version,s.commit,s.abort,true⟩ else s
def stateG (l:List (List Int)):GState:=l.foldl stepGt noState
def ofG (f:Flash):GState:=stateG (recordsF f).1
def noGate:Gate:=⟨noFlash,false,⟨⟨0,[],0⟩,0⟩,[],[]⟩
def z0t (g:Gate):Int :=
 if z0d g.f=0 then (if g.voted.length<1∨4<g.voted.length∨g.did.length≠g.voted.length then 4 else checkTrust g.t) else z0d g.f
def readG (g:Gate):GState × Int:=if z0t g=0 then (ofG g.f,0) else (noState,z0t g)
def madeG (r:Root) (units:Int):Gate:=⟨(formatF (newFlash 2).1).1,true,⟨r,0⟩,zeros units.toNat false,zeros units.toNat false⟩
def newG (r:Root) (units:Int):Gate × Int :=
 if units<1∨4<units then (noGate,3) else if z0t (madeG r units)=0 then (madeG r units,0) else (noGate,z0t (madeG r units))
def keepG (s:GState):List (List Int) :=
 if s.n=0 then [] else [[1,s.n,s.version]]++(if s.commit=true then [[2,s.n]] else [])++(if s.abort=true then [[3,s.n]] else [])++(if s.ended=true then [[4,s.n]] else [])
def forgetG (g:Gate):Gate:=⟨g.f,g.up,g.t,zeros g.voted.length false,zeros g.did.length false⟩
def changeG (g:Gate) (f:Flash) (e:Int):Gate × Bool :=
 if e=0 then (⟨f,g.up,g.t,g.voted,g.did⟩,true) else if e=7 then (⟨f,false,g.t,zeros g.voted.length false,zeros g.did.length false⟩,false) else (g,false)
def z0o (g:Gate) (r:List Int):Gate × Bool:=changeG g (z0u g.f r (keepG (ofG g.f))).1 (z0u g.f r (keepG (ofG g.f))).2
def upG (g:Gate):Int:=if z0t g=0 then (if g.up=true then 0 else 7) else z0t g
def begunG (g:Gate) (s:GState) (t:Trust) (v:Int):Gate × Int :=
 if (z0o g [1,s.n+1,v]).2=true then (⟨(z0o g [1,s.n+1,v]).1.f,(z0o g [1,s.n+1,v]).1.up,t,zeros g.voted.length false,zeros g.did.length false⟩,s.n+1) else ((z0o g [1,s.n+1,v]).1,0)
def beginE (b:List (List UInt8)) (l:List Signed) (g:Gate) (o:Offer) (now:Int):Int :=
 if upG g=0 then (if 0<(ofG g.f).n∧(ofG g.f).ended=false then 12 else if (ofG g.f).n=8 then 8 else (takeT b l g.t o now g.voted.length).2) else upG g
def beginG (b:List (List UInt8)) (l:List Signed) (g:Gate) (o:Offer) (now:Int):Gate × Int × Int :=
 if beginE b l g o now=0 then ((begunG g (ofG g.f) (takeT b l g.t o now g.voted.length).1 o.r.version).1,(begunG g (ofG g.f) (takeT b l g.t o now g.voted.length).1 o.r.version).2,0) else (noGate,0,beginE b l g o now)
def giveE (g:Gate):Int:=if upG g=0 then (if (ofG g.f).n=0∨(ofG g.f).commit=true∨(ofG g.f).abort=true then 12 else 0) else upG g
def giveG (g:Gate):Gate × Int:=if giveE g=0 then ((z0o g [3,(ofG g.f).n]).1,0) else (noGate,giveE g)
def kindG (s:GState) (n:Int):Int:=if s.commit=true∧s.n=n then 4 else 5
def z19 (s:GState) (unit n:Int):Message:=⟨kindG s n,unit,n,0,0,[],false⟩
def pieceM (unit n:Int) (w:List Int) (k:Nat):Message:=⟨1,unit,n,(k:Int),0,slc w k (min (k+8) w.length),false⟩
def z1p (unit n:Int) (w:List Int):Nat→Nat→List Message
 | 0,_=>[]
 | d+1,k=>if k<w.length then pieceM unit n w k::z1p unit n w d (k+8) else []
def dueE (g:Gate) (c:Campaign) (unit:Int):Int :=
 if upG g=0 then (if (ofG g.f).n=0∨(ofG g.f).ended=true then 12
  else if unit<0∨(g.voted.length:Int)≤unit∨c.n≠(ofG g.f).n∨(c.images.length:Int)≤unit∨(c.r.targets.length:Int)≤unit then 5 else 0) else upG g
def imageM (c:Campaign) (unit n:Int):List Message × Int :=
 if 40<(nth c.images unit.toNat []).length then ([],2)
 else (z1p unit n (nth c.images unit.toNat []) 6 0++[⟨2,unit,n,((nth c.images unit.toNat []).length:Int),(nth c.r.targets unit.toNat ⟨0,0,0⟩).image,[],false⟩],0)
def duesG (g:Gate) (s:GState) (c:Campaign) (unit:Int):List Message × Int :=
 if s.commit=true∨s.abort=true then (if nth g.did unit.toNat false=true then ([],0) else ([z19 s unit s.n],0))
 else if nth g.voted unit.toNat false=true then ([],0) else imageM c unit s.n
def dueG (g:Gate) (c:Campaign) (unit:Int):List Message × Int:=if dueE g c unit=0 then duesG g (ofG g.f) c unit else ([],dueE g c unit)
def indexB (x:Bool):Nat→List Bool→Int
 | _,[]=>-1
 | k,y::l=>if y=x then (k:Int) else indexB x (k+1) l
def hasB (x:Bool) (l:List Bool):Bool:=decide (0≤indexB x 0 l)
def z29 (g:Gate) (u:Int):Gate:=⟨g.f,g.up,g.t,setAt g.voted u.toNat true,g.did⟩
def didG (g:Gate) (u:Int):Gate:=⟨g.f,g.up,g.t,g.voted,setAt g.did u.toNat true⟩
def voteG (g:Gate) (s:GState) (u:Int):Gate:=if hasB false (z29 g u).voted=true then z29 g u else (z0o (z29 g u) [2,s.n]).1
def doneG (g:Gate) (s:GState) (u:Int):Gate:=if hasB false (didG g u).did=true then didG g u else (z0o (didG g u) [4,s.n]).1
def hearsS (g:Gate) (s:GState) (m:Message):Gate × List Message :=
 if m.kind=3 then (if s.n≠m.n∨s.ended=true∨s.commit=true∨s.abort=true∨m.yes=false then (g,[]) else (voteG g s m.unit,[]))
 else if m.kind=6 then (if s.n≠m.n∨s.ended=true∨(s.commit=false∧s.abort=false) then (g,[]) else (doneG g s m.unit,[]))
 else if m.kind=7 then (if s.n≠m.n∨s.ended=true∨s.commit=true∨s.abort=true then (g,[z19 s m.unit m.n]) else (g,[]))
 else (g,[])
def z06 (g:Gate) (m:Message):Gate × List Message:=if g.up=true then hearsS g (ofG g.f) m else (g,[])
def hearGE (g:Gate) (m:Message):Int:=if z0t g=0 then (if m.unit<0∨(g.voted.length:Int)≤m.unit∨m.n<1∨8<m.n then 3 else 0) else z0t g
def hearG (g:Gate) (m:Message):(Gate × List Message) × Int:=if hearGE g m=0 then (z06 g m,0) else ((noGate,[]),hearGE g m)
def bootG (g:Gate):Gate × Int :=
 if z0t g=0 then (⟨⟨g.f.words,-1⟩,true,g.t,zeros g.voted.length false,zeros g.did.length false⟩,0) else (noGate,z0t g)
end Vm
end Go.Proofs.YtlbppjmekiemiacGreatDoor

namespace Go.Proofs.YtlbppjmekiemiacGreatDoor
namespace Vm

structure OkG (s:GState):Prop where
 n0:0≤s.n
 n8:s.n≤8
 v0:0≤s.version
 v1:s.version≤65535
 one:s.commit=true→s.abort=true→False
 fin:s.ended=true→s.commit=true∨s.abort=true
 none:s.n=0→s=noState
theorem okG_no:OkG noState:=⟨by simp [noState],by simp [noState],by simp [noState],by simp [noState],fun h=>by simp [noState] at h,fun h=>by simp [noState] at h,fun _=>rfl⟩
theorem stepGt_ok {s:GState} {r:List Int} (hs:OkG s) (hr:checkRec r=0):OkG (stepGt s r):=by
 obtain ⟨_,_,r3⟩:=z1r hr
 have w2:=zh2 r3 2
 unfold stepGt
 split
 ·rename_i h; exact ⟨by simp only; omega,h.2.2.2,w2.1,w2.2,fun h=>(by cases h),fun h=>(by cases h),fun e=>(by simp only at e; omega)⟩
 ·split
  ·exact hs
  ·rename_i h1 h2
   have hn:s.n≠0:=fun e=>h2 (.inr (.inr e))
   split
   ·rename_i h; exact ⟨hs.n0,hs.n8,hs.v0,hs.v1,fun _ ha=>(by simp only at ha; rw [h.2] at ha; cases ha),fun _=>.inl rfl,fun e=>absurd e hn⟩
   ·split
    ·rename_i h; exact ⟨hs.n0,hs.n8,hs.v0,hs.v1,fun ha _=>(by simp only at ha; rw [h.2] at ha; cases ha),fun _=>.inr rfl,fun e=>absurd e hn⟩
    ·split
     ·rename_i h; exact ⟨hs.n0,hs.n8,hs.v0,hs.v1,hs.one,fun _=>h.2,fun e=>absurd e hn⟩
     ·exact hs
theorem zjd:∀ (l:List (List Int)) (s:GState),OkG s→(∀ r∈l,checkRec r=0)→OkG (l.foldl stepGt s)
 | [],_,hs,_=>hs
 | r::l,s,hs,h=>zjd l _ (stepGt_ok hs (h r (by simp))) fun x hx=>h x (by simp [hx])
theorem z24 (f:Flash):OkG (ofG f):=zjd _ _ okG_no (z3j f).2
theorem z5s {s:GState} {n v:Int} (h1:1≤n) (h8:n≤8):stepGt s [1,n,v]=⟨n,v,false,false,false⟩:=if_pos ⟨rfl,rfl,h1,h8⟩
theorem z30 {s:GState} (hn:s.n≠0) (ha:s.abort=false):stepGt s [2,s.n]=⟨s.n,s.version,true,s.abort,s.ended⟩:=by
 unfold stepGt
 rw [if_neg (by simp),if_neg (by simpa using hn),if_pos ⟨rfl,ha⟩]
theorem z4g {s:GState} (hn:s.n≠0) (hc:s.commit=false):stepGt s [3,s.n]=⟨s.n,s.version,s.commit,true,s.ended⟩:=by
 unfold stepGt
 rw [if_neg (by simp),if_neg (by simpa using hn),if_neg (by simp),if_pos ⟨rfl,hc⟩]
theorem z3n {s:GState} (hn:s.n≠0) (hc:s.commit=true∨s.abort=true):stepGt s [4,s.n]=⟨s.n,s.version,s.commit,s.abort,true⟩:=by
 unfold stepGt
 rw [if_neg (by simp),if_neg (by simpa using hn),if_neg (by simp),if_neg (by simp),if_pos ⟨rfl,hc⟩]
theorem keep_stG {s:GState} (h:OkG s):stateG (keepG s)=s:=by
 unfold keepG
 by_cases c:s.n=0
 ·rw [if_pos c,h.none c]; rfl
 rw [if_neg c]
 have hn1:1≤s.n:=by have:=h.n0; omega
 have h8:=h.n8
 have h1:=h.one
 have h2:=h.fin
 obtain ⟨n,v,co,ab,en⟩:=s
 simp only at c hn1 h8 h1 h2 ⊢
 unfold stateG
 rw [List.foldl_append,List.foldl_append,List.foldl_append,List.foldl_cons,List.foldl_nil,z5s hn1 h8]
 cases co<;>cases ab<;>cases en
 ·rfl
 ·exact absurd (h2 rfl) (by simp)
 ·simp only [Bool.false_eq_true,if_false,if_true,List.foldl_nil,List.foldl_cons]
  exact z4g (s:=⟨n,v,false,false,false⟩) c rfl
 ·simp only [Bool.false_eq_true,if_false,if_true,List.foldl_nil,List.foldl_cons]
  rw [show stepGt ⟨n,v,false,false,false⟩ [3,n]=⟨n,v,false,true,false⟩ from z4g (s:=⟨n,v,false,false,false⟩) c rfl]
  exact z3n (s:=⟨n,v,false,true,false⟩) c (.inr rfl)
 ·simp only [Bool.false_eq_true,if_false,if_true,List.foldl_nil,List.foldl_cons]
  exact z30 (s:=⟨n,v,false,false,false⟩) c rfl
 ·simp only [Bool.false_eq_true,if_false,if_true,List.foldl_nil,List.foldl_cons]
  rw [show stepGt ⟨n,v,false,false,false⟩ [2,n]=⟨n,v,true,false,false⟩ from z30 (s:=⟨n,v,false,false,false⟩) c rfl]
  exact z3n (s:=⟨n,v,true,false,false⟩) c (.inl rfl)
 ·exact (h1 rfl rfl).elim
 ·exact (h1 rfl rfl).elim
theorem zb6 {f:Flash} (h:z0d f=0):ofG f=stateG (recsOf f.words):=by unfold ofG; rw [zb7 h]
theorem z1f {g:Gate} {r:List Int} (hu:z0d g.f=0) :
  z0d (z0o g r).1.f=0∧(z0o g r).1.t=g.t∧(z0o g r).1.voted.length=g.voted.length∧(z0o g r).1.did.length=g.did.length ∧
  (ofG (z0o g r).1.f=ofG g.f∨ofG (z0o g r).1.f=stepGt (ofG g.f) r) ∧
  ((z0o g r).2=true→ofG (z0o g r).1.f=stepGt (ofG g.f) r∧(z0o g r).1=⟨(z0o g r).1.f,g.up,g.t,g.voted,g.did⟩) ∧
  (g.f.fuel=-1→(z0o g r).1.f.fuel=-1∧((z0o g r).2=false→(z0o g r).1=g)):=by
 unfold z0o
 obtain ⟨keep,hk⟩:∃ keep,keepG (ofG g.f)=keep:=⟨_,rfl⟩
 have hks:stateG keep=ofG g.f:=by rw [← hk]; exact keep_stG (z24 g.f)
 rw [hk]
 by_cases he:(z0u g.f r keep).2=0∨(z0u g.f r keep).2=7
 ·obtain ⟨cs,a1,a2,a3⟩:=z5b he
  obtain ⟨k1,_,_,_⟩:=z1w hu
  obtain ⟨_,p1,p2,_⟩:=z10 k1
  obtain ⟨f1,f2⟩:=z31 g.f cs p1 p2
  obtain ⟨b1,b2,b3,b4⟩:=zcw (ws:=g.f.words) (fu:=g.f.fuel) a1 a2 f1 f2
  have hg:(z0u g.f r keep).1=(doCh g.f cs).1:=by rw [a3]; rfl
  have hF:z0d (z0u g.f r keep).1=0:=by rw [hg]; exact b1
  have hst:∀ k,recsOf (doCh g.f cs).1.words=k→ofG (z0u g.f r keep).1=stateG k:=fun k e=>by rw [hg,zb6 b1,← e]
  have h1:stateG (recsOf g.f.words++[r])=stepGt (ofG g.f) r:=by rw [zb6 hu]; unfold stateG; rw [List.foldl_append]; rfl
  have h2:stateG (keep++[r])=stepGt (ofG g.f) r:=by rw [← hks]; unfold stateG; rw [List.foldl_append]; rfl
  have hor:ofG (z0u g.f r keep).1=stepGt (ofG g.f) r∨((doCh g.f cs).2=false∧ofG (z0u g.f r keep).1=ofG g.f):=by
   rcases b4 with b4 | b4 | ⟨b4,b5⟩
   ·exact .inl ((hst _ b4).trans h1)
   ·exact .inl ((hst _ b4).trans h2)
   ·exact .inr ⟨b4,by rw [hst _ b5,zb6 hu]⟩
  rcases he with he | he
  ·have hd:(doCh g.f cs).2=true:=by
    rw [a3] at he
    cases hd:(doCh g.f cs).2 with
    | true=>rfl
    | false=>simp only [power,hd,powerE] at he; omega
   have hs:=hor.resolve_right (fun h=>by rw [hd] at h; cases h.1)
   unfold changeG
   rw [if_pos he]
   refine ⟨hF,rfl,rfl,rfl,.inr hs,fun _=>⟨hs,rfl⟩,fun ef=>⟨?_,fun h=>by cases h⟩⟩
   rw [hg,z2n ef]
  ·have hn:¬ (z0u g.f r keep).2=0:=by omega
   unfold changeG
   rw [if_neg hn,if_pos he]
   refine ⟨hF,rfl,by simp [zeros],by simp [zeros],hor.elim .inr (fun h=>.inl h.2),(fun h=>by cases h),fun ef=>?_⟩
   rw [a3,z2n ef] at he
   exact absurd he (show ¬ (powerE true:Int)=7 by decide)
 ·unfold changeG
  rw [if_neg (fun h=>he (.inl h)),if_neg (fun h=>he (.inr h))]
  exact ⟨hu,rfl,rfl,rfl,.inl rfl,(fun h=>by cases h),fun ef=>⟨ef,fun _=>rfl⟩⟩
theorem z0n {g:Gate} (h:z0t g=0):z0d g.f=0∧1≤g.voted.length∧g.voted.length≤4∧g.did.length=g.voted.length∧checkTrust g.t=0:=by
 unfold z0t at h
 by_cases c1:z0d g.f=0
 ·rw [if_pos c1] at h
  by_cases c2:g.voted.length<1∨4<g.voted.length∨g.did.length≠g.voted.length
  ·rw [if_pos c2] at h; cases h
  ·rw [if_neg c2] at h
   exact ⟨c1,by omega,by omega,by omega,h⟩
 ·rw [if_neg c1] at h; exact absurd h c1
theorem z4r {g:Gate} (h1:z0d g.f=0) (h2:1≤g.voted.length) (h3:g.voted.length≤4) (h4:g.did.length=g.voted.length) (h5:checkTrust g.t=0):z0t g=0:=by
 unfold z0t
 rw [if_pos h1,if_neg (by omega),h5]
theorem z71 {g x:Gate} (h:z0t g=0) (h1:z0d x.f=0) (h2:x.t=g.t) (h3:x.voted.length=g.voted.length) (h4:x.did.length=g.did.length):z0t x=0:=by
 obtain ⟨_,a,b,c,d⟩:=z0n h
 exact z4r h1 (by omega) (by omega) (by omega) (by rw [h2]; exact d)
theorem z1q {g:Gate} {r:List Int} (h:z0t g=0):z0t (z0o g r).1=0:=by
 obtain ⟨n1,n2,n3,n4,_⟩:=z1f (r:=r) (z0n h).1
 exact z71 h n1 n2 n3 n4
theorem z2x {α:Type} (l:List α) (i:Nat) (x:α):(setAt l i x).length=l.length:=by simp [setAt]
theorem z3d {g:Gate} {u:Int} (h:z0t g=0):z0t (z29 g u)=0:=z71 h (z0n h).1 rfl (z2x _ _ _) rfl
theorem z4u {g:Gate} {u:Int} (h:z0t g=0):z0t (didG g u)=0:=z71 h (z0n h).1 rfl rfl (z2x _ _ _)
theorem zd6 {g:Gate} {m:Message} (h:z0t g=0) (hm:1≤m.n):z0t (z06 g m).1=0 ∧
  (ofG (z06 g m).1.f=ofG g.f ∨
   (m.kind=3∧m.yes=true∧m.n=(ofG g.f).n∧(ofG g.f).ended=false∧(ofG g.f).commit=false∧(ofG g.f).abort=false∧hasB false (setAt g.voted m.unit.toNat true)=false ∧
    ofG (z06 g m).1.f=⟨(ofG g.f).n,(ofG g.f).version,true,(ofG g.f).abort,(ofG g.f).ended⟩) ∨
   (m.kind=6∧m.n=(ofG g.f).n∧((ofG g.f).commit=true∨(ofG g.f).abort=true)∧ofG (z06 g m).1.f=⟨(ofG g.f).n,(ofG g.f).version,(ofG g.f).commit,(ofG g.f).abort,true⟩)):=by
 unfold z06
 by_cases cu:g.up=true
 case neg=>rw [if_neg cu]; exact ⟨h,.inl rfl⟩
 rw [if_pos cu]
 unfold hearsS
 by_cases k3:m.kind=3
 ·rw [if_pos k3]
  by_cases c:(ofG g.f).n≠m.n∨(ofG g.f).ended=true∨(ofG g.f).commit=true∨(ofG g.f).abort=true∨m.yes=false
  ·rw [if_pos c]; exact ⟨h,.inl rfl⟩
  ·rw [if_neg c]
   simp only [not_or,Bool.not_eq_true,ne_eq,Decidable.not_not,Bool.not_eq_false] at c
   obtain ⟨c1,c2,c3,c4,c5⟩:=c
   unfold voteG
   have hv:=z3d (u:=m.unit) h
   by_cases cb:hasB false (z29 g m.unit).voted=true
   ·rw [if_pos cb]; exact ⟨hv,.inl rfl⟩
   ·rw [if_neg cb]
    obtain ⟨_,_,_,_,n5,_⟩:=z1f (r:=[2,(ofG g.f).n]) (z0n hv).1
    refine ⟨z1q hv,n5.elim .inl (fun e=>.inr (.inl ⟨k3,c5,c1.symm,c2,c3,c4,Bool.eq_false_iff.2 cb,?_⟩))⟩
    rw [e]
    exact z30 (s:=ofG g.f) (by omega) c4
 rw [if_neg k3]
 by_cases k6:m.kind=6
 ·rw [if_pos k6]
  by_cases c:(ofG g.f).n≠m.n∨(ofG g.f).ended=true∨((ofG g.f).commit=false∧(ofG g.f).abort=false)
  ·rw [if_pos c]; exact ⟨h,.inl rfl⟩
  ·rw [if_neg c]
   simp only [not_or,Bool.not_eq_true,ne_eq,Decidable.not_not] at c
   obtain ⟨c1,c2,c3⟩:=c
   have c3':(ofG g.f).commit=true∨(ofG g.f).abort=true:=by
    cases hcc:(ofG g.f).commit<;>cases haa:(ofG g.f).abort<;>simp_all
   unfold doneG
   have hv:=z4u (u:=m.unit) h
   by_cases cb:hasB false (didG g m.unit).did=true
   ·rw [if_pos cb]; exact ⟨hv,.inl rfl⟩
   ·rw [if_neg cb]
    obtain ⟨_,_,_,_,n5,_⟩:=z1f (r:=[4,(ofG g.f).n]) (z0n hv).1
    refine ⟨z1q hv,n5.elim .inl (fun e=>.inr (.inr ⟨k6,c1.symm,c3',?_⟩))⟩
    rw [e]
    exact z3n (s:=ofG g.f) (by omega) c3'
 rw [if_neg k6]
 by_cases k7:m.kind=7
 ·rw [if_pos k7]
  split<;>exact ⟨h,.inl rfl⟩
 ·rw [if_neg k7]; exact ⟨h,.inl rfl⟩
theorem keepG_sm (s:GState):smR (keepG s)=true∧(keepG s).length≤4:=by
 unfold keepG
 split
 ·exact ⟨rfl,by simp⟩
 ·split<;>split<;>split<;>exact ⟨by simp [smR],by simp⟩
theorem z5j {ws:List Int} {fu:Int} {up:Bool} {tv:Int} {tk:List Int} {tt tn:Int} {vo di:List Bool} (h:z0t ⟨⟨ws,fu⟩,up,⟨⟨tv,tk,tt⟩,tn⟩,vo,di⟩=0) :
  len ws*8≤140737488355328∧len tk*8≤140737488355328∧len vo≤1000∧len di≤1000:=by
 obtain ⟨h1,_,h3,h4,h5⟩:=z0n h
 simp only at h1 h3 h4 h5
 obtain ⟨k1,_⟩:=z1w h1
 obtain ⟨c1,_⟩:=z10 k1
 have h6:=z6f c1
 have h7:=(z2e (z2z h5).2.2).2.2.2.2.1
 simp only [len] at *
 try simp only at h6 h7
 omega
theorem z8q {g:Gate} {m:Message} (h:z0t g=0):(z06 g m).1.voted.length=g.voted.length∧(z06 g m).2.length≤1∧smM (z06 g m).2=true:=by
 unfold z06
 by_cases cu:g.up=true
 case neg=>rw [if_neg cu]; exact ⟨rfl,by simp,rfl⟩
 rw [if_pos cu]
 unfold hearsS
 have hv:=z3d (u:=m.unit) h
 have hd:=z4u (u:=m.unit) h
 split
 ·split
  ·exact ⟨rfl,by simp,rfl⟩
  ·refine ⟨?_,by simp,rfl⟩
   simp only [voteG]
   split
   ·exact z2x _ _ _
   ·obtain ⟨_,_,n3,_⟩:=z1f (r:=[2,(ofG g.f).n]) (z0n hv).1
    exact n3.trans (z2x _ _ _)
 ·split
  ·split
   ·exact ⟨rfl,by simp,rfl⟩
   ·refine ⟨?_,by simp,rfl⟩
    simp only [doneG]
    split
    ·rfl
    ·obtain ⟨_,_,n3,_⟩:=z1f (r:=[4,(ofG g.f).n]) (z0n hd).1
     exact n3
  ·split
   ·split<;>exact ⟨rfl,by simp,by simp [smM,z19]⟩
   ·exact ⟨rfl,by simp,rfl⟩
theorem z47 {g:Gate} (h:upG g=0):z0t g=0:=by
 unfold upG at h
 by_cases c:z0t g=0
 ·exact c
 ·rw [if_neg c] at h; exact absurd h c
theorem z9t {g:Gate} {m:Message} (h:(hearG g m).2=0):z0t g=0∧(0≤m.unit∧m.unit<g.voted.length∧1≤m.n∧m.n≤8)∧hearG g m=(z06 g m,0):=by
 unfold hearG at h ⊢
 by_cases c:hearGE g m=0
 ·rw [if_pos c]
  unfold hearGE at c
  by_cases c1:z0t g=0
  ·rw [if_pos c1] at c
   by_cases c2:m.unit<0∨(g.voted.length:Int)≤m.unit∨m.n<1∨8<m.n
   ·rw [if_pos c2] at c; cases c
   ·exact ⟨c1,by omega,rfl⟩
  ·rw [if_neg c1] at c; exact absurd c c1
 ·rw [if_neg c] at h; exact absurd h c
theorem zhi {g:Gate} {m:Message} (h:z0t g=0) (h1:0≤m.unit∧m.unit<g.voted.length∧1≤m.n∧m.n≤8):hearG g m=(z06 g m,0):=by
 unfold hearG hearGE
 rw [if_pos (by rw [if_pos h,if_neg (by omega)])]
theorem z6n {g:Gate} (h:z0t g=0):readG g=(ofG g.f,0):=by unfold readG; rw [if_pos h]
theorem z9x {g:Gate} (h:(giveG g).2=0):z0t g=0∧(ofG g.f).n≠0∧(ofG g.f).commit=false∧(ofG g.f).abort=false∧giveG g=((z0o g [3,(ofG g.f).n]).1,0):=by
 unfold giveG at h ⊢
 by_cases c:giveE g=0
 ·rw [if_pos c]
  unfold giveE upG at c
  by_cases c1:z0t g=0
  ·rw [if_pos c1] at c
   by_cases c2:g.up=true
   ·rw [if_pos c2,if_pos rfl] at c
    by_cases c3:(ofG g.f).n=0∨(ofG g.f).commit=true∨(ofG g.f).abort=true
    ·rw [if_pos c3] at c; cases c
    ·simp only [not_or,Bool.not_eq_true] at c3
     exact ⟨c1,c3.1,c3.2.1,c3.2.2,rfl⟩
   ·rw [if_neg c2,if_neg (by decide)] at c; cases c
  ·rw [if_neg c1,if_neg c1] at c; exact absurd c c1
 ·rw [if_neg c] at h; exact absurd h c
theorem z8h {g:Gate} (h:z0t g=0):bootG g=(⟨⟨g.f.words,-1⟩,true,g.t,zeros g.voted.length false,zeros g.did.length false⟩,0):=by unfold bootG; rw [if_pos h]
theorem z55 {f:Flash} (h:z0d f=0):z0d ⟨f.words,-1⟩=0:=by
 obtain ⟨k1,k2,k3,k4⟩:=z1w h
 obtain ⟨c1,_,_,c4⟩:=z10 k1
 exact z75 c1 (by simp) (by simp) c4 k2 k3 k4
theorem zdl {f:Flash} (h:z0d f=0):ofG ⟨f.words,-1⟩=ofG f:=by rw [zb6 h,zb6 (z55 h)]
end Vm
end Go.Proofs.YtlbppjmekiemiacGreatDoor

namespace Go.Proofs.YtlbppjmekiemiacGreatDoor
namespace Vm

theorem zd0 (x:Bool):∀ (l:List Bool) (k:Nat),¬ 0≤indexB x k l→∀ y∈l,y≠x
 | [],_,_,y,hy=>by simp at hy
 | z::l,k,h,y,hy=>by
  simp only [indexB] at h
  by_cases c:z=x
  ·rw [if_pos c] at h; omega
  ·rw [if_neg c] at h
   rcases List.mem_cons.1 hy with rfl | hy
   ·exact c
   ·exact zd0 x l (k+1) h y hy
theorem voted_all {vo:List Bool} {u:Int} (h:hasB false (setAt vo u.toNat true)=false) (hu:0≤u) (i:Nat) (hi:i<vo.length) (hne:(i:Int)≠u):nth vo i (Ty.dflt Ty.bool)=true:=by
 have h1:=zd0 false _ 0 (of_decide_eq_false h) (vo[i]) (by
  have:(setAt vo u.toNat true)[i]? = some vo[i]:=by
   simp only [setAt]
   rw [List.getElem?_set_ne (by omega),List.getElem?_eq_getElem hi]
  exact List.mem_of_getElem? this)
 have:nth vo i (Ty.dflt Ty.bool)=vo[i]:=by simp [nth,List.getD_eq_getElem?_getD,hi]
 rw [this]
 simpa using h1
theorem dueG_ok {g:Gate} {c:Campaign} {u:Int} (h:(dueG g c u).2=0):z0t g=0∧(ofG g.f).n≠0∧(ofG g.f).ended=false∧0≤u∧u<g.voted.length∧c.n=(ofG g.f).n∧u<c.images.length∧u<c.r.targets.length∧dueG g c u=duesG g (ofG g.f) c u:=by
 unfold dueG at h ⊢
 by_cases e:dueE g c u=0
 ·rw [if_pos e]
  unfold dueE at e
  by_cases e1:upG g=0
  ·rw [if_pos e1] at e
   by_cases e2:(ofG g.f).n=0∨(ofG g.f).ended=true
   ·rw [if_pos e2] at e; cases e
   ·rw [if_neg e2] at e
    by_cases e3:u<0∨(g.voted.length:Int)≤u∨c.n≠(ofG g.f).n∨(c.images.length:Int)≤u∨(c.r.targets.length:Int)≤u
    ·rw [if_pos e3] at e; cases e
    ·simp only [not_or,Bool.not_eq_true] at e2
     exact ⟨z47 e1,e2.1,e2.2,by omega,by omega,by omega,by omega,by omega,rfl⟩
  ·rw [if_neg e1] at e; exact absurd e e1
 ·rw [if_neg e] at h; exact absurd h e
end Vm
end Go.Proofs.YtlbppjmekiemiacGreatDoor

/- Plain answers: the document's unit. No condition. -/

namespace Go.Proofs.YtlbppjmekiemiacGreatDoor
namespace Vm

def Says (m:Message) (l:List Message):Prop:=l=[]∨l=doneM m∨∃ y,l=voteM m y
theorem z1m {m:Message} {c:Prop} [Decidable c] {x y:UnitD × List Message} (hx:Says m x.2) (hy:Says m y.2):Says m (if c then x else y).2:=by
 split
 ·exact hx
 ·exact hy
theorem zc5 {b:List (List UInt8)} {u:UnitD} {m:Message}:Says m (z0x b u m).2:=by
 have h0:∀ x:UnitD,Says m (x,([]:List Message)).2:=fun _=>.inl rfl
 have h1:∀ x:UnitD,Says m (x,doneM m).2:=fun _=>.inr (.inl rfl)
 have h2:∀ (x:UnitD) (y:Bool),Says m (x,voteM m y).2:=fun _ y=>.inr (.inr ⟨y,rfl⟩)
 have hg:∀ x:UnitD,Says m (goneU x m).2:=fun x=>z1m (h1 _) (h1 _)
 have hs:∀ (x:UnitD) (s:UState) (w:List Int),Says m (sealedU x s m w).2:=fun x s w=>z1m (z1m (h2 _ _) (h0 _)) (h2 _ _)
 exact z1m (z1m (h0 _) (z1m (z1m (h1 _) (z1m (h2 _ _) (z1m (h2 _ _) (z1m (z1m (z1m (hs _ _ _) (h0 _)) (h2 _ _)) (h2 _ _))))) (z1m (z1m (z1m (h1 _) (z1m (z1m (h1 _) (h0 _)) (h0 _))) (z1m (h0 _) (z1m (z1m (hg _) (h0 _)) (hg _)))) (h0 _)))) (h0 _)
end Vm
end Go.Proofs.YtlbppjmekiemiacGreatDoor

namespace Go.Proofs.YtlbppjmekiemiacGreatDoor
namespace Vm

theorem zhd {b:List (List UInt8)} {l:List Signed} {t:Trust} {o:Offer} {now units:Int} (h:(takeT b l t o now units).2=0):checkTrust (takeT b l t o now units).1=0:=by
 obtain ⟨h1,_,_,h4,h5,h6⟩:=z9z h
 obtain ⟨_,_,q3,_⟩:=zb1 o.roots o.rootSigs _ h1 h4
 obtain ⟨r1,_⟩:=zdv h5
 obtain ⟨s1,s2,_⟩:=z3z r1
 rw [h6]
 unfold checkTrust
 simp only
 rw [if_neg (by omega)]
 exact (z2z q3).2.2
theorem zfw {b:List (List UInt8)} {l:List Signed} {g:Gate} {o:Offer} {now:Int}:z0t (beginG b l g o now).1=0∨(beginG b l g o now).1=noGate:=by
 unfold beginG
 by_cases c:beginE b l g o now=0
 ·rw [if_pos c]
  unfold beginE at c
  obtain ⟨hu,c⟩:=ifz.1 c
  have hg:=z47 hu
  have ht:(takeT b l g.t o now g.voted.length).2=0:=by
   by_cases c1:0<(ofG g.f).n∧(ofG g.f).ended=false
   ·rw [if_pos c1] at c; cases c
   ·rw [if_neg c1] at c
    by_cases c2:(ofG g.f).n=8
    ·rw [if_pos c2] at c; cases c
    ·rw [if_neg c2] at c; exact c
  left
  simp only
  obtain ⟨k1,k2,k3,k4,k5⟩:=z0n hg
  unfold begunG
  split
  ·refine z4r ?_ ?_ ?_ ?_ ?_
   ·exact (z1f (g:=g) (r:=[1,(ofG g.f).n+1,o.r.version]) k1).1
   ·simp only [zeros,List.length_replicate]; omega
   ·simp only [zeros,List.length_replicate]; omega
   ·simp only [zeros,List.length_replicate]; omega
   ·exact zhd ht
  ·exact z1q hg
 ·rw [if_neg c]; exact .inr rfl
end Vm
end Go.Proofs.YtlbppjmekiemiacGreatDoor

namespace Go.Proofs.YtlbppjmekiemiacGreatDoor
namespace Vm

def checkImages:List (List Int)→Int
 | []=>0
 | w::l=>if z0j w=0 then checkImages l else z0j w
def checkC (c:Campaign) (n:Int) (units:Nat):Int :=
 if c.n≠n∨c.images.length≠units∨c.r.targets.length≠units then 4
 else if checkImages c.images=0 then z0i c.r.version c.r.til c.r.targets else checkImages c.images
def checkUnits:List UnitD→Int
 | []=>0
 | u::l=>if z14 u=0 then checkUnits l else z14 u
def checkCs (units:Nat):Int→List Campaign→Int
 | _,[]=>0
 | n,c::l=>if checkC c n units=0 then checkCs units (n+1) l else checkC c n units
def checkMs (units:Nat):List Message→Int
 | []=>0
 | m::l=>if checkM m=0 then (if (units:Int)≤m.unit then 5 else checkMs units l) else checkM m
def checkV (v:Vehicle):Int :=
 if z0r v.b=0 then (if checkSigned v.s=0 then (if z0t v.g=0 then
  (if v.units.length=v.g.voted.length then (if checkUnits v.units=0 then
   (if 8<v.campaigns.length∨24<v.net.length then 2 else if checkCs v.units.length 1 v.campaigns=0 then
    (if checkMs v.units.length v.net=0 then (if v.now<0∨100000<v.now then 3 else 0) else checkMs v.units.length v.net)
   else checkCs v.units.length 1 v.campaigns) else checkUnits v.units) else 4) else z0t v.g) else checkSigned v.s) else z0r v.b
def noVehicle:Vehicle:=⟨[],[],noGate,[],[],[],0⟩
def sendM (net l:List Message):List Message:=net++l.take (24-net.length)
def sendV (v:Vehicle) (l:List Message):Vehicle:=⟨v.b,v.s,v.g,v.units,v.campaigns,sendM v.net l,v.now⟩
def beginV (v:Vehicle) (o:Offer):Gate × Int × Int:=beginG v.b v.s v.g o v.now
def campaignsV (cs:List Campaign) (n:Int) (o:Offer):List Campaign:=if 0<n then cs.take (n-1).toNat++[⟨n,o.r,o.images⟩] else cs
def z0w (v:Vehicle) (o:Offer):Vehicle × Int :=
 if (beginV v o).2.2=0 then (⟨v.b,v.s,(beginV v o).1,v.units,campaignsV v.campaigns (beginV v o).2.1 o,v.net,v.now⟩,0) else (v,(beginV v o).2.2)
def dropM (v:Vehicle) (k:Nat):Vehicle:=⟨v.b,v.s,v.g,v.units,v.campaigns,v.net.eraseIdx k,v.now⟩
def noMsg:Message:=⟨0,0,0,0,0,[],false⟩
def toGate (m:Message):Bool:=decide (m.kind=3) || decide (m.kind=6) || decide (m.kind=7)
def arrivedG (v:Vehicle) (m:Message):Vehicle :=
 if (hearG v.g m).2=0 then sendV ⟨v.b,v.s,(hearG v.g m).1.1,v.units,v.campaigns,v.net,v.now⟩ (hearG v.g m).1.2 else v
def unitAt (v:Vehicle) (k:Int):UnitD:=v.units.getD k.toNat noUnit
def setU (v:Vehicle) (k:Int) (u:UnitD):Vehicle:=⟨v.b,v.s,v.g,v.units.set k.toNat u,v.campaigns,v.net,v.now⟩
def arrivedU (v:Vehicle) (m:Message):Vehicle :=
 if (hearU v.b (unitAt v m.unit) m).2=0 then sendV (setU v m.unit (hearU v.b (unitAt v m.unit) m).1.1) (hearU v.b (unitAt v m.unit) m).1.2 else v
def z0v (v:Vehicle) (k:Nat):Vehicle :=
 if toGate (v.net.getD k noMsg)=true then arrivedG (dropM v k) (v.net.getD k noMsg) else arrivedU (dropM v k) (v.net.getD k noMsg)
def fuelG (v:Vehicle) (k:Int):Vehicle:=⟨v.b,v.s,⟨⟨v.g.f.words,k⟩,v.g.up,v.g.t,v.g.voted,v.g.did⟩,v.units,v.campaigns,v.net,v.now⟩
def fuelU (u:UnitD) (k:Int):UnitD:=⟨⟨u.f.words,k⟩,u.up,u.n,u.got⟩
def bootsG (v:Vehicle):Vehicle:=⟨v.b,v.s,(bootG v.g).1,v.units,v.campaigns,v.net,v.now⟩
def powerV (v:Vehicle) (kind unit k:Int):Vehicle × Int :=
 if unit < -1∨(v.units.length:Int)≤unit then (v,5) else if kind=6∧(k<0∨100000<k) then (v,3)
 else if kind=6 then (if unit<0 then (fuelG v k,0) else (setU v unit (fuelU (unitAt v unit) k),0))
 else if unit<0 then (bootsG v,0) else (setU v unit (z4l (unitAt v unit)).1,0)
def askM (k n:Int):List Message:=[⟨7,k,n,0,0,[],false⟩]
def asksV (v:Vehicle) (k:Int):Vehicle × Int :=
 if (unitAt v k).up=true then (if (readU (unitAt v k)).1.ready<1∨8<(readU (unitAt v k)).1.ready then (v,12) else (sendV v (askM k (readU (unitAt v k)).1.ready),0)) else (v,7)
def noCampaign:Campaign:=⟨0,⟨0,0,[]⟩,[]⟩
def z0s (v:Vehicle):Campaign:=if 0<(readG v.g).1.n then v.campaigns.getD ((readG v.g).1.n-1).toNat noCampaign else noCampaign
def pokeV (v:Vehicle) (k:Int):Vehicle × Int :=
 if (v.campaigns.length:Int)<(readG v.g).1.n then (v,5)
 else if (dueG v.g (z0s v) k).2=0 then (sendV v (dueG v.g (z0s v) k).1,0) else (v,(dueG v.g (z0s v) k).2)
def netV (v:Vehicle) (kind k:Int):Vehicle × Int :=
 if k<0∨(v.net.length:Int)≤k then (v,5)
 else if kind=3 then (z0v v k.toNat,0) else if kind=4 then (dropM v k.toNat,0)
 else if kind=5 then (if v.net.length=24 then (v,8) else (sendV v [v.net.getD k.toNat noMsg],0)) else (v,0)
def gaveV (v:Vehicle):Vehicle × Int:=if (giveG v.g).2=0 then (⟨v.b,v.s,(giveG v.g).1,v.units,v.campaigns,v.net,v.now⟩,0) else (v,(giveG v.g).2)
def tickV (v:Vehicle):Vehicle × Int:=if v.now=100000 then (v,8) else (⟨v.b,v.s,v.g,v.units,v.campaigns,v.net,v.now+1⟩,0)
def z0y (v:Vehicle) (x:Happening):Vehicle × Int :=
 if x.kind=1 then z0w v x.o
 else if x.kind=3∨x.kind=4∨x.kind=5 then netV v x.kind x.k
 else if x.kind=6∨x.kind=7 then powerV v x.kind x.unit x.k
 else if x.kind=8 then gaveV v
 else if x.kind=2∨x.kind=9 then (if x.unit<0∨(v.units.length:Int)≤x.unit then (v,5) else if x.kind=2 then pokeV v x.unit else asksV v x.unit)
 else if x.kind=10 then tickV v else (v,4)
def doV (v:Vehicle) (x:Happening):Vehicle × Int :=
 if checkV v=0 then (if (z0y v x).2=0 then ((z0y v x).1,0) else (noVehicle,(z0y v x).2)) else (noVehicle,checkV v)
def z45:Vehicle→List Happening→Vehicle × List Int
 | v,[]=>(v,[])
 | v,x::l=>((z45 (if (z0y v x).2=0 then (z0y v x).1 else v) l).1,(z0y v x).2::(z45 (if (z0y v x).2=0 then (z0y v x).1 else v) l).2)
def runV (v:Vehicle) (l:List Happening):Vehicle × List Int × Int :=
 if checkV v=0 then (if 160<l.length then (noVehicle,[],2) else ((z45 v l).1,(z45 v l).2,0)) else (noVehicle,[],checkV v)
def madeU (b:List (List UInt8)):List (List Int)→List UnitD × Int
 | []=>([],0)
 | w::l =>
  if (z0m b w).2=0 then (if (z0m b w).1=0 then ([],5)
   else if (newU w (z0m b w).1).2=0 then (if (madeU b l).2=0 then ((newU w (z0m b w).1).1::(madeU b l).1,0) else ([],(madeU b l).2)) else ([],(newU w (z0m b w).1).2))
  else ([],(z0m b w).2)
def newV (b:List (List UInt8)) (s:List Signed) (r:Root) (images:List (List Int)):Vehicle × Int :=
 if z0r b=0 then (if checkSigned s=0 then (if (newG r images.length).2=0 then
  (if (madeU b images).2=0 then (⟨b,s,(newG r images.length).1,(madeU b images).1,[],[],0⟩,0) else (noVehicle,(madeU b images).2))
  else (noVehicle,(newG r images.length).2)) else (noVehicle,checkSigned s)) else (noVehicle,z0r b)
def smW (l:List (List Int)):Bool:=l.all fun w=>decide (w.length≤1000)
def smMW (l:List Message):Bool:=l.all fun m=>decide (m.words.length≤1000)
end Vm
end Go.Proofs.YtlbppjmekiemiacGreatDoor

namespace Go.Proofs.YtlbppjmekiemiacGreatDoor
namespace Vm

theorem z6h {α:Type} {l:List α} {k:Nat} (h:k<l.length) (d:α):setAt l k (nth l k d)=l:=by
 unfold setAt nth
 rw [List.getD_eq_getElem?_getD,List.getElem?_eq_getElem h]
 exact List.set_getElem_self h
theorem z1g {α:Type} {l:List α} {k:Nat} (h:k<l.length) (d:α):nth l k d∈l:=by
 have:nth l k d=l[k]:=by simp [nth,List.getD_eq_getElem?_getD,h]
 rw [this]; exact List.getElem_mem h
theorem z6u:∀ {l:List UnitD},checkUnits l=0→∀ u∈l,z14 u=0
 | [],_,u,hu=>by cases hu
 | x::l,h,u,hu=>by
  obtain ⟨h1,h2⟩:=ifz.1 h
  rcases List.mem_cons.1 hu with rfl | hu
  ·exact h1
  ·exact z6u h2 u hu
theorem z7y:∀ {l:List UnitD},(∀ u∈l,z14 u=0)→checkUnits l=0
 | [],_=>rfl
 | x::l,h=>ifz.2 ⟨h x (by simp),z7y fun u hu=>h u (by simp [hu])⟩
theorem z5r:∀ {l:List (List Int)},checkImages l=0→∀ w∈l,z0j w=0
 | [],_,u,hu=>by cases hu
 | x::l,h,u,hu=>by
  obtain ⟨h1,h2⟩:=ifz.1 h
  rcases List.mem_cons.1 hu with rfl | hu
  ·exact h1
  ·exact z5r h2 u hu
theorem z6y:∀ {l:List (List Int)},(∀ w∈l,z0j w=0)→checkImages l=0
 | [],_=>rfl
 | x::l,h=>ifz.2 ⟨h x (by simp),z6y fun u hu=>h u (by simp [hu])⟩
theorem zbi {n:Nat}:∀ {l:List Message},checkMs n l=0→∀ m∈l,checkM m=0∧m.unit<n
 | [],_,u,hu=>by cases hu
 | x::l,h,u,hu=>by
  obtain ⟨h1,h2⟩:=ifz.1 h
  by_cases c:(n:Int)≤x.unit
  ·rw [if_pos c] at h2; cases h2
  ·rw [if_neg c] at h2
   rcases List.mem_cons.1 hu with rfl | hu
   ·exact ⟨h1,by omega⟩
   ·exact zbi h2 u hu
theorem zd1 {n:Nat}:∀ {l:List Message},(∀ m∈l,checkM m=0∧m.unit<n)→checkMs n l=0
 | [],_=>rfl
 | x::l,h=>ifz.2 ⟨(h x (by simp)).1,by rw [if_neg (by have:=(h x (by simp)).2; omega)]; exact zd1 fun u hu=>h u (by simp [hu])⟩
theorem checkC_ok {c:Campaign} {n:Int} {k:Nat} (h:checkC c n k=0):c.n=n∧c.images.length=k∧c.r.targets.length=k∧(∀ w∈c.images,z0j w=0)∧z0i c.r.version c.r.til c.r.targets=0:=by
 unfold checkC at h
 by_cases a:c.n≠n∨c.images.length≠k∨c.r.targets.length≠k
 ·rw [if_pos a] at h; cases h
 ·rw [if_neg a] at h
  obtain ⟨h1,h2⟩:=ifz.1 h
  simp only [not_or,Decidable.not_not,ne_eq] at a
  exact ⟨a.1,a.2.1,a.2.2,z5r h1,h2⟩
theorem zas {k:Nat}:∀ {l:List Campaign} {n:Int},checkCs k n l=0→∀ i,i<l.length→∀ d,checkC (nth l i d) (n+i) k=0
 | [],_,_,i,hi,_=>by simp at hi
 | x::l,n,h,i,hi,d=>by
  obtain ⟨h1,h2⟩:=ifz.1 h
  cases i with
  | zero=>simp only [nth,List.getD_cons_zero]; rw [show n+((0:Nat):Int)=n by omega]; exact h1
  | succ i =>
   have:=zas h2 i (by simpa using hi) d
   rw [show n+1+(i:Int)=n+((i+1:Nat):Int) by omega] at this
   simpa [nth] using this
theorem zcu {k:Nat}:∀ {l:List Campaign} {n:Int},(∀ i,i<l.length→∀ d,checkC (nth l i d) (n+i) k=0)→checkCs k n l=0
 | [],_,_=>rfl
 | x::l,n,h=>by
  refine ifz.2 ⟨?_,zcu fun i hi d=>?_⟩
  ·have:=h 0 (by simp) x
   rw [show n+((0:Nat):Int)=n by omega] at this
   exact this
  ·have:=h (i+1) (by simpa using hi) d
   rw [show n+((i+1:Nat):Int)=n+1+(i:Int) by omega] at this
   simpa [nth] using this
structure OkV (v:Vehicle):Prop where
 b:z0r v.b=0
 s:checkSigned v.s=0
 g:z0t v.g=0
 n:v.units.length=v.g.voted.length
 u:∀ u∈v.units,z14 u=0
 c8:v.campaigns.length≤8
 n24:v.net.length≤24
 c:checkCs v.units.length 1 v.campaigns=0
 m:∀ m∈v.net,checkM m=0∧m.unit<v.units.length
 t0:0≤v.now
 t1:v.now≤100000
theorem z8l {v:Vehicle} (h:checkV v=0):OkV v:=by
 unfold checkV at h
 obtain ⟨h1,h⟩:=ifz.1 h
 obtain ⟨h2,h⟩:=ifz.1 h
 obtain ⟨h3,h⟩:=ifz.1 h
 by_cases c1:v.units.length=v.g.voted.length
 ·rw [if_pos c1] at h
  obtain ⟨h4,h⟩:=ifz.1 h
  by_cases c2:8<v.campaigns.length∨24<v.net.length
  ·rw [if_pos c2] at h; cases h
  ·rw [if_neg c2] at h
   obtain ⟨h5,h⟩:=ifz.1 h
   obtain ⟨h6,h⟩:=ifz.1 h
   by_cases c3:v.now<0∨100000<v.now
   ·rw [if_pos c3] at h; cases h
   ·exact ⟨h1,h2,h3,c1,z6u h4,by omega,by omega,h5,zbi h6,by omega,by omega⟩
 ·rw [if_neg c1] at h; cases h
theorem zc3 {v:Vehicle} (h:OkV v):checkV v=0:=by
 unfold checkV
 rw [if_pos h.b,if_pos h.s,if_pos h.g,if_pos h.n,if_pos (z7y h.u),if_neg (by have:=h.c8; have:=h.n24; omega),if_pos h.c,if_pos (zd1 h.m),if_neg (by have:=h.t0; have:=h.t1; omega)]
theorem OkV.units4 {v:Vehicle} (h:OkV v):1≤v.units.length∧v.units.length≤4:=by
 obtain ⟨_,a,b,_⟩:=z0n h.g
 rw [h.n]; exact ⟨a,b⟩
theorem smW_of {l:List (List Int)} (h:∀ w∈l,z0j w=0):smW l=true:=List.all_eq_true.2 fun w hw=>by
 have:=(z2k (h w hw)).2.1
 exact decide_eq_true (by omega)
theorem smMW_of {l:List Message} (h:∀ m∈l,m.words.length≤8):smMW l=true:=List.all_eq_true.2 fun m hm=>by
 have:=h m hm
 exact decide_eq_true (by omega)
theorem sendM_nil (net:List Message):sendM net []=net:=by simp [sendM]
theorem zk9 (net:List Message) (m:Message) (l:List Message):sendM net (m::l)=if net.length<24 then sendM (net++[m]) l else sendM net l:=by
 unfold sendM
 by_cases c:net.length<24
 ·rw [if_pos c,show 24-net.length=(24-(net++[m]).length)+1 by simp; omega,List.take_succ_cons]
  simp
 ·rw [if_neg c,show 24-net.length=0 by omega]; simp
end Vm
end Go.Proofs.YtlbppjmekiemiacGreatDoor

namespace Go.Proofs.YtlbppjmekiemiacGreatDoor
namespace Vm

theorem z9i {b:List (List UInt8)}:∀ {ts:List Target} {ws:List (List Int)},okImages b ts ws=true→ts.length=ws.length→∀ w∈ws,z0j w=0
 | [],[],_,_,w,hw=>by cases hw
 | [],_::_,_,h,_,_=>by simp at h
 | _::_,[],_,h,_,_=>by simp at h
 | t::ts,x::ws,h,hl,w,hw=>by
  simp only [okImages,List.headD_cons,List.tail_cons,Bool.and_eq_true] at h
  rcases List.mem_cons.1 hw with rfl | hw
  ·have:=h.1
   simp only [okImage,Bool.and_eq_true,decide_eq_true_eq] at this
   have h2:=this.1.1
   unfold z0m at h2
   by_cases c:z0j w=0
   ·exact c
   ·rw [if_neg c] at h2; exact absurd h2 c
  ·exact z9i h.2 (by simpa using hl) w hw
theorem z48 {b:List (List UInt8)} {l:List Signed} {g:Gate} {o:Offer} {now:Int} (h:(beginG b l g o now).2.2=0) :
  z0t g=0∧g.up=true∧¬ (0<(ofG g.f).n∧(ofG g.f).ended=false)∧(ofG g.f).n≠8∧(takeT b l g.t o now g.voted.length).2=0 ∧
  beginG b l g o now=((begunG g (ofG g.f) (takeT b l g.t o now g.voted.length).1 o.r.version).1,(begunG g (ofG g.f) (takeT b l g.t o now g.voted.length).1 o.r.version).2,0):=by
 unfold beginG at h ⊢
 by_cases c:beginE b l g o now=0
 ·rw [if_pos c]
  unfold beginE at c
  obtain ⟨hu,c⟩:=ifz.1 c
  have hup:g.up=true:=by
   unfold upG at hu
   rw [if_pos (z47 hu)] at hu
   by_cases d:g.up=true
   ·exact d
   ·rw [if_neg d] at hu; cases hu
  by_cases c1:0<(ofG g.f).n∧(ofG g.f).ended=false
  ·rw [if_pos c1] at c; cases c
  ·rw [if_neg c1] at c
   by_cases c2:(ofG g.f).n=8
   ·rw [if_pos c2] at c; cases c
   ·rw [if_neg c2] at c
    exact ⟨z47 hu,hup,c1,c2,c,rfl⟩
 ·rw [if_neg c] at h; exact absurd h c
theorem begunG_n {g:Gate} {s:GState} {t:Trust} {v:Int}:(begunG g s t v).2=0∨((begunG g s t v).2=s.n+1∧(z0o g [1,s.n+1,v]).2=true):=by
 unfold begunG
 split
 ·rename_i h; exact .inr ⟨rfl,h⟩
 ·exact .inl rfl
theorem z6k {b:List (List UInt8)} {l:List Signed} {t:Trust} {o:Offer} {now units:Int} (h:(takeT b l t o now units).2=0) :
  z0i o.r.version o.r.til o.r.targets=0∧(o.r.targets.length:Int)=units∧(o.images.length:Int)=units∧(∀ w∈o.images,z0j w=0)∧now≤o.r.til∧(takeT b l t o now units).1.version=o.r.version∧t.version<o.r.version:=by
 obtain ⟨h1,_,_,h4,h5,h6⟩:=z9z h
 obtain ⟨q1,_,_,_⟩:=zb1 o.roots o.rootSigs _ h1 h4
 obtain ⟨r1,_,_,r4,r5,r6,r7,r8⟩:=zdv h5
 exact ⟨r1,r6,r7,z9i r8 (by omega),r5,by rw [h6],by omega⟩
theorem take_min {α:Type} (l:List α) (k:Nat):l.take (min k l.length)=l.take k:=by
 by_cases h:k≤l.length
 ·rw [Nat.min_eq_left h]
 ·rw [Nat.min_eq_right (by omega),List.take_length,List.take_of_length_le (by omega)]
theorem zic {v:Vehicle} {o:Offer} (h:(beginV v o).2.2=0):(beginV v o).2.1=0∨((beginV v o).2.1=(ofG v.g.f).n+1∧1≤(beginV v o).2.1∧(beginV v o).2.1≤8):=by
 unfold beginV at h ⊢
 obtain ⟨_,_,_,h4,_,h6⟩:=z48 h
 rw [h6]
 obtain ⟨a,b,_⟩:=z24 v.g.f
 rcases begunG_n (g:=v.g) (s:=ofG v.g.f) (t:=(takeT v.b v.s v.g.t o v.now v.g.voted.length).1) (v:=o.r.version) with h | ⟨h,_⟩
 ·exact .inl h
 ·exact .inr ⟨h,by simp only; omega,by simp only; omega⟩
theorem zk2 (g:Gate) (m:Message):(hearG g m).1.2=[]∨∃ k,(hearG g m).1.2=[⟨k,m.unit,m.n,0,0,[],false⟩]:=by
 unfold hearG
 by_cases c:hearGE g m=0
 ·rw [if_pos c]
  unfold z06
  split
  ·unfold hearsS
   split
   ·split
    ·exact .inl rfl
    ·exact .inl rfl
   ·split
    ·split
     ·exact .inl rfl
     ·exact .inl rfl
    ·split
     ·split
      ·exact .inr ⟨_,rfl⟩
      ·exact .inl rfl
     ·exact .inl rfl
  ·exact .inl rfl
 ·rw [if_neg c]; exact .inl rfl
theorem zcq (b:List (List UInt8)) (u:UnitD) (m:Message):(hearU b u m).1.2=[]∨∃ k y,(hearU b u m).1.2=[⟨k,m.unit,m.n,0,0,[],y⟩]:=by
 unfold hearU
 by_cases c:hearE b u m=0
 ·rw [if_pos c]
  rcases zc5 (b:=b) (u:=u) (m:=m) with h | h | ⟨y,h⟩
  ·exact .inl h
  ·exact .inr ⟨_,_,h⟩
  ·exact .inr ⟨_,_,h⟩
 ·rw [if_neg c]; exact .inl rfl
theorem z7x {l:List Message} {k u n:Int} {y:Bool} (h:l=[]∨l=[⟨k,u,n,0,0,[],y⟩]):l.length≤1000∧smMW l=true:=by
 rcases h with h | h
 ·subst h; exact ⟨by simp,rfl⟩
 ·subst h; exact ⟨by simp,by simp [smMW]⟩
theorem zhe (g:Gate) (m:Message):(hearG g m).1.2.length≤1000∧smMW (hearG g m).1.2=true:=by
 rcases zk2 g m with h | ⟨k,h⟩
 ·exact z7x (k:=0) (u:=0) (n:=0) (y:=false) (.inl h)
 ·exact z7x (.inr h)
theorem zgu (b:List (List UInt8)) (u:UnitD) (m:Message):(hearU b u m).1.2.length≤1000∧smMW (hearU b u m).1.2=true:=by
 rcases zcq b u m with h | ⟨k,y,h⟩
 ·exact z7x (k:=0) (u:=0) (n:=0) (y:=false) (.inl h)
 ·exact z7x (.inr h)
theorem z3p (u n:Int) (w:List Int):∀ (d k:Nat),(z1p u n w d k).length≤d∧∀ m∈z1p u n w d k,m.words.length≤8
 | 0,_=>⟨by simp [z1p],fun m hm=>by simp [z1p] at hm⟩
 | d+1,k=>by
  unfold z1p
  obtain ⟨h1,h2⟩:=z3p u n w d (k+8)
  split
  ·refine ⟨by simp only [List.length_cons]; omega,fun m hm=>?_⟩
   rcases List.mem_cons.1 hm with rfl | hm
   ·simp only [pieceM,slc,List.length_drop,List.length_take]; omega
   ·exact h2 m hm
  ·exact ⟨by simp,fun m hm=>by simp at hm⟩
theorem zct (g:Gate) (c:Campaign) (u:Int):(dueG g c u).1.length≤1000∧smMW (dueG g c u).1=true:=by
 have none:([]:List Message).length≤1000∧smMW []=true:=⟨by simp,rfl⟩
 unfold dueG
 split
 ·unfold duesG
  split
  ·split
   ·exact none
   ·exact ⟨by simp,rfl⟩
  ·split
   ·exact none
   ·unfold imageM
    split
    ·exact none
    ·obtain ⟨h1,h2⟩:=z3p u (ofG g.f).n (nth c.images u.toNat []) 6 0
     refine ⟨by simp only [List.length_append,List.length_cons,List.length_nil]; omega,smMW_of fun m hm=>?_⟩
     rcases List.mem_append.1 hm with hm | hm
     ·exact h2 m hm
     ·simp only [List.mem_singleton] at hm; subst hm; simp
 ·exact none
theorem readG_n (g:Gate):0≤(readG g).1.n∧(readG g).1.n≤8:=by
 unfold readG
 split
 ·exact ⟨(z24 g.f).n0,(z24 g.f).n8⟩
 ·simp [noState]
end Vm
end Go.Proofs.YtlbppjmekiemiacGreatDoor

namespace Go.Proofs.YtlbppjmekiemiacGreatDoor
namespace Vm

theorem zjt {r:Root} {n:Int} (h:(newG r n).2=0):1≤n∧n≤4:=by
 unfold newG at h
 split at h
 ·cases h
 ·omega
def nameIn (b:List (List UInt8)) (s:List UInt8):List (List UInt8) × Int:=if 0≤indexS s b then (b,indexS s b+1) else (b++[s],(b.length:Int)+1)
def imgF (v k:Int):List Int:=zeros (3+9*k+v).toNat (100*v+k)
structure Fab where
 b:List (List UInt8)
 first:List (List Int)
 ts:List Vm.Target
 ims:List (List Int)
def fabK (v k:Int) (f:Fab):Fab :=
 ⟨(nameIn f.b (imageTextE (imgF v k)).1).1,if v=0 then f.first++[imgF v k] else f.first,f.ts++[⟨k,(nameIn f.b (imageTextE (imgF v k)).1).2,((imgF v k).length:Int)⟩],f.ims++[imgF v k]⟩
def fabKs (v:Int):Nat→Int→Fab→Fab
 | 0,_,f=>f
 | n+1,k,f=>fabKs v n (k+1) (fabK v k f)
structure Fac where
 b:List (List UInt8)
 l:List Signed
 first:List (List Int)
 offers:List Offer
def relOf (v til:Int) (f:Fab):Release:=⟨max v 1,til,f.ts⟩
def textOf (v til:Int) (f:Fab):List UInt8:=(releaseTextE (max v 1) til f.ts).1
def facEnd (til v:Int) (a:Fac) (f:Fab):Fac :=
 if v=0 then ⟨f.b,a.l,f.first,a.offers⟩
 else ⟨(nameIn f.b (textOf v til f)).1,(if v=3 then a.l else a.l++[⟨3,(nameIn f.b (textOf v til f)).2⟩])++[⟨5,(nameIn f.b (textOf v til f)).2⟩],f.first,a.offers++[⟨[],[],relOf v til f,[3,5],f.ims⟩]⟩
def fab0 (a:Fac):Fab:=⟨a.b,a.first,[],[]⟩
def facV (units:Nat) (til v:Int) (a:Fac):Fac:=facEnd til v a (fabKs v units 0 (fab0 a))
theorem z8o (b:List (List UInt8)) (s:List UInt8):(nameIn b s).1.length≤b.length+1:=by
 unfold nameIn
 split
 ·exact Nat.le_succ _
 ·simp
def imgOk (units:Nat):Bool:=(List.range 4).all fun v=>(List.range units).all fun k=>eqi (imageTextE (imgF v k)).2 0
def facOk1 (units:Nat) (til v:Int) (a:Fac):Bool:=eqi (releaseTextE (max v 1) til (fabKs v units 0 (fab0 a)).ts).2 0
def fac1 (units:Nat) (til:Int):Fac:=facV units til 0 ⟨[],[],[],[]⟩
def fac2 (units:Nat) (til:Int):Fac:=facV units til 1 (fac1 units til)
def fac3 (units:Nat) (til:Int):Fac:=facV units til 2 (fac2 units til)
def facR (units:Nat) (til:Int):Fac:=facV units til 3 (fac3 units til)
def facO (units:Nat) (til:Int):List Offer:=(facR units til).offers
def facRoot:Root:=⟨1,[3,4,5],2⟩
def facN (units:Nat) (til:Int):Vehicle × Int:=newV (facR units til).b (facR units til).l facRoot (facR units til).first
def facOk (units:Nat) (til:Int):Bool:=imgOk units && (facOk1 units til 1 (fac1 units til) && (facOk1 units til 2 (fac2 units til) && (facOk1 units til 3 (fac3 units til) && (eqi (facN units til).2 0 && eqi ((facN units til).1.units.length:Int) units))))
end Vm
end Go.Proofs.YtlbppjmekiemiacGreatDoor

namespace Go.Proofs.YtlbppjmekiemiacGreatDoor
namespace Vm

theorem mem_nth {α:Type} {l:List α} {x:α} (h:x∈l) (d:α):∃ i,i<l.length∧nth l i d=x:=by
 obtain ⟨i,hi,e⟩:=List.getElem_of_mem h
 exact ⟨i,hi,by simp [nth,List.getD_eq_getElem?_getD,hi,e]⟩
theorem OkV.camp {v:Vehicle} (H:OkV v):∀ c∈v.campaigns,c.images.length=v.units.length∧c.r.targets.length=v.units.length∧(∀ w∈c.images,z0j w=0)∧z0i c.r.version c.r.til c.r.targets=0:=fun c hc=>by
 obtain ⟨i,hi,e⟩:=mem_nth hc noCampaign
 have:=checkC_ok (zas H.c i hi noCampaign)
 rw [e] at this
 exact this.2
def noOffer:Offer:=⟨[],[],⟨0,0,[]⟩,[],[]⟩
def happen (kind unit k:Int):Happening:=⟨kind,unit,k,noOffer⟩
end Vm
end Go.Proofs.YtlbppjmekiemiacGreatDoor
