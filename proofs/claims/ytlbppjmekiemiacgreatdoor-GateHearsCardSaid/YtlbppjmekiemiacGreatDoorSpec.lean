/- Plain answers of the functions, and plain lemmas on them. No condition. -/
import Derived.Test.YtlbppjmekiemiacGreatDoorVmd
import Derived.IntWalk
import Derived.Lib.ItoaNum
import Derived.Lib.Join
import Derived.KernelRfl
/- Plain answers: flash. No condition. -/
namespace Go.Proofs.YtlbppjmekiemiacGreatDoor
namespace Vm

def eqIs (a b:List Int):Bool:=decide (a=b)
def okWord (w:Int):Bool:=decide (0≤w) && decide (w≤65535)
def okWords (l:List Int):Bool:=l.all okWord
def firstBadFrom (k:Int):List Int→Int
 | []=>-1
 | w::l=>if okWord w then firstBadFrom (k+1) l else k
def firstBad (l:List Int):Int:=firstBadFrom 0 l
def okLen (n:Nat):Bool:=n == 32 || n == 64 || n == 96 || n == 128 || n == 160 || n == 192
def checkFlash (f:Flash):Int :=
 if okLen f.words.length then (if decide (-1≤f.fuel) && decide (f.fuel≤100000) && okWords f.words then 0 else 3) else 4
def burnFuel (fu:Int):Int:=if 0<fu then fu-1 else fu
def applyCh (ws:List Int) (cs:List Change):List Int:=cs.foldl (fun ws c=>ws.set c.at_.toNat (fnwApp c.word (ws.getD c.at_.toNat 0))) ws
def doCh (f:Flash) (cs:List Change):Flash × Bool :=
 if f.fuel<0 then (⟨applyCh f.words cs,f.fuel⟩,true)
 else if (cs.length:Int)≤f.fuel then (⟨applyCh f.words cs,f.fuel-cs.length⟩,true)
 else (⟨applyCh f.words (cs.take f.fuel.toNat),0⟩,false)
def wipeFrom (at_:Int):Nat→List Change
 | 0=>[]
 | n+1=>⟨at_,none⟩::wipeFrom (at_+1) n
def wipeCh (sector:Int):List Change:=wipeFrom (32*sector) 32
def burnCh (at_:Int):List Int→List Change
 | []=>[]
 | w::l=>⟨at_,some w⟩::burnCh (at_+1) l
def noFlash:Flash:=⟨[],0⟩
def powerE (b:Bool):Int:=match b with | true=>0 | false=>7
def power (r:Flash × Bool):Flash × Int:=(r.1,powerE r.2)
def sameFlash (a b:Flash):Bool:=decide (a.fuel=b.fuel) && eqIs a.words b.words
def newFlash (n:Int):Flash × Int:=if 1≤n∧n≤6 then (⟨zeros (n*32).toNat 65535,-1⟩,0) else (noFlash,3)
def inPlaces (n:Nat) (cs:List Change):Bool:=cs.all fun c=>decide (0≤c.at_) && decide (c.at_<n)
def two64:Int:=18446744073709551616
def inU64 (a:Int):Bool:=decide (0≤a) && decide (a<18446744073709551616)
end Vm
end Go.Proofs.YtlbppjmekiemiacGreatDoor

/- Plain lemmas for the conditions of runs. No condition. -/
namespace Go.Proofs.YtlbppjmekiemiacGreatDoor
namespace Vm

theorem w64_id {n:Int} (h1:-9223372036854775808≤n) (h2:n≤9223372036854775807):w64 n=n:=by
 unfold w64 IntKind.wrap
 simp only [IntKind.signed,IntKind.bits]
 simp
 omega

theorem lti_true {a b:Int}:lti a b=true↔a<b:=by simp [lti]
theorem lti_false {a b:Int}:lti a b=false↔b≤a:=by simp [lti]
theorem lei_true {a b:Int}:lei a b=true↔a≤b:=by simp [lei]
theorem lei_false {a b:Int}:lei a b=false↔b<a:=by simp [lei]
theorem eqi_true {a b:Int}:eqi a b=true↔a=b:=by simp [eqi]
theorem eqi_false {a b:Int}:eqi a b=false↔a≠b:=by simp [eqi]
theorem eqs_true {a b:List UInt8}:eqs a b=true↔a=b:=by simp [eqs]
theorem eqs_false {a b:List UInt8}:eqs a b=false↔a≠b:=by simp [eqs]
theorem not_true {b:Bool}:(!b)=true↔b=false:=by cases b<;>simp
theorem not_false {b:Bool}:(!b)=false↔b=true:=by cases b<;>simp
theorem br_t {b:Bool} {p q:Prop} (h:b=true) (hp:p):br b p q:=by subst h; exact hp
theorem br_f {b:Bool} {p q:Prop} (h:b=false) (hq:q):br b p q:=by subst h; exact hq
theorem br_split {b:Bool} {p q:Prop} (hp:b=true→p) (hq:b=false→q):br b p q:=by cases b; exact hq rfl; exact hp rfl
theorem len_eq {α:Type} (l:List α):len l=l.length:=rfl
theorem lt_t {a b:Int} {p q:Prop} (h:a<b) (hp:p):br (lti a b) p q:=br_t (lti_true.2 h) hp
theorem lt_f {a b:Int} {p q:Prop} (h:b≤a) (hq:q):br (lti a b) p q:=br_f (lti_false.2 h) hq
theorem lt_s {a b:Int} {p q:Prop} (hp:a<b→p) (hq:b≤a→q):br (lti a b) p q:=br_split (fun h=>hp (lti_true.1 h)) (fun h=>hq (lti_false.1 h))
theorem eq_t {a b:Int} {p q:Prop} (h:a=b) (hp:p):br (eqi a b) p q:=br_t (eqi_true.2 h) hp
theorem eq_f {a b:Int} {p q:Prop} (h:a≠b) (hq:q):br (eqi a b) p q:=br_f (eqi_false.2 h) hq
theorem eq_s {a b:Int} {p q:Prop} (hp:a=b→p) (hq:a≠b→q):br (eqi a b) p q:=br_split (fun h=>hp (eqi_true.1 h)) (fun h=>hq (eqi_false.1 h))
theorem ne_t {a b:Int} {p q:Prop} (h:a≠b) (hp:p):br (!eqi a b) p q:=br_t (not_true.2 (eqi_false.2 h)) hp
theorem ne_f {a b:Int} {p q:Prop} (h:a=b) (hq:q):br (!eqi a b) p q:=br_f (not_false.2 (eqi_true.2 h)) hq
theorem ne_s {a b:Int} {p q:Prop} (hp:a≠b→p) (hq:a=b→q):br (!eqi a b) p q:=br_split (fun h=>hp (eqi_false.1 (not_true.1 h))) (fun h=>hq (eqi_true.1 (not_false.1 h)))
theorem nt_s {b:Bool} {p q:Prop} (hp:b=false→p) (hq:b=true→q):br (!b) p q:=br_split (fun h=>hp (not_true.1 h)) (fun h=>hq (not_false.1 h))
theorem nt_t {b:Bool} {p q:Prop} (h:b=false) (hp:p):br (!b) p q:=br_t (not_true.2 h) hp
theorem nt_f {b:Bool} {p q:Prop} (h:b=true) (hq:q):br (!b) p q:=br_f (not_false.2 h) hq
theorem drop_step {α:Type} {l:List α} {k:Nat} (h:k<l.length) (d:α):l.drop k=nth l k d::l.drop (k+1):=by
 rw [List.drop_eq_getElem_cons h]
 simp [nth,List.getD_eq_getElem?_getD,h]
def Sm {α:Type} (l:List α):Prop:=l.length≤140737488355328
theorem toNat_nat (n:Nat):Int.toNat (n:Int)=n:=rfl
theorem w64_succ {k:Nat} (h:k<9223372036854775807):w64 ((k:Int)+1)=((k+1:Nat):Int):=by rw [w64_id (by omega) (by omega)]; omega
theorem take_step {α:Type} {l:List α} {k:Nat} (h:k<l.length) (d:α):l.take (k+1)=l.take k++[nth l k d]:=by
 rw [List.take_succ_eq_append_getElem h]
 simp [nth,List.getD_eq_getElem?_getD,h]
theorem all_take_step {α:Type} {p:α→Bool} {l:List α} {k:Nat} (h:k<l.length) (d:α) (ht:(l.take k).all p=true) (hd:p (nth l k d)=true):(l.take (k+1)).all p=true:=by
 rw [take_step h d,List.all_append,ht]; simp [hd]
theorem all_false {α:Type} {p:α→Bool} {l:List α} {k:Nat} (h:k<l.length) (d:α) (hd:p (nth l k d)=false):l.all p=false:=by
 rw [← List.take_append_drop k l,List.all_append,drop_step h d]; simp [hd]
theorem doCh_nil (f:Flash):doCh f []=(f,true):=by
 unfold doCh
 cases f with
 | mk ws fu =>
  simp only [applyCh,List.foldl_nil,List.length_nil]
  split
  ·rfl
  ·rw [if_pos (by simp; omega)]; simp
theorem doCh_cons (ws:List Int) (fu:Int) (c:Change) (cs:List Change) :
  doCh ⟨ws,fu⟩ (c::cs)=if fu=0 then (⟨ws,0⟩,false) else doCh ⟨ws.set c.at_.toNat (fnwApp c.word (ws.getD c.at_.toNat 0)),burnFuel fu⟩ cs:=by
 unfold doCh burnFuel
 simp only [List.length_cons]
 by_cases h0:fu=0
 ·subst h0
  simp only [if_true]
  rw [if_neg (by omega),if_neg (by omega)]
  simp [applyCh]
 ·rw [if_neg h0]
  by_cases h1:fu<0
  ·rw [if_pos h1,if_neg (show ¬ 0<fu by omega),if_pos h1]; simp [applyCh]
  ·rw [if_neg h1,if_pos (show 0<fu by omega),if_neg (show ¬ fu-1<0 by omega)]
   by_cases h2:((cs.length+1:Nat):Int)≤fu
   ·rw [if_pos h2,if_pos (by omega)]
    simp only [applyCh,List.foldl_cons]
    congr 2
    omega
   ·rw [if_neg h2,if_neg (by omega)]
    have:fu.toNat=(fu-1).toNat+1:=by omega
    rw [this,List.take_succ_cons]
    simp [applyCh]
theorem applyCh_len (cs:List Change):∀ ws:List Int,(applyCh ws cs).length=ws.length:=by
 induction cs with
 | nil=>intro ws; rfl
 | cons c cs ih=>intro ws; simp only [applyCh,List.foldl_cons]; exact (ih _).trans (by simp)
theorem doCh_len (f:Flash) (cs:List Change):(doCh f cs).1.words.length=f.words.length:=by
 unfold doCh
 split
 ·exact applyCh_len _ _
 ·split
  ·exact applyCh_len _ _
  ·exact applyCh_len _ _
theorem wipeFrom_len (a:Int):∀ n,(wipeFrom a n).length=n:=by
 intro n
 induction n generalizing a with
 | zero=>rfl
 | succ n ih=>simp [wipeFrom,ih]
theorem burnCh_len:∀ (l:List Int) (a:Int),(burnCh a l).length=l.length
 | [],_=>rfl
 | w::l,a=>by simp [burnCh,burnCh_len l]
end Vm
end Go.Proofs.YtlbppjmekiemiacGreatDoor

/- Plain lemmas on flash. No condition. -/
namespace Go.Proofs.YtlbppjmekiemiacGreatDoor
namespace Vm

theorem andi_nat (n m:Nat) (hn:n<65536) (hm:m<65536):andi (n:Int) (m:Int)=((n &&& m:Nat):Int):=by
 have h1:n &&& m≤n:=Nat.and_le_left
 have e:(BitVec.ofInt 64 (n:Int) &&& BitVec.ofInt 64 (m:Int)).toNat=n &&& m:=by
  rw [BitVec.toNat_and]
  have a1:(BitVec.ofInt 64 (n:Int)).toNat=n:=by rw [BitVec.ofInt_natCast,BitVec.toNat_ofNat]; omega
  have a2:(BitVec.ofInt 64 (m:Int)).toNat=m:=by rw [BitVec.ofInt_natCast,BitVec.toNat_ofNat]; omega
  rw [a1,a2]
 unfold andi
 rw [e,w64_id (by omega) (by omega)]

theorem okWord_nat {w:Int} (h:okWord w=true):∃ n:Nat,w=n∧n<65536:=by
 simp only [okWord,Bool.and_eq_true,decide_eq_true_eq] at h
 exact ⟨w.toNat,by omega,by omega⟩
theorem okWord_of {n:Nat} (h:n<65536):okWord (n:Int)=true:=by simp [okWord]; omega
theorem okWord_andi {a b:Int} (ha:okWord a=true) (hb:okWord b=true):okWord (andi a b)=true:=by
 obtain ⟨n,rfl,hn⟩:=okWord_nat ha
 obtain ⟨m,rfl,hm⟩:=okWord_nat hb
 rw [andi_nat n m hn hm]
 exact okWord_of (Nat.lt_of_le_of_lt Nat.and_le_left hn)
theorem andi_all {a:Int} (ha:okWord a=true):andi 65535 a=a:=by
 obtain ⟨n,rfl,hn⟩:=okWord_nat ha
 have:=andi_nat 65535 n (by omega) hn
 rw [show ((65535:Nat):Int)=65535 from rfl] at this
 rw [this,Nat.and_comm,show (65535:Nat)=2 ^ 16-1 from rfl,Nat.and_two_pow_sub_one_of_lt_two_pow (by omega)]

theorem okWords_at {l:List Int} (h:okWords l=true) (i:Nat) (hi:i<l.length):okWord (l.getD i 0)=true:=by
 have:=List.all_eq_true.1 h (l[i]) (List.getElem_mem hi)
 simpa [List.getD_eq_getElem?_getD,hi] using this
theorem okWords_of {l:List Int} (h:∀ i,i<l.length→okWord (l.getD i 0)=true):okWords l=true:=by
 refine List.all_eq_true.2 fun w hw=>?_
 obtain ⟨i,hi,rfl⟩:=List.getElem_of_mem hw
 simpa [List.getD_eq_getElem?_getD,hi] using h i hi
theorem okWords_take {l:List Int} (h:okWords l=true) (k:Nat):okWords (l.take k)=true:=List.all_eq_true.2 fun w hw=>List.all_eq_true.1 h w (List.mem_of_mem_take hw)
theorem okWords_drop {l:List Int} (h:okWords l=true) (k:Nat):okWords (l.drop k)=true:=List.all_eq_true.2 fun w hw=>List.all_eq_true.1 h w (List.mem_of_mem_drop hw)

theorem ext_getD {a b:List Int} (hl:a.length=b.length) (h:∀ i,i<a.length→a.getD i 0=b.getD i 0):a=b:=by
 refine List.ext_getElem hl fun i h1 h2=>?_
 have:=h i h1
 simpa [List.getD_eq_getElem?_getD,h1,h2] using this

theorem set_getD (l:List Int) (j i:Nat) (x:Int):(l.set j x).getD i 0=if i=j∧j<l.length then x else l.getD i 0:=by
 simp only [List.getD_eq_getElem?_getD,List.getElem?_set]
 by_cases e:j=i
 ·subst e
  by_cases hl:j<l.length
  ·simp [hl]
  ·simp [hl]
 ·rw [if_neg e,if_neg (fun h=>e h.1.symm)]

theorem applyCh_append (a b:List Change) (ws:List Int):applyCh ws (a++b)=applyCh (applyCh ws a) b:=by simp [applyCh,List.foldl_append]
theorem applyCh_cons (c:Change) (cs:List Change) (ws:List Int):applyCh ws (c::cs)=applyCh (ws.set c.at_.toNat (fnwApp c.word (ws.getD c.at_.toNat 0))) cs:=rfl

theorem burn_at:∀ (l:List Int) (a:Int) (ws:List Int),0≤a→a+(l.length:Nat)≤(ws.length:Nat)→∀ i:Nat,
  (applyCh ws (burnCh a l)).getD i 0=if a≤i∧(i:Int)<a+(l.length:Nat) then andi (ws.getD i 0) (l.getD (i-a.toNat) 0) else ws.getD i 0
 | [],a,ws,h0,h1,i=>by
  rw [if_neg (by simp only [List.length_nil]; omega)]; rfl
 | w::l,a,ws,h0,h1,i=>by
  simp only [List.length_cons] at h1 ⊢
  simp only [burnCh,applyCh_cons]
  rw [burn_at l (a+1) _ (by omega) (by simp; omega) i,set_getD]
  by_cases c1:i=a.toNat
  ·rw [if_neg (by omega),if_pos ⟨c1,by omega⟩,if_pos (by omega)]
   subst c1
   simp [fnwApp]
  ·have e1:(if i=a.toNat∧a.toNat<ws.length then fnwApp (some w) (ws.getD a.toNat 0) else ws.getD i 0)=ws.getD i 0:=if_neg (by omega)
   rw [e1]
   by_cases c2:a+1≤i∧(i:Int)<a+1+(l.length:Nat)
   ·rw [if_pos c2,if_pos (by omega)]
    congr 1
    rw [show i-a.toNat=(i-(a+1).toNat)+1 by omega,List.getD_cons_succ]
   ·rw [if_neg c2,if_neg (by omega)]

theorem burnCh_append:∀ (l m:List Int) (a:Int),burnCh a (l++m)=burnCh a l++burnCh (a+(l.length:Nat)) m
 | [],m,a=>by simp [burnCh]
 | w::l,m,a=>by
  simp only [List.cons_append,burnCh,burnCh_append l m,List.length_cons]
  rw [show a+1+(l.length:Int)=a+((l.length+1:Nat):Int) by omega]

theorem checkFlash_ok {f:Flash} (h:checkFlash f=0):okLen f.words.length=true∧-1≤f.fuel∧f.fuel≤100000∧okWords f.words=true:=by
 unfold checkFlash at h
 split at h
 ·split at h
  ·rename_i h1 h2
   simp only [Bool.and_eq_true,decide_eq_true_eq] at h2
   exact ⟨h1,h2.1.1,h2.1.2,h2.2⟩
  ·cases h
 ·cases h
theorem checkFlash_mk {f:Flash} (h1:okLen f.words.length=true) (h2:-1≤f.fuel) (h3:f.fuel≤100000) (h4:okWords f.words=true):checkFlash f=0:=by
 unfold checkFlash
 rw [if_pos h1,if_pos (by simp [h2,h3,h4])]
theorem okLen_le {n:Nat} (h:okLen n=true):32≤n∧n≤192:=by
 simp [okLen] at h; omega

theorem doCh_free {ws:List Int} {cs:List Change}:doCh ⟨ws,-1⟩ cs=(⟨applyCh ws cs,-1⟩,true):=by simp [doCh]
theorem doCh_enough {ws:List Int} {fu:Int} {cs:List Change} (h:(cs.length:Int)≤fu):doCh ⟨ws,fu⟩ cs=(⟨applyCh ws cs,fu-cs.length⟩,true):=by
 unfold doCh
 rw [if_neg (by simp; omega),if_pos (by simpa using h)]
theorem slc_take {α:Type} (l:List α) (k:Nat):slc l 0 k=l.take k:=by simp [slc]
theorem slc_drop {α:Type} (l:List α) (k:Nat):slc l k l.length=l.drop k:=by simp [slc]
theorem wipe_at:∀ (n:Nat) (a:Int) (ws:List Int),0≤a→a+(n:Nat)≤(ws.length:Nat)→∀ i:Nat,
  (applyCh ws (wipeFrom a n)).getD i 0=if a≤i∧(i:Int)<a+(n:Nat) then 65535 else ws.getD i 0
 | 0,a,ws,h0,h1,i=>by
  rw [if_neg (by omega)]; rfl
 | n+1,a,ws,h0,h1,i=>by
  simp only [wipeFrom,applyCh_cons]
  rw [wipe_at n (a+1) _ (by omega) (by simp; omega) i,set_getD]
  by_cases c1:i=a.toNat
  ·rw [if_neg (by omega),if_pos ⟨c1,by omega⟩,if_pos (by omega)]; rfl
  ·have e1:(if i=a.toNat∧a.toNat<ws.length then fnwApp none (ws.getD a.toNat 0) else ws.getD i 0)=ws.getD i 0:=if_neg (by omega)
   rw [e1]
   by_cases c2:a+1≤i∧(i:Int)<a+1+(n:Nat)
   ·rw [if_pos c2,if_pos (by omega)]
   ·rw [if_neg c2,if_neg (by omega)]
theorem burnCh_take:∀ (l:List Int) (a:Int) (k:Nat),(burnCh a l).take k=burnCh a (l.take k)
 | [],_,_=>by simp [burnCh]
 | _::_,_,0=>rfl
 | w::l,a,k+1=>by simp only [burnCh,List.take_succ_cons,burnCh_take l]
theorem slc_getD (l:List Int) (a b i:Nat) (h:a+i<b):(slc l a b).getD i 0=l.getD (a+i) 0:=by
 simp only [slc,List.getD_eq_getElem?_getD,List.getElem?_drop,List.getElem?_take]
 rw [if_pos h]
theorem wipe_in (n:Nat):∀ (m:Nat) (a:Int),0≤a→a+m≤n→inPlaces n (wipeFrom a m)=true
 | 0,_,_,_=>rfl
 | m+1,a,h0,h1=>by
  have:=wipe_in n m (a+1) (by omega) (by omega)
  unfold inPlaces at this ⊢
  simp only [wipeFrom,List.all_cons,this,Bool.and_true]
  simp [h0]; omega
theorem burn_in (n:Nat):∀ (l:List Int) (a:Int),0≤a→a+(l.length:Nat)≤n→inPlaces n (burnCh a l)=true
 | [],_,_,_=>rfl
 | w::l,a,h0,h1=>by
  simp only [List.length_cons] at h1
  have:=burn_in n l (a+1) (by omega) (by omega)
  unfold inPlaces at this ⊢
  simp only [burnCh,List.all_cons,this,Bool.and_true]
  simp [h0]; omega
end Vm
end Go.Proofs.YtlbppjmekiemiacGreatDoor

/- Plain answers and lemmas: slots. No condition. -/
namespace Go.Proofs.YtlbppjmekiemiacGreatDoor
namespace Vm

theorem doCh_short {ws:List Int} {fu:Int} {cs:List Change} (h:¬ (cs.length:Int)≤fu) (h0:0≤fu):doCh ⟨ws,fu⟩ cs=(⟨applyCh ws (cs.take fu.toNat),0⟩,false):=by
 unfold doCh
 rw [if_neg (by simp only; omega),if_neg (by simpa using h)]
theorem doCh_append (f:Flash) (a b:List Change):doCh f (a++b)=if (doCh f a).2 then doCh (doCh f a).1 b else doCh f a:=by
 obtain ⟨ws,fu⟩:=f
 by_cases h1:fu<0
 ·have e:∀ (vs:List Int) (cs:List Change),doCh ⟨vs,fu⟩ cs=(⟨applyCh vs cs,fu⟩,true):=fun vs cs=>by simp [doCh,h1]
  rw [e,e,if_pos rfl,e,applyCh_append]
 ·by_cases h2:(a.length:Int)≤fu
  ·rw [doCh_enough (cs:=a) h2,if_pos rfl]
   by_cases h3:(b.length:Int)≤fu-a.length
   ·rw [doCh_enough (cs:=b) h3,doCh_enough (by rw [List.length_append]; omega),applyCh_append,List.length_append]
    rw [show fu-((a.length+b.length:Nat):Int)=fu-a.length-b.length by omega]
   ·rw [doCh_short (by rw [List.length_append]; omega) (by omega),doCh_short (by omega) (by omega)]
    rw [show fu.toNat=a.length+(fu-a.length).toNat by omega,List.take_length_add_append,applyCh_append]
  ·rw [doCh_short (by rw [List.length_append]; omega) (by omega),doCh_short (cs:=a) (by omega) (by omega),List.take_append_of_le_length (by omega)]
   rfl
theorem checkFlash_is (f:Flash):checkFlash f=0∨checkFlash f=3∨checkFlash f=4:=by
 unfold checkFlash
 split
 ·split
  ·exact .inl rfl
  ·exact .inr (.inl rfl)
 ·exact .inr (.inr rfl)
theorem doCh_fuel (f:Flash) (cs:List Change) (h1:-1≤f.fuel) (h2:f.fuel≤100000):-1≤(doCh f cs).1.fuel∧(doCh f cs).1.fuel≤100000:=by
 unfold doCh
 split
 ·exact ⟨h1,h2⟩
 ·split
  ·simp only; omega
  ·simp only; omega
theorem okWord_range {w:Int} (h:okWord w=true):0≤w∧w≤65535:=by
 simpa only [okWord,Bool.and_eq_true,decide_eq_true_eq] using h
end Vm
end Go.Proofs.YtlbppjmekiemiacGreatDoor

/- Plain lemmas: what changes leave alone. No condition. -/
namespace Go.Proofs.YtlbppjmekiemiacGreatDoor
namespace Vm

def within (a b:Int) (cs:List Change):Bool:=cs.all fun c=>decide (a≤c.at_) && decide (c.at_<b)
theorem within_append {a b:Int} {xs ys:List Change} (h1:within a b xs=true) (h2:within a b ys=true):within a b (xs++ys)=true:=by
 unfold within at *; rw [List.all_append,h1,h2]; rfl
theorem within_take {a b:Int} {xs:List Change} (h:within a b xs=true) (k:Nat):within a b (xs.take k)=true :=
 List.all_eq_true.2 fun c hc=>List.all_eq_true.1 h c (List.mem_of_mem_take hc)
theorem within_wipe (a b:Int):∀ (n:Nat) (p:Int),a≤p→p+(n:Nat)≤b→within a b (wipeFrom p n)=true
 | 0,_,_,_=>rfl
 | n+1,p,h0,h1=>by
  have:=within_wipe a b n (p+1) (by omega) (by omega)
  unfold within at this ⊢
  simp only [wipeFrom,List.all_cons,this,Bool.and_true,Bool.and_eq_true,decide_eq_true_eq]
  omega
theorem within_burn (a b:Int):∀ (l:List Int) (p:Int),a≤p→p+(l.length:Nat)≤b→within a b (burnCh p l)=true
 | [],_,_,_=>rfl
 | w::l,p,h0,h1=>by
  simp only [List.length_cons] at h1
  have:=within_burn a b l (p+1) (by omega) (by omega)
  unfold within at this ⊢
  simp only [burnCh,List.all_cons,this,Bool.and_true,Bool.and_eq_true,decide_eq_true_eq]
  omega
theorem applyCh_out {a b:Int} (h0:0≤a):∀ (cs:List Change) (ws:List Int),within a b cs=true→∀ i:Nat,(i:Int)<a∨b≤i→(applyCh ws cs).getD i 0=ws.getD i 0
 | [],_,_,_,_=>rfl
 | c::cs,ws,h,i,hi=>by
  unfold within at h
  simp only [List.all_cons,Bool.and_eq_true,decide_eq_true_eq] at h
  rw [applyCh_cons,applyCh_out h0 cs _ (by unfold within; simpa using h.2) i hi,set_getD,if_neg (by omega)]
theorem doCh_out {a b:Int} (h0:0≤a) (f:Flash) (cs:List Change) (h:within a b cs=true) (i:Nat) (hi:(i:Int)<a∨b≤i):(doCh f cs).1.words.getD i 0=f.words.getD i 0:=by
 unfold doCh
 split
 ·exact applyCh_out h0 _ _ h i hi
 ·split
  ·exact applyCh_out h0 _ _ h i hi
  ·exact applyCh_out h0 _ _ (within_take h _) i hi
theorem slc_alike {xs ws:List Int} (c d:Nat) (hl:xs.length=ws.length) (h:∀ i,c≤i→i<d→xs.getD i 0=ws.getD i 0):slc xs c d=slc ws c d:=by
 refine ext_getD (by simp [slc,hl]) fun i hi=>?_
 have hi:c+i<d:=by simp [slc] at hi; omega
 rw [slc_getD _ _ _ _ hi,slc_getD _ _ _ _ hi]
 exact h _ (by omega) hi
end Vm
end Go.Proofs.YtlbppjmekiemiacGreatDoor

/- Plain answers: the log. No condition. -/
namespace Go.Proofs.YtlbppjmekiemiacGreatDoor
namespace Vm

def checkRec (r:List Int):Int:=if 1≤r.length∧r.length≤4 then (if okWords r then 0 else 3) else 2
def recW (r:List Int):List Int:=(42240+(r.length:Int))::r
def headN (x:Int):Nat:=if 42241≤x∧x≤42244 then (x-42240).toNat else 0
def allClean (l:List Int):Bool:=l.all fun w=>decide (w=65535)
def scanL:Nat→List Int→List (List Int) × Option Nat
 | 0,_=>([],some 0)
 | _+1,[]=>([],some 0)
 | m+1,x::xs =>
  if x=65535 then ([],if allClean xs then some 0 else none)
  else if headN x=0 then ([],none)
  else if headN x≤xs.length then (xs.take (headN x)::(scanL m (xs.drop (headN x))).1,(scanL m (xs.drop (headN x))).2.map (·+headN x+1))
  else ([],none)
def sectorW (ws:List Int) (s:Nat):List Int:=slc ws (32*s) (32*s+32)
def scanS (ws:List Int) (s:Nat):List (List Int) × Option Nat:=scanL 32 ((sectorW ws s).drop 1)
def nextI (s:Nat):Option Nat→Int
 | some n=>32*s+1+n
 | none=>-1
def genOf (ws:List Int) (s:Nat):Int:=if ws.getD (32*s) 0=65535 then 0 else ws.getD (32*s) 0
def liveS (ws:List Int):Nat:=if genOf ws 0<genOf ws 1 then 1 else 0
def liveG (ws:List Int):Int:=genOf ws (liveS ws)
def liveOk (ws:List Int):Bool:=decide (0<liveG ws)
def checkLog (f:Flash):Int :=
 if checkFlash f=0 then (if 64≤f.words.length then (if 0<liveG f.words∧liveG f.words≤60000 then 0 else 5) else 4) else checkFlash f
def formatCh:List Change:=wipeCh 1++wipeCh 0++burnCh 0 [1]
def formatF (f:Flash):Flash × Int :=
 if checkFlash f=0 then (if 64≤f.words.length then power (doCh f formatCh) else (noFlash,4)) else (noFlash,checkFlash f)
def recsOf (ws:List Int):List (List Int):=(scanS ws (liveS ws)).1
def recordsF (f:Flash):List (List Int) × Int:=if checkLog f=0 then (recsOf f.words,0) else ([],checkLog f)
def allW (rs:List (List Int)):List Int:=rs.flatMap recW
def gather (n:Nat):List (List Int)→Int
 | []=>0
 | k::ks=>if checkRec k=0 then (if n+1+k.length≤31 then gather (n+1+k.length) ks else 8) else checkRec k
def room (n:Nat):Option Nat→Bool
 | some a=>decide (a+n≤30)
 | none=>false
def hereCh (s a:Nat) (r:List Int):List Change:=burnCh ((32*s+1+a:Nat)+1:Int) r++burnCh (32*s+1+a:Nat) [42240+(r.length:Int)]
def thereCh (o:Nat) (rs:List (List Int)) (g:Int):List Change:=wipeCh o++burnCh (32*(o:Int)+1) (allW rs)++burnCh (32*(o:Int)) [g]
def appendCh (ws r:List Int) (keep:List (List Int)):Option (List Change) :=
 if room r.length (scanS ws (liveS ws)).2 then some (hereCh (liveS ws) ((scanS ws (liveS ws)).2.getD 0) r)
 else if liveG ws=60000 then none
 else some (thereCh (1-liveS ws) (keep++[r]) (liveG ws+1))
def appendE (f:Flash) (r:List Int) (keep:List (List Int)):Int :=
 if checkLog f=0 then (if checkRec r=0 then gather 0 (keep++[r]) else checkRec r) else checkLog f
def appendF (f:Flash) (r:List Int) (keep:List (List Int)):Flash × Int :=
 if appendE f r keep=0 then
  (match appendCh f.words r keep with
  | some cs=>power (doCh f cs)
  | none=>(noFlash,8))
 else (noFlash,appendE f r keep)
def joinCh:List (List Change)→List Change
 | []=>[]
 | x::xs=>x++joinCh xs
def smR (l:List (List Int)):Bool:=l.all fun r=>decide (r.length≤140737488355328)
theorem ori_head {n:Int} (h0:0≤n) (h1:n≤255):ori 42240 n=42240+n:=by
 obtain ⟨m,rfl⟩:=Int.eq_ofNat_of_zero_le h0
 have e1:42240 ||| m=42240+m:=by
  exact (Nat.two_pow_add_eq_or_of_lt (b:=m) (i:=8) (by omega) 165).symm
 have e:(BitVec.ofInt 64 42240 ||| BitVec.ofInt 64 (m:Int)).toNat=42240+m:=by
  rw [BitVec.toNat_or]
  have a2:(BitVec.ofInt 64 (m:Int)).toNat=m:=by rw [BitVec.ofInt_natCast,BitVec.toNat_ofNat]; omega
  rw [a2,show (BitVec.ofInt 64 42240).toNat=42240 from rfl,e1]
 unfold ori
 rw [e,w64_id (by omega) (by omega)]; omega
theorem xori_head {x:Int} (h:okWord x=true):0≤xori x 42240∧xori x 42240≤65535∧(xori x 42240<1∨4<xori x 42240→headN x=0)∧(1≤xori x 42240→xori x 42240≤4→xori x 42240=(headN x:Int)∧headN x≠0∧headN x≤4):=by
 obtain ⟨n,rfl,hn⟩:=okWord_nat h
 have e:xori (n:Int) 42240=((n ^^^ 42240:Nat):Int):=by
  have e:(BitVec.ofInt 64 (n:Int) ^^^ BitVec.ofInt 64 42240).toNat=n ^^^ 42240:=by
   rw [BitVec.toNat_xor]
   have a2:(BitVec.ofInt 64 (n:Int)).toNat=n:=by rw [BitVec.ofInt_natCast,BitVec.toNat_ofNat]; omega
   rw [a2,show (BitVec.ofInt 64 42240).toNat=42240 from rfl]
  have hl:n ^^^ 42240<2 ^ 16:=Nat.xor_lt_two_pow (by omega) (by omega)
  unfold xori
  rw [e,w64_id (by omega) (by omega)]
 have hl:n ^^^ 42240<2 ^ 16:=Nat.xor_lt_two_pow (by omega) (by omega)
 have back:n=(n ^^^ 42240) ^^^ 42240:=by rw [Nat.xor_assoc,Nat.xor_self,Nat.xor_zero]
 rw [e]
 obtain ⟨m,hm⟩:∃ m,n ^^^ 42240=m:=⟨_,rfl⟩
 rw [hm] at back hl ⊢
 refine ⟨by omega,by omega,fun h=>?_,fun h1 h2=>?_⟩
 ·unfold headN
  by_cases c:(42241:Int)≤n∧(n:Int)≤42244
  ·exfalso
   have:n=42241∨n=42242∨n=42243∨n=42244:=by omega
   rcases this with rfl | rfl | rfl | rfl
   ·rw [show (42241:Nat) ^^^ 42240=1 from by decide] at hm; omega
   ·rw [show (42242:Nat) ^^^ 42240=2 from by decide] at hm; omega
   ·rw [show (42243:Nat) ^^^ 42240=3 from by decide] at hm; omega
   ·rw [show (42244:Nat) ^^^ 42240=4 from by decide] at hm; omega
  ·rw [if_neg c]
 ·have:m=1∨m=2∨m=3∨m=4:=by omega
  rcases this with rfl | rfl | rfl | rfl
  ·rw [show (1:Nat) ^^^ 42240=42241 from by decide] at back; subst back; decide
  ·rw [show (2:Nat) ^^^ 42240=42242 from by decide] at back; subst back; decide
  ·rw [show (3:Nat) ^^^ 42240=42243 from by decide] at back; subst back; decide
  ·rw [show (4:Nat) ^^^ 42240=42244 from by decide] at back; subst back; decide
theorem getD_ok {ws:List Int} (h:okWords ws=true) (i:Nat):0≤ws.getD i 0∧ws.getD i 0≤65535:=by
 by_cases c:i<ws.length
 ·exact okWord_range (okWords_at h i c)
 ·simp [List.getD_eq_getElem?_getD,List.getElem?_eq_none (Nat.le_of_not_lt c)]
theorem genOf_range {ws:List Int} (h:okWords ws=true) (s:Nat):0≤genOf ws s∧genOf ws s<65535:=by
 have:=getD_ok h (32*s)
 unfold genOf
 split<;>omega
theorem liveS_le (ws:List Int):liveS ws≤1:=by unfold liveS; split<;>omega
theorem checkLog_ok {f:Flash} (h:checkLog f=0):checkFlash f=0∧64≤f.words.length∧0<liveG f.words∧liveG f.words≤60000:=by
 unfold checkLog at h
 split at h
 ·rename_i h1
  split at h
  ·rename_i h2
   split at h
   ·rename_i h3; exact ⟨h1,h2,h3⟩
   ·cases h
  ·cases h
 ·exact absurd h ‹_›
theorem slc_ok {l:List Int} (h:okWords l=true) (a b:Nat):okWords (slc l a b)=true:=okWords_drop (okWords_take h b) a
theorem scanL_le:∀ (m:Nat) (l:List Int) (a:Nat),(scanL m l).2=some a→a≤l.length
 | 0,_,a,h=>by simp only [scanL,Option.some.injEq] at h; omega
 | _+1,[],a,h=>by simp only [scanL,Option.some.injEq] at h; omega
 | m+1,x::xs,a,h=>by
  simp only [scanL] at h
  split at h
  ·simp only at h
   split at h
   ·cases h; omega
   ·cases h
  ·split at h
   ·cases h
   ·split at h
    ·rename_i h1 h2 h3
     simp only [Option.map] at h
     split at h
     ·rename_i b hb
      have:=scanL_le m _ b hb
      simp only [List.length_drop] at this
      cases h
      simp only [List.length_cons]; omega
     ·cases h
    ·cases h
theorem scanS_le {ws:List Int} {s a:Nat} (hl:32*s+32≤ws.length) (h:(scanS ws s).2=some a):a≤31:=by
 have:=scanL_le _ _ _ h
 rw [List.length_drop,sectorW,slc_len _ _ _ hl] at this
 omega
theorem recW_len (r:List Int):(recW r).length=r.length+1:=rfl
theorem allW_snoc (rs:List (List Int)) (r:List Int):allW (rs++[r])=allW rs++recW r:=by simp [allW]
theorem checkRec_ok {r:List Int} (h:checkRec r=0):1≤r.length∧r.length≤4∧okWords r=true:=by
 unfold checkRec at h
 split at h
 ·rename_i h1
  split at h
  ·rename_i h2; exact ⟨h1.1,h1.2,h2⟩
  ·cases h
 ·cases h
end Vm
end Go.Proofs.YtlbppjmekiemiacGreatDoor

/- Plain laws: the log, wherever the power goes. No condition. -/
namespace Go.Proofs.YtlbppjmekiemiacGreatDoor
namespace Vm

def chOk (c:Change):Bool:=match c.word with | none=>true | some w=>okWord w
theorem applyCh_ok:∀ (cs:List Change) (ws:List Int),okWords ws=true→cs.all chOk=true→okWords (applyCh ws cs)=true
 | [],_,h,_=>h
 | c::cs,ws,h,hc=>by
  simp only [List.all_cons,Bool.and_eq_true] at hc
  rw [applyCh_cons]
  refine applyCh_ok cs _ (okWords_of fun i hi=>?_) hc.2
  rw [set_getD]
  split
  ·have hg:=getD_ok h c.at_.toNat
   unfold chOk at hc
   unfold fnwApp
   split
   ·rfl
   ·rename_i w hw
    rw [hw] at hc
    exact okWord_andi (by simp only [okWord,Bool.and_eq_true,decide_eq_true_eq]; exact hg) hc.1
  ·exact okWords_at h i (by simpa using hi)
theorem wipe_chOk (a:Int):∀ n,(wipeFrom a n).all chOk=true:=by
 intro n
 induction n generalizing a with
 | zero=>rfl
 | succ n ih=>simp [wipeFrom,ih,chOk]
theorem burn_chOk:∀ (l:List Int) (a:Int),okWords l=true→(burnCh a l).all chOk=true
 | [],_,_=>rfl
 | w::l,a,h=>by
  unfold okWords at h
  simp only [List.all_cons,Bool.and_eq_true] at h
  simp only [burnCh,List.all_cons,Bool.and_eq_true]
  exact ⟨h.1,burn_chOk l _ h.2⟩
theorem all_take {α:Type} {p:α→Bool} {l:List α} (h:l.all p=true) (k:Nat):(l.take k).all p=true:=List.all_eq_true.2 fun x hx=>List.all_eq_true.1 h x (List.mem_of_mem_take hx)
theorem doCh_take (f:Flash) (cs:List Change):∃ k,k≤cs.length∧(doCh f cs).1.words=applyCh f.words (cs.take k)∧((doCh f cs).2=true→k=cs.length):=by
 unfold doCh
 split
 ·exact ⟨cs.length,Nat.le_refl _,by simp,fun _=>rfl⟩
 ·split
  ·exact ⟨cs.length,Nat.le_refl _,by simp,fun _=>rfl⟩
  ·rename_i h1 h2
   exact ⟨f.fuel.toNat,by omega,rfl,fun h=>by simp at h⟩

/- scanning -/
theorem scanL_fuel:∀ (m m2:Nat) (l:List Int),l.length≤m→l.length≤m2→scanL m l=scanL m2 l
 | 0,0,_,_,_=>rfl
 | 0,_+1,[],_,_=>rfl
 | 0,_+1,_::_,h,_=>by simp at h
 | _+1,0,[],_,_=>rfl
 | _+1,0,_::_,_,h=>by simp at h
 | _+1,_+1,[],_,_=>rfl
 | m+1,m2+1,x::xs,h,h2=>by
  simp only [List.length_cons] at h h2
  have:=scanL_fuel m m2 (xs.drop (headN x)) (by simp only [List.length_drop]; omega) (by simp only [List.length_drop]; omega)
  simp only [scanL,this]
theorem scanL_zero {m:Nat} {l:List Int} (h:(scanL m l).2=some 0) (hm:l.length≤m):(scanL m l).1=[]∧allClean l=true:=by
 match m,l,hm with
 | 0,[],_=>exact ⟨rfl,rfl⟩
 | _+1,[],_=>exact ⟨rfl,rfl⟩
 | m+1,x::xs,hm =>
  simp only [scanL] at h ⊢
  by_cases c:x=65535
  ·rw [if_pos c] at h ⊢
   refine ⟨rfl,?_⟩
   simp only at h
   unfold allClean at h ⊢
   simp only [List.all_cons,c,decide_true,Bool.true_and]
   cases hx:xs.all fun w=>decide (w=65535)
   ·rw [hx] at h; simp at h
   ·rfl
  ·rw [if_neg c] at h
   split at h
   ·cases h
   ·split at h
    ·simp only [Option.map] at h
     split at h
     ·simp at h
     ·cases h
    ·cases h
theorem scanL_pre:∀ (m:Nat) (pre t t':List Int),(scanL m (pre++t)).2=some pre.length→(pre++t).length≤m→(pre++t').length≤m →
  scanL m (pre++t')=((scanL m (pre++t)).1++(scanL m t').1,(scanL m t').2.map (·+pre.length))∧allClean t=true
 | m,[],t,t',h,hm,hm'=>by
  obtain ⟨h1,h2⟩:=scanL_zero h hm
  simp only [List.nil_append] at h1 h2 ⊢
  rw [h1]
  refine ⟨?_,h2⟩
  rw [List.nil_append,List.length_nil]
  cases hc:scanL m t' with
  | mk a b=>cases b<;>rfl
 | 0,x::pre,t,t',h,hm,_=>by simp at hm
 | m+1,x::pre,t,t',h,hm,hm'=>by
  simp only [List.cons_append,List.length_cons,List.length_append] at h hm hm'
  simp only [scanL] at h
  have hx:x≠65535:=fun c=>by
   rw [if_pos c] at h
   simp only at h
   split at h<;>simp at h
  rw [if_neg hx] at h
  have hn:headN x≠0:=fun c=>by rw [if_pos c] at h; simp at h
  rw [if_neg hn] at h
  have hl:headN x≤(pre++t).length:=by
   by_cases c:headN x≤(pre++t).length
   ·exact c
   ·rw [if_neg c] at h; simp at h
  rw [if_pos hl] at h
  simp only [Option.map] at h
  split at h
  ·rename_i b hb
   simp only [Option.some.injEq] at h
   obtain ⟨n,hnn⟩:∃ n,headN x=n:=⟨_,rfl⟩
   rw [hnn] at h hb hl hn
   have hpl:n≤pre.length:=by omega
   have d1:∀ u,(pre++u).drop n=pre.drop n++u:=fun u=>List.drop_append_of_le_length hpl
   have t1:∀ u,(pre++u).take n=pre.take n:=fun u=>List.take_append_of_le_length hpl
   rw [d1] at hb
   have ih:=scanL_pre m (pre.drop n) t t' (by rw [hb]; simp; omega) (by simp; omega) (by simp; omega)
   refine ⟨?_,ih.2⟩
   have ef:scanL (m+1) t'=scanL m t':=scanL_fuel _ _ _ (by omega) (by omega)
   rw [ef]
   simp only [List.cons_append,scanL,if_neg hx,hnn,if_neg hn,d1,t1]
   rw [if_pos (by simp; omega),if_pos (by simp; omega),ih.1]
   simp only [List.cons_append]
   congr 1
   cases (scanL m t').2 with
   | none=>rfl
   | some c=>simp only [Option.map,List.length_drop,List.length_cons,Option.some.injEq]; omega
  ·cases h
theorem scanL_recs:∀ (rs:List (List Int)) (m:Nat) (t:List Int),(∀ k∈rs,1≤k.length∧k.length≤4)→(allW rs++t).length≤m→allClean t=true →
  scanL m (allW rs++t)=(rs,some (allW rs).length)
 | [],m,t,_,hm,ht=>by
  simp only [allW,List.flatMap_nil,List.nil_append,List.length_nil] at hm ⊢
  match m,t,hm with
  | 0,[],_=>rfl
  | _+1,[],_=>rfl
  | m+1,x::xs,_ =>
   unfold allClean at ht
   simp only [List.all_cons,Bool.and_eq_true,decide_eq_true_eq] at ht
   simp only [scanL]
   rw [if_pos ht.1,if_pos (by unfold allClean; exact ht.2)]
 | k::rs,m,t,hr,hm,ht=>by
  have hk:=hr k (by simp)
  have e:allW (k::rs)++t=(42240+(k.length:Int))::(k++(allW rs++t)):=by simp [allW,recW]
  have el:(allW (k::rs)).length=k.length+1+(allW rs).length:=by simp [allW,recW]; omega
  rw [e] at hm ⊢
  simp only [List.length_cons,List.length_append] at hm
  match m,hm with
  | m+1,hm =>
   have hh:headN (42240+(k.length:Int))=k.length:=by
    unfold headN
    rw [if_pos (by omega)]; omega
   simp only [scanL]
   rw [if_neg (by omega),hh,if_neg (by omega),if_pos (by simp),List.take_left,List.drop_left]
   rw [scanL_recs rs m t (fun k hk=>hr k (by simp [hk])) (by simp; omega) ht,el]
   simp only [Option.map,Prod.mk.injEq,Option.some.injEq,true_and]
   omega
theorem scanL_small:∀ (m:Nat) (l:List Int),(∀ r∈(scanL m l).1,r.length≤4)∧(scanL m l).1.length≤l.length
 | 0,_=>by simp [scanL]
 | _+1,[]=>by simp [scanL]
 | m+1,x::xs=>by
  obtain ⟨h1,h2⟩:=scanL_small m (xs.drop (headN x))
  have h4:headN x≤4:=by unfold headN; split<;>omega
  simp only [scanL]
  split
  ·simp
  ·split
   ·simp
   ·split
    ·refine ⟨fun r hr=>?_,?_⟩
     ·rcases List.mem_cons.1 hr with rfl | hr
      ·rw [List.length_take]; omega
      ·exact h1 r hr
     ·simp only [List.length_drop] at h2
      simp only [List.length_cons]; omega
    ·simp
theorem recsOf_small (ws:List Int):(∀ r∈recsOf ws,r.length≤4)∧(recsOf ws).length≤32:=by
 unfold recsOf scanS
 obtain ⟨h1,h2⟩:=scanL_small 32 ((sectorW ws (liveS ws)).drop 1)
 refine ⟨h1,Nat.le_trans h2 ?_⟩
 unfold sectorW slc
 simp; omega
/- what the log looks at -/
theorem genOf_alike {xs ws:List Int} {s:Nat} (h:xs.getD (32*s) 0=ws.getD (32*s) 0):genOf xs s=genOf ws s:=by unfold genOf; rw [h]
theorem scanS_alike {xs ws:List Int} {s:Nat} (hl:xs.length=ws.length) (h:∀ i,32*s≤i→i<32*s+32→xs.getD i 0=ws.getD i 0):scanS xs s=scanS ws s:=by
 unfold scanS sectorW
 rw [slc_alike _ _ hl h]
theorem checkLog_mk {ws:List Int} {fu:Int} (h1:okLen ws.length=true) (h2:-1≤fu) (h3:fu≤100000) (h4:okWords ws=true) (h5:64≤ws.length) (h6:0<liveG ws) (h7:liveG ws≤60000):checkLog ⟨ws,fu⟩=0:=by
 unfold checkLog
 rw [if_pos (checkFlash_mk h1 h2 h3 h4),if_pos h5,if_pos ⟨h6,h7⟩]
theorem checkLog_is (f:Flash):checkLog f=0∨checkLog f=3∨checkLog f=4∨checkLog f=5:=by
 have:=checkFlash_is f
 unfold checkLog
 split
 ·split
  ·split
   ·exact .inl rfl
   ·exact .inr (.inr (.inr rfl))
  ·exact .inr (.inr (.inl rfl))
 ·omega
theorem gather_ok:∀ (rs:List (List Int)) (n:Nat),n≤31→gather n rs=0→n+(allW rs).length≤31∧∀ k∈rs,checkRec k=0
 | [],n,hn,_=>by simp [allW]; omega
 | k::rs,n,hn,h=>by
  simp only [gather] at h
  by_cases c:checkRec k=0
  ·rw [if_pos c] at h
   by_cases c2:n+1+k.length≤31
   ·rw [if_pos c2] at h
    obtain ⟨h1,h2⟩:=gather_ok rs _ c2 h
    have el:(allW (k::rs)).length=k.length+1+(allW rs).length:=by simp [allW,recW]; omega
    refine ⟨by omega,fun r hr=>?_⟩
    rcases List.mem_cons.1 hr with rfl | hr
    ·exact c
    ·exact h2 r hr
   ·rw [if_neg c2] at h; cases h
  ·rw [if_neg c] at h; exact absurd h c
theorem allW_ok {rs:List (List Int)} (h:∀ k∈rs,checkRec k=0):okWords (allW rs)=true:=by
 unfold okWords allW
 rw [List.all_flatMap]
 refine List.all_eq_true.2 fun k hk=>?_
 obtain ⟨h1,h2,h3⟩:=checkRec_ok (h k hk)
 unfold recW
 rw [List.all_cons]
 unfold okWords at h3
 rw [h3]
 simp only [okWord,Bool.and_true,Bool.and_eq_true,decide_eq_true_eq]; omega
end Vm
end Go.Proofs.YtlbppjmekiemiacGreatDoor

/- Plain laws: what appending leaves, wherever the power goes. No condition. -/
namespace Go.Proofs.YtlbppjmekiemiacGreatDoor
namespace Vm

def tailS (ws:List Int) (s:Nat):List Int:=(sectorW ws s).drop 1
theorem tailS_len {ws:List Int} {s:Nat} (h:32*s+32≤ws.length):(tailS ws s).length=31:=by
 unfold tailS sectorW
 rw [List.length_drop,slc_len _ _ _ h]
theorem drop_getD (l:List Int) (a i:Nat):(l.drop a).getD i 0=l.getD (a+i) 0:=by simp [List.getD_eq_getElem?_getD,List.getElem?_drop]
theorem tailS_getD (ws:List Int) (s i:Nat) (hi:i<31):(tailS ws s).getD i 0=ws.getD (32*s+1+i) 0:=by
 unfold tailS sectorW
 rw [drop_getD,slc_getD _ _ _ _ (by omega)]
 congr 1; omega
theorem clean_getD {l:List Int} (h:allClean l=true) (i:Nat) (hi:i<l.length):l.getD i 0=65535:=by
 have:=List.all_eq_true.1 h (l[i]) (List.getElem_mem hi)
 simpa [List.getD_eq_getElem?_getD,hi] using this
theorem clean_of {l:List Int} (h:∀ i,i<l.length→l.getD i 0=65535):allClean l=true:=by
 refine List.all_eq_true.2 fun w hw=>?_
 obtain ⟨i,hi,rfl⟩:=List.getElem_of_mem hw
 simpa [List.getD_eq_getElem?_getD,hi] using h i hi
theorem getD_append (a b:List Int) (i:Nat):(a++b).getD i 0=if i<a.length then a.getD i 0 else b.getD (i-a.length) 0:=by
 simp only [List.getD_eq_getElem?_getD,List.getElem?_append]
 split<;>rfl
theorem tailS_nonempty {ws:List Int} {s:Nat} (_:32*s+32≤ws.length):scanS ws s=scanL 32 (tailS ws s):=rfl
theorem live_same {g ws:List Int} (h0:genOf g 0=genOf ws 0) (h1:genOf g 1=genOf ws 1):liveS g=liveS ws∧liveG g=liveG ws:=by
 have es:liveS g=liveS ws:=by unfold liveS; rw [h0,h1]
 have hs:=liveS_le ws
 refine ⟨es,?_⟩
 unfold liveG; rw [es]
 have:liveS ws=0∨liveS ws=1:=by omega
 rcases this with h | h
 ·rw [h,h0]
 ·rw [h,h1]
theorem here_recs {ws r:List Int} {a:Nat} (hl:64≤ws.length) (hr1:1≤r.length) (hr2:r.length≤4) (hro:okWords r=true) (hsc:(scanS ws (liveS ws)).2=some a) (ha:a+r.length≤30) (k:Nat) (hk:k≤r.length+1) :
  within 1 64 (hereCh (liveS ws) a r)=true∧liveG (applyCh ws ((hereCh (liveS ws) a r).take k))=liveG ws ∧
  (k≤r.length→recsOf (applyCh ws ((hereCh (liveS ws) a r).take k))=recsOf ws)∧(k=r.length+1→recsOf (applyCh ws ((hereCh (liveS ws) a r).take k))=recsOf ws++[r]):=by
 have hs:=liveS_le ws
 unfold recsOf
 obtain ⟨s,hss⟩:∃ s,liveS ws=s:=⟨_,rfl⟩
 rw [hss] at hsc hs ⊢
 have hl2:32*s+32≤ws.length:=by omega
 obtain ⟨p,hp⟩:∃ p,32*s+1+a=p:=⟨_,rfl⟩
 have hch:hereCh s a r=burnCh ((p:Int)+1) r++burnCh (p:Int) [42240+(r.length:Int)]:=by unfold hereCh; rw [hp]
 have hw:within (p:Nat) ((32*s+32:Nat):Int) (hereCh s a r)=true:=by
  rw [hch]
  exact within_append (within_burn _ _ _ _ (by omega) (by omega)) (within_burn _ _ _ _ (by omega) (by simp only [List.length_cons,List.length_nil]; omega))
 obtain ⟨g,hg⟩:∃ g,applyCh ws ((hereCh s a r).take k)=g:=⟨_,rfl⟩
 have gl:g.length=ws.length:=hg ▸ applyCh_len _ _
 have gout:∀ i,i<p∨32*s+32≤i→g.getD i 0=ws.getD i 0:=fun i hi=>by
  rw [← hg]; exact applyCh_out (by omega) _ _ (within_take hw k) i (by omega)
 have g0:genOf g 0=genOf ws 0:=genOf_alike (gout _ (by omega))
 have g1:genOf g 1=genOf ws 1:=genOf_alike (gout _ (by omega))
 obtain ⟨e1,e2⟩:=live_same g0 g1
 rw [hg,e1,hss]
 refine ⟨?_,e2,?_⟩
 ·unfold within at hw ⊢
  refine List.all_eq_true.2 fun c hc=>?_
  have:=List.all_eq_true.1 hw c hc
  simp only [Bool.and_eq_true,decide_eq_true_eq] at this ⊢
  omega
 have tl:=tailS_len hl2
 have tlg:=tailS_len (ws:=g) (s:=s) (by omega)
 have td:∀ i,i<31→(tailS g s).getD i 0=g.getD (32*s+1+i) 0:=tailS_getD g s
 have pl:((tailS ws s).take a).length=a:=by rw [List.length_take]; omega
 have sp:=scanL_pre 32 ((tailS ws s).take a) ((tailS ws s).drop a) ((tailS g s).drop a) (by rw [List.take_append_drop,pl]; exact hsc) (by simp; omega) (by simp; omega)
 have epre:(tailS g s).take a=(tailS ws s).take a:=by
  refine ext_getD (by simp; omega) fun i hi=>?_
  have hi:i<a:=by simp at hi; omega
  have e:∀ l:List Int,(l.take a).getD i 0=l.getD i 0:=fun l=>by simp only [List.getD_eq_getElem?_getD]; rw [List.getElem?_take_of_lt hi]
  rw [e,e,td i (by omega),tailS_getD ws s i (by omega),gout _ (by omega)]
 have hscg:scanS g s=scanL 32 ((tailS ws s).take a++(tailS g s).drop a):=by
  rw [← epre,List.take_append_drop]; rfl
 have hscw:(scanS ws s).1=(scanL 32 ((tailS ws s).take a++(tailS ws s).drop a)).1:=by rw [List.take_append_drop]; rfl
 have clean:=sp.2
 have wclean:∀ i,p≤i→i<32*s+32→ws.getD i 0=65535:=fun i h1 h2=>by
  have:=clean_getD clean (i-p) (by simp; omega)
  rw [drop_getD,tailS_getD _ _ _ (by omega)] at this
  rw [show 32*s+1+(a+(i-p))=i by omega] at this
  exact this
 rw [hscg,sp.1,← hscw]
 refine ⟨fun hk1=>?_,fun hk1=>?_⟩
 ·have eg:g=applyCh ws (burnCh ((p:Int)+1) (r.take k)):=by
   rw [← hg,hch,List.take_append_of_le_length (by rw [burnCh_len]; exact hk1),burnCh_take]
  have hx:((tailS g s).drop a)=65535::(tailS g s).drop (a+1):=by
   rw [drop_step (by omega) 0]
   congr 1
   show (tailS g s).getD a 0=_
   rw [td a (by omega),eg,applyCh_out (a:=(p:Int)+1) (b:=200) (by omega) _ _ (within_burn _ _ _ _ (by omega) (by rw [List.length_take]; omega)) _ (by omega)]
   exact wclean _ (by omega) (by omega)
  rw [hx]
  simp [scanL]
 ·have eg:g=applyCh (applyCh ws (burnCh ((p:Int)+1) r)) (burnCh (p:Int) [42240+(r.length:Int)]):=by
   rw [← hg,hch,List.take_of_length_le (by rw [List.length_append,burnCh_len,burnCh_len]; simp; omega),applyCh_append]
  have b1:=burn_at r ((p:Int)+1) ws (by omega) (by omega)
  have b2:=burn_at [42240+(r.length:Int)] (p:Int) (applyCh ws (burnCh ((p:Int)+1) r)) (by omega) (by rw [applyCh_len]; simp only [List.length_cons,List.length_nil]; omega)
  simp only [List.length_cons,List.length_nil] at b2
  have hgd:∀ i,p≤i→i<32*s+32→g.getD i 0=if i=p then 42240+(r.length:Int) else if i<p+1+r.length then r.getD (i-(p+1)) 0 else 65535:=fun i h1 h2=>by
   rw [eg,b2]
   by_cases c:i=p
   ·rw [if_pos (by omega),if_pos c,b1,if_neg (by omega),wclean i h1 h2]
    rw [show i-Int.toNat (p:Int)=0 by omega,List.getD_cons_zero,andi_all (by simp only [okWord,Bool.and_eq_true,decide_eq_true_eq]; omega)]
   ·rw [if_neg (by omega),if_neg c,b1]
    by_cases c2:i<p+1+r.length
    ·rw [if_pos (by omega),if_pos c2,wclean i h1 h2,show ((p:Int)+1).toNat=p+1 by omega,andi_all (okWords_at hro _ (by omega))]
    ·rw [if_neg (by omega),if_neg c2,wclean i h1 h2]
  have hx:(tailS g s).drop a=allW [r]++(tailS g s).drop (a+1+r.length):=by
   have la:(allW [r]).length=r.length+1:=by simp [allW,recW]
   refine ext_getD (by simp [la]; omega) fun i hi=>?_
   have hi:a+i<31:=by simp at hi; omega
   rw [drop_getD,td _ hi,getD_append,la]
   have e:allW [r]=(42240+(r.length:Int))::r:=by simp [allW,recW]
   by_cases c:i<r.length+1
   ·rw [if_pos c,hgd _ (by omega) (by omega),e]
    by_cases c2:i=0
    ·subst c2; rw [if_pos (by omega)]; rfl
    ·rw [if_neg (by omega),if_pos (by omega)]
     obtain ⟨j,rfl⟩:∃ j,i=j+1:=⟨i-1,by omega⟩
     rw [List.getD_cons_succ]; congr 1; omega
   ·rw [if_neg c,drop_getD,td _ (by omega)]; congr 1; omega
  rw [hx,scanL_recs [r] 32 _ (by simp; omega) (by rw [← hx]; simp; omega) (clean_of fun i hi=>by
   have hi:a+1+r.length+i<31:=by simp at hi; omega
   rw [drop_getD,td _ hi,hgd _ (by omega) (by omega),if_neg (by omega),if_neg (by omega)])]
set_option maxHeartbeats 2000000 in
theorem there_recs {ws:List Int} {rs:List (List Int)} (hl:64≤ws.length) (hok:okWords ws=true) (hg0:0<liveG ws) (hg1:liveG ws<60000) (hrs:∀ k∈rs,checkRec k=0) (hal:(allW rs).length≤31) (k:Nat) (hk:k≤33+(allW rs).length) :
  within 0 64 (thereCh (1-liveS ws) rs (liveG ws+1))=true∧0<liveG (applyCh ws ((thereCh (1-liveS ws) rs (liveG ws+1)).take k))∧liveG (applyCh ws ((thereCh (1-liveS ws) rs (liveG ws+1)).take k))≤liveG ws+1 ∧
  (k<33+(allW rs).length→recsOf (applyCh ws ((thereCh (1-liveS ws) rs (liveG ws+1)).take k))=recsOf ws) ∧
  (k=33+(allW rs).length→recsOf (applyCh ws ((thereCh (1-liveS ws) rs (liveG ws+1)).take k))=rs):=by
 have hs:=liveS_le ws
 have hgr:=genOf_range hok (liveS ws)
 have hgo:=genOf_range hok (1-liveS ws)
 have hlg:liveG ws=genOf ws (liveS ws):=rfl
 have hls:liveS ws=if genOf ws 0<genOf ws 1 then 1 else 0:=rfl
 unfold recsOf
 obtain ⟨s,hss⟩:∃ s,liveS ws=s:=⟨_,rfl⟩
 rw [hss] at hs hgr hgo hlg hls ⊢
 obtain ⟨gn,hgn⟩:∃ gn,liveG ws=gn:=⟨_,rfl⟩
 rw [hgn] at hg0 hg1 hlg ⊢
 obtain ⟨o,ho⟩:∃ o,1-s=o:=⟨_,rfl⟩
 rw [ho] at hgo ⊢
 have ho1:o≤1∧o+s=1:=by omega
 have hl2:32*o+32≤ws.length:=by omega
 have hch:thereCh o rs (gn+1)=(⟨32*(o:Int),none⟩::(wipeFrom (32*(o:Int)+1) 31++burnCh (32*(o:Int)+1) (allW rs)))++burnCh (32*(o:Int)) [gn+1]:=rfl
 have hmid:within (32*(o:Int)+1) (32*(o:Int)+32) (wipeFrom (32*(o:Int)+1) 31++burnCh (32*(o:Int)+1) (allW rs))=true :=
  within_append (within_wipe _ _ _ _ (by omega) (by omega)) (within_burn _ _ _ _ (by omega) (by omega))
 have hw:within (32*o:Nat) ((32*o+32:Nat):Int) (thereCh o rs (gn+1))=true:=by
  unfold thereCh wipeCh
  exact within_append (within_append (within_wipe _ _ _ _ (by omega) (by omega)) (within_burn _ _ _ _ (by omega) (by omega))) (within_burn _ _ _ _ (by omega) (by simp only [List.length_cons,List.length_nil]; omega))
 have lmid:(wipeFrom (32*(o:Int)+1) 31++burnCh (32*(o:Int)+1) (allW rs)).length=31+(allW rs).length:=by rw [List.length_append,wipeFrom_len,burnCh_len]
 obtain ⟨mid,hmd⟩:∃ mid,wipeFrom (32*(o:Int)+1) 31++burnCh (32*(o:Int)+1) (allW rs)=mid:=⟨_,rfl⟩
 obtain ⟨g,hg⟩:∃ g,applyCh ws ((thereCh o rs (gn+1)).take k)=g:=⟨_,rfl⟩
 have gl:g.length=ws.length:=hg ▸ applyCh_len _ _
 have gout:∀ i,i<32*o∨32*o+32≤i→g.getD i 0=ws.getD i 0:=fun i hi=>by
  rw [← hg]; exact applyCh_out (by omega) _ _ (within_take hw k) i (by omega)
 have gs:genOf g s=genOf ws s:=genOf_alike (gout _ (by omega))
 have sso:s=0∧o=1∨s=1∧o=0:=by omega
 rw [hg]
 have w64':within 0 64 (thereCh o rs (gn+1))=true:=by
  unfold within at hw ⊢
  refine List.all_eq_true.2 fun c hc=>?_
  have:=List.all_eq_true.1 hw c hc
  simp only [Bool.and_eq_true,decide_eq_true_eq] at this ⊢
  omega
 have part:k<33+(allW rs).length→genOf g o≤genOf ws o∧(genOf g o=genOf ws o∨genOf g o=0):=fun hk2=>by
  match k,hk2 with
  | 0,_ =>
   have:g=ws:=by rw [← hg]; rfl
   rw [this]; exact ⟨Int.le_refl _,.inl rfl⟩
  | k+1,hk2 =>
   have eg:g=applyCh (ws.set (32*o) 65535) (mid.take k):=by
    rw [← hg,hch,hmd,List.take_append_of_le_length (by rw [List.length_cons,← hmd,lmid]; omega),List.take_succ_cons,applyCh_cons]
    rfl
   have e0:g.getD (32*o) 0=65535:=by
    rw [eg,applyCh_out (a:=32*(o:Int)+1) (b:=32*(o:Int)+32) (by omega) _ _ (within_take (hmd ▸ hmid) k) _ (by omega),set_getD,if_pos ⟨rfl,by omega⟩]
   have:genOf g o=0:=by unfold genOf; rw [if_pos e0]
   rw [this]; exact ⟨hgo.1,.inr rfl⟩
 have whole:k=33+(allW rs).length→liveS g=o∧liveG g=gn+1∧(scanS g o).1=rs:=fun hk2=>by
  have eg:g=applyCh (applyCh (applyCh ws (wipeFrom (32*(o:Int)) 32)) (burnCh (32*(o:Int)+1) (allW rs))) (burnCh (32*(o:Int)) [gn+1]):=by
   rw [← hg,List.take_of_length_le (by rw [hch,hmd,List.length_append,List.length_cons,← hmd,lmid,burnCh_len]; simp; omega)]
   unfold thereCh wipeCh
   rw [applyCh_append,applyCh_append]
  have l1:(applyCh ws (wipeFrom (32*(o:Int)) 32)).length=ws.length:=applyCh_len _ _
  have l2:(applyCh (applyCh ws (wipeFrom (32*(o:Int)) 32)) (burnCh (32*(o:Int)+1) (allW rs))).length=ws.length:=(applyCh_len _ _).trans l1
  have b1:=wipe_at 32 (32*(o:Int)) ws (by omega) (by omega)
  have b2:=burn_at (allW rs) (32*(o:Int)+1) (applyCh ws (wipeFrom (32*(o:Int)) 32)) (by omega) (by omega)
  have b3:=burn_at [gn+1] (32*(o:Int)) (applyCh (applyCh ws (wipeFrom (32*(o:Int)) 32)) (burnCh (32*(o:Int)+1) (allW rs))) (by omega) (by simp only [List.length_cons,List.length_nil]; omega)
  simp only [List.length_cons,List.length_nil] at b3
  have aok:=allW_ok hrs
  have hgd:∀ i,32*o≤i→i<32*o+32→g.getD i 0=if i=32*o then gn+1 else if i<32*o+1+(allW rs).length then (allW rs).getD (i-(32*o+1)) 0 else 65535:=fun i h1 h2=>by
   rw [eg,b3]
   by_cases c:i=32*o
   ·rw [if_pos (by omega),if_pos c,b2,if_neg (by omega),b1,if_pos (by omega)]
    rw [show i-Int.toNat (32*(o:Int))=0 by omega,List.getD_cons_zero,andi_all (by simp only [okWord,Bool.and_eq_true,decide_eq_true_eq]; omega)]
   ·rw [if_neg (by omega),if_neg c,b2]
    by_cases c2:i<32*o+1+(allW rs).length
    ·rw [if_pos (by omega),if_pos c2,b1,if_pos (by omega),show (32*(o:Int)+1).toNat=32*o+1 by omega,andi_all (okWords_at aok _ (by omega))]
    ·rw [if_neg (by omega),if_neg c2,b1,if_pos (by omega)]
  have e0:genOf g o=gn+1:=by
   unfold genOf
   rw [hgd _ (by omega) (by omega),if_pos rfl,if_neg (by omega)]
  have es:liveS g=o:=by
   unfold liveS
   rcases sso with ⟨rfl,rfl⟩ | ⟨rfl,rfl⟩
   ·rw [if_pos (by omega)]
   ·rw [if_neg (by omega)]
  refine ⟨es,by unfold liveG; rw [es,e0],?_⟩
  have tlg:=tailS_len (ws:=g) (s:=o) (by omega)
  have td:∀ i,i<31→(tailS g o).getD i 0=g.getD (32*o+1+i) 0:=tailS_getD g o
  have hx:tailS g o=allW rs++(tailS g o).drop (allW rs).length:=by
   refine ext_getD (by simp; omega) fun i hi=>?_
   rw [tlg] at hi
   rw [getD_append]
   by_cases c:i<(allW rs).length
   ·rw [if_pos c,td _ hi,hgd _ (by omega) (by omega),if_neg (by omega),if_pos (by omega),show 32*o+1+i-(32*o+1)=i by omega]
   ·rw [if_neg c,drop_getD,show (allW rs).length+(i-(allW rs).length)=i by omega]
  show (scanL 32 (tailS g o)).1=rs
  rw [hx,scanL_recs rs 32 _ (fun k hk=>⟨(checkRec_ok (hrs k hk)).1,(checkRec_ok (hrs k hk)).2.1⟩) (by rw [← hx]; omega) (clean_of fun i hi=>by
   have hi:(allW rs).length+i<31:=by simp at hi; omega
   rw [drop_getD,td _ hi,hgd _ (by omega) (by omega),if_neg (by omega),if_neg (by omega)])]
 by_cases hk2:k=33+(allW rs).length
 ·obtain ⟨q1,q2,q3⟩:=whole hk2
  rw [q2,q1]
  exact ⟨w64',by omega,by omega,fun h=>absurd hk2 (by omega),fun _=>q3⟩
 ·obtain ⟨q1,q2⟩:=part (by omega)
  have es:liveS g=s∧liveG g=gn:=by
   have e:liveS g=s:=by
    unfold liveS
    rcases sso with ⟨rfl,rfl⟩ | ⟨rfl,rfl⟩
    ·rw [if_neg]
     by_cases c:genOf ws 0<genOf ws 1
     ·rw [if_pos c] at hls; omega
     ·omega
    ·rw [if_pos]
     by_cases c:genOf ws 0<genOf ws 1
     ·omega
     ·rw [if_neg c] at hls; omega
   refine ⟨e,by unfold liveG; rw [e,gs]; exact hlg.symm⟩
  rw [es.1,es.2]
  refine ⟨w64',by omega,by omega,fun _=>?_,fun h=>absurd h hk2⟩
  rw [scanS_alike gl (fun i h1 h2=>gout i (by omega))]
end Vm
end Go.Proofs.YtlbppjmekiemiacGreatDoor

/- Plain laws: appending, joined. No condition. -/
namespace Go.Proofs.YtlbppjmekiemiacGreatDoor
namespace Vm

theorem appendE_ok {f:Flash} {r:List Int} {keep:List (List Int)} (h:appendE f r keep=0):checkLog f=0∧checkRec r=0∧gather 0 (keep++[r])=0:=by
 unfold appendE at h
 split at h
 ·rename_i h1
  split at h
  ·rename_i h2; exact ⟨h1,h2,h⟩
  ·exact absurd h ‹_›
 ·exact absurd h ‹_›
theorem gather_is:∀ (rs:List (List Int)) (n:Nat),gather n rs=0∨gather n rs=2∨gather n rs=3∨gather n rs=8
 | [],_=>.inl rfl
 | k::rs,n=>by
  simp only [gather]
  split
  ·split
   ·exact gather_is rs _
   ·exact .inr (.inr (.inr rfl))
  ·unfold checkRec
   split
   ·split
    ·exact .inl rfl
    ·exact .inr (.inr (.inl rfl))
   ·exact .inr (.inl rfl)
theorem appendE_is (f:Flash) (r:List Int) (keep:List (List Int)) (h:checkLog f=0):appendE f r keep=0∨appendE f r keep=2∨appendE f r keep=3∨appendE f r keep=8:=by
 unfold appendE
 rw [if_pos h]
 by_cases c:checkRec r=0
 ·rw [if_pos c]; exact gather_is _ _
 ·rw [if_neg c]
  unfold checkRec at c ⊢
  split
  ·split
   ·exact .inl rfl
   ·exact .inr (.inr (.inl rfl))
  ·exact .inr (.inl rfl)
theorem appendE_not (f:Flash) (r:List Int) (keep:List (List Int)):appendE f r keep≠7:=by
 by_cases h:checkLog f=0
 ·have:=appendE_is f r keep h; omega
 ·unfold appendE
  rw [if_neg h]
  have:=checkLog_is f; omega
theorem appendF_inv {f:Flash} {r:List Int} {keep:List (List Int)} (h:(appendF f r keep).2=0∨(appendF f r keep).2=7) :
  ∃ cs,appendE f r keep=0∧appendCh f.words r keep=some cs∧appendF f r keep=power (doCh f cs):=by
 unfold appendF at h ⊢
 by_cases c:appendE f r keep=0
 ·rw [if_pos c] at h ⊢
  cases hc:appendCh f.words r keep with
  | none=>rw [hc] at h; simp at h
  | some cs=>exact ⟨cs,c,rfl,rfl⟩
 ·rw [if_neg c] at h
  have:=appendE_not f r keep
  simp only at h
  omega
theorem append_recs {ws:List Int} {fu:Int} {r:List Int} {keep:List (List Int)} {cs:List Change} (hE:appendE ⟨ws,fu⟩ r keep=0) (hC:appendCh ws r keep=some cs) :
  2≤cs.length∧cs.length≤64∧cs.all chOk=true∧within 0 64 cs=true∧∀ k,k≤cs.length →
   0<liveG (applyCh ws (cs.take k))∧(liveG (applyCh ws (cs.take k))≤60000∧liveG (applyCh ws (cs.take k))≤liveG ws+1)∧(k<cs.length→recsOf (applyCh ws (cs.take k))=recsOf ws) ∧
   (k=cs.length→recsOf (applyCh ws (cs.take k))=recsOf ws++[r]∨recsOf (applyCh ws (cs.take k))=keep++[r]):=by
 obtain ⟨e1,e2,e3⟩:=appendE_ok hE
 obtain ⟨k1,k2,k3,k4⟩:=checkLog_ok e1
 obtain ⟨c1,_,_,c4⟩:=checkFlash_ok k1
 obtain ⟨r1,r2,r3⟩:=checkRec_ok e2
 obtain ⟨g1,g2⟩:=gather_ok _ 0 (by omega) e3
 simp only at k2 k3 k4 c4
 unfold appendCh at hC
 by_cases hr:room r.length (scanS ws (liveS ws)).2=true
 ·rw [if_pos hr] at hC
  cases hsc:(scanS ws (liveS ws)).2 with
  | none=>rw [hsc] at hr; cases hr
  | some a =>
   rw [hsc] at hr hC
   simp only [room,decide_eq_true_eq] at hr
   simp only [Option.getD_some,Option.some.injEq] at hC
   have hl:cs.length=r.length+1:=by rw [← hC]; unfold hereCh; rw [List.length_append,burnCh_len,burnCh_len]; rfl
   refine ⟨by omega,by omega,?_,?_,fun k hk=>?_⟩
   ·rw [← hC]; unfold hereCh
    rw [List.all_append,burn_chOk _ _ r3,burn_chOk]
    ·rfl
    ·simp only [okWords,okWord,List.all_cons,List.all_nil,Bool.and_true,Bool.and_eq_true,decide_eq_true_eq]; omega
   ·have:=(here_recs k2 r1 r2 r3 hsc hr 0 (by omega)).1
    rw [hC] at this
    unfold within at this ⊢
    refine List.all_eq_true.2 fun c hc=>?_
    have:=List.all_eq_true.1 this c hc
    simp only [Bool.and_eq_true,decide_eq_true_eq] at this ⊢
    omega
   ·obtain ⟨_,q2,q3,q4⟩:=here_recs k2 r1 r2 r3 hsc hr k (by omega)
    rw [hC] at q2 q3 q4
    exact ⟨by omega,⟨by omega,by omega⟩,fun h=>q3 (by omega),fun h=>.inl (q4 (by omega))⟩
 ·rw [if_neg hr] at hC
  by_cases hg:liveG ws=60000
  ·rw [if_pos hg] at hC; cases hC
  rw [if_neg hg] at hC
  simp only [Option.some.injEq] at hC
  have hl:cs.length=33+(allW (keep++[r])).length:=by rw [← hC]; unfold thereCh wipeCh; rw [List.length_append,List.length_append,wipeFrom_len,burnCh_len,burnCh_len,List.length_singleton]; omega
  have key:=fun k hk=>there_recs (rs:=keep++[r]) k2 c4 k3 (by omega) g2 (by omega) k hk
  rw [hC] at key
  have gr:=genOf_range c4 (liveS ws)
  have gg:liveG ws=genOf ws (liveS ws):=rfl
  refine ⟨by omega,by omega,?_,(key 0 (by omega)).1,fun k hk=>?_⟩
  ·rw [← hC]; unfold thereCh wipeCh
   rw [List.all_append,List.all_append,wipe_chOk,burn_chOk _ _ (allW_ok g2),burn_chOk]
   ·rfl
   ·simp only [okWords,okWord,List.all_cons,List.all_nil,Bool.and_true,Bool.and_eq_true,decide_eq_true_eq]; omega
  ·obtain ⟨_,q1,q2,q3,q4⟩:=key k (by omega)
   exact ⟨q1,⟨by omega,q2⟩,fun h=>q3 (by omega),fun h=>.inr (q4 (by omega))⟩
theorem append_end {ws:List Int} {fu:Int} {r:List Int} {keep:List (List Int)} {cs:List Change} (hE:appendE ⟨ws,fu⟩ r keep=0) (hC:appendCh ws r keep=some cs) {fv:Int} (hf1:-1≤fv) (hf2:fv≤100000) :
  checkLog ⟨(doCh ⟨ws,fu⟩ cs).1.words,fv⟩=0∧(doCh ⟨ws,fu⟩ cs).1.words.length=ws.length∧(∀ i,64≤i→(doCh ⟨ws,fu⟩ cs).1.words.getD i 0=ws.getD i 0) ∧
  (recsOf (doCh ⟨ws,fu⟩ cs).1.words=recsOf ws++[r]∨recsOf (doCh ⟨ws,fu⟩ cs).1.words=keep++[r]∨((doCh ⟨ws,fu⟩ cs).2=false∧recsOf (doCh ⟨ws,fu⟩ cs).1.words=recsOf ws)):=by
 obtain ⟨e1,e2,e3⟩:=appendE_ok hE
 obtain ⟨k1,k2,k3,k4⟩:=checkLog_ok e1
 obtain ⟨c1,_,_,c4⟩:=checkFlash_ok k1
 obtain ⟨q1,q2,q3,q4,q5⟩:=append_recs hE hC
 have hl:=doCh_len ⟨ws,fu⟩ cs
 have ho:=fun i hi=>doCh_out (a:=0) (b:=64) (by omega) ⟨ws,fu⟩ cs q4 i hi
 obtain ⟨k,h1,h2,h3⟩:=doCh_take ⟨ws,fu⟩ cs
 simp only at k2 c1 c4 hl ho h2
 obtain ⟨p1,p2,p3,p4⟩:=q5 k h1
 have hok:okWords (doCh ⟨ws,fu⟩ cs).1.words=true:=by rw [h2]; exact applyCh_ok _ _ c4 (all_take q3 k)
 rw [← h2] at p1 p2 p3 p4
 refine ⟨checkLog_mk (by rw [hl]; exact c1) hf1 hf2 hok (by omega) p1 p2.1,hl,fun i hi=>ho i (by omega),?_⟩
 by_cases c:k=cs.length
 ·rcases p4 c with h | h
  ·exact .inl h
  ·exact .inr (.inl h)
 ·refine .inr (.inr ⟨?_,p3 (by omega)⟩)
  cases hd:(doCh ⟨ws,fu⟩ cs).2
  ·rfl
  ·exact absurd (h3 hd) c
theorem recordsF_ok {f:Flash} (h:checkLog f=0):recordsF f=(recsOf f.words,0):=by unfold recordsF; rw [if_pos h]
end Vm
end Go.Proofs.YtlbppjmekiemiacGreatDoor

/- Plain answers: texts. No condition. -/
namespace Go.Proofs.YtlbppjmekiemiacGreatDoor
namespace Vm

def digs:Nat→Nat→List UInt8
 | 0,_=>[]
 | f+1,u=>if u<10 then [UInt8.ofNat (48+u)] else digs f (u / 10)++[UInt8.ofNat (48+u % 10)]
def numT (n:Int):List UInt8:=digs 20 n.toNat
theorem digs_eq:∀ (f u:Nat),u<10 ^ f→0<f→Go.Lib.decDigits u=digs f u
 | 0,_,_,h=>absurd h (by omega)
 | f+1,u,hu,_=>by
  rw [Go.Lib.decDigits]
  by_cases c:u<10
  ·rw [dif_pos c]; simp [digs,c]
  ·rw [dif_neg c]
   have h1:u / 10<10 ^ f:=by
    rw [Nat.pow_succ] at hu
    exact Nat.div_lt_of_lt_mul (by omega)
   have h2:0<f:=by
    cases f with
    | zero=>simp at h1; omega
    | succ f=>omega
   rw [digs_eq f (u / 10) h1 h2]
   simp [digs,c]
theorem itoa_eq {n:Int} (h0:0≤n) (h1:n≤9223372036854775807):Go.Lib.itoa n=numT n:=by
 unfold Go.Lib.itoa numT
 rw [if_neg (by omega)]
 exact digs_eq 20 _ (by omega) (by omega)
def joinT (sep:List UInt8):List (List UInt8)→List UInt8
 | []=>[]
 | x::xs=>match xs with
  | []=>x
  | _::_=>x++sep++joinT sep xs
theorem join_eq (sep:List UInt8):∀ xs,Go.Lib.join xs sep=joinT sep xs
 | []=>rfl
 | [x]=>by simp [Go.Lib.join,List.intercalate,joinT]
 | x::y::xs=>by
  have:=join_eq sep (y::xs)
  simp only [Go.Lib.join,List.intercalate,joinT] at this ⊢
  rw [← this]
  simp [List.intersperse]
def indexFrom (k:Int) (s:List UInt8):List (List UInt8)→Int
 | []=>-1
 | x::r=>if x=s then k else indexFrom (k+1) s r
def indexS (s:List UInt8) (l:List (List UInt8)):Int:=indexFrom 0 s l
def hasS (s:List UInt8) (l:List (List UInt8)):Bool:=l.any fun x=>decide (x=s)
def bookFrom (seen:List (List UInt8)):List (List UInt8)→Int
 | []=>0
 | s::r=>if 2000<s.length then 2 else if hasS s seen then 6 else bookFrom (seen++[s]) r
def checkBook (l:List (List UInt8)):Int:=if 60<l.length then 2 else bookFrom [] l
def nameB (l:List (List UInt8)) (s:List UInt8):Int × Int:=if checkBook l=0 then (indexS s l+1,0) else (0,checkBook l)
def nums (l:List Int):Bool:=l.all fun n=>decide (0≤n) && decide (n≤9223372036854775807)
def listT (l:List Int):List UInt8:=joinT [32] (l.map numT)
theorem digs_len:∀ f u,(digs f u).length≤f
 | 0,_=>by simp [digs]
 | f+1,u=>by
  simp only [digs]
  split
  ·simp
  ·have:=digs_len f (u / 10)
   simp; omega
theorem numT_len (n:Int):(numT n).length≤20:=digs_len _ _
theorem joinT_len (sep:List UInt8) (m:Nat):∀ xs:List (List UInt8),(∀ x∈xs,x.length≤m)→(joinT sep xs).length≤xs.length*(m+sep.length)
 | [],_=>by simp [joinT]
 | [x],h=>by have:=h x (by simp); simp [joinT]; omega
 | x::y::xs,h=>by
  have h1:=h x (by simp)
  have h2:=joinT_len sep m (y::xs) (fun z hz=>h z (by simp at hz ⊢; exact .inr hz))
  simp only [joinT,List.length_append,List.length_cons] at h2 ⊢
  rw [Nat.add_mul (xs.length+1) 1]
  omega
theorem listT_len (l:List Int):(listT l).length≤l.length*21:=by
 have:=joinT_len [32] 20 (l.map numT) (fun x hx=>by
  obtain ⟨n,_,rfl⟩:=List.mem_map.1 hx
  exact numT_len n)
 simpa [listT] using this
theorem indexFrom_range (s:List UInt8):∀ (l:List (List UInt8)) (k:Int),0≤k→indexFrom k s l=-1∨(k≤indexFrom k s l∧indexFrom k s l<k+(l.length:Nat))
 | [],_,_=>.inl rfl
 | x::r,k,hk=>by
  simp only [indexFrom]
  split
  ·exact .inr ⟨by omega,by simp only [List.length_cons]; omega⟩
  ·rcases indexFrom_range s r (k+1) (by omega) with h | h
   ·exact .inl h
   ·exact .inr ⟨by omega,by simp only [List.length_cons]; omega⟩
theorem indexS_has (s:List UInt8) (l:List (List UInt8)):decide (0≤indexS s l)=hasS s l:=by
 have key:∀ (l:List (List UInt8)) (k:Int),0≤k→decide (0≤indexFrom k s l)=hasS s l:=by
  intro l
  induction l with
  | nil=>intro k _; rfl
  | cons x r ih =>
   intro k hk
   have ih':=ih (k+1) (by omega)
   simp only [hasS,List.any_cons]
   by_cases c:x=s
   ·have e:indexFrom k s (x::r)=k:=if_pos c
    rw [show decide (0≤indexFrom k s (x::r))=true from decide_eq_true (by rw [e]; exact hk)]; simp [c]
   ·have e:indexFrom k s (x::r)=indexFrom (k+1) s r:=if_neg c
    rw [show decide (0≤indexFrom k s (x::r))=decide (0≤indexFrom (k+1) s r) from by simp only [e],ih']; simp [c,hasS]
 exact key l 0 (by omega)
def notBehind (last:Option Int) (k:Int):Bool:=match last with
 | some p=>decide (k≤p)
 | none=>false
def rootEnd (e t n:Int):Int:=if e=0 then (if t<1∨n<t then 4 else 0) else e
def keysFrom (last:Option Int):List Int→Int
 | []=>0
 | k::r=>if k<1∨50<k then 3 else if notBehind last k then 6 else keysFrom (some k) r
def checkRoot (v:Int) (ks:List Int) (t:Int):Int :=
 if v<1∨1000<v then 3 else if ks.length=0∨6<ks.length then 2 else rootEnd (keysFrom none ks) t ks.length
def okTarget (i:Int) (t:Target):Bool:=decide (t.unit=i) && decide (1≤t.image) && decide (t.image≤60) && decide (1≤t.long) && decide (t.long≤40)
def okTargets (i:Int):List Target→Bool
 | []=>true
 | t::r=>okTarget i t && okTargets (i+1) r
def checkRelease (v u:Int) (ts:List Target):Int :=
 if v<1∨1000<v∨u<0∨100000<u then 3 else if ts.length=0∨4<ts.length then 2 else if okTargets 0 ts then 0 else 3
def checkImage (w:List Int):Int:=if w.length=0∨40<w.length then 2 else if okWords w then 0 else 3
def rootText (v:Int) (ks:List Int) (t:Int):List UInt8:=[114,111,111,116,32]++numT v++[32]++numT t++[32,111,102,32]++listT ks
def targetT (t:Target):List UInt8:=[59,32]++listT [t.unit,t.image,t.long]
def targetsT (ts:List Target):List UInt8:=ts.flatMap targetT
def releaseText (v u:Int) (ts:List Target):List UInt8:=[114,101,108,101,97,115,101,32]++numT v++[32,117,110,116,105,108,32]++numT u++targetsT ts
def imageText (w:List Int):List UInt8:=[105,109,97,103,101,32]++listT w
def rootTextE (v:Int) (ks:List Int) (t:Int):List UInt8 × Int:=if checkRoot v ks t=0 then (rootText v ks t,0) else ([],checkRoot v ks t)
def releaseTextE (v u:Int) (ts:List Target):List UInt8 × Int:=if checkRelease v u ts=0 then (releaseText v u ts,0) else ([],checkRelease v u ts)
def imageTextE (w:List Int):List UInt8 × Int:=if checkImage w=0 then (imageText w,0) else ([],checkImage w)
def imageName (l:List (List UInt8)) (w:List Int):Int × Int:=if checkImage w=0 then nameB l (imageText w) else (0,checkImage w)
theorem keysFrom_ok:∀ (ks:List Int) (last:Option Int),keysFrom last ks=0→nums ks=true
 | [],_,_=>rfl
 | k::r,last,h=>by
  simp only [keysFrom] at h
  by_cases c:k<1∨50<k
  ·rw [if_pos c] at h; cases h
  ·rw [if_neg c] at h
   by_cases c2:notBehind last k=true
   ·rw [if_pos c2] at h; cases h
   ·rw [if_neg c2] at h
    have:=keysFrom_ok r _ h
    unfold nums at this ⊢
    simp only [List.all_cons,this,Bool.and_true,Bool.and_eq_true,decide_eq_true_eq]; omega
theorem checkRoot_ok {v:Int} {ks:List Int} {t:Int} (h:checkRoot v ks t=0):1≤v∧v≤1000∧1≤t∧t≤(ks.length:Int)∧ks.length≤6∧nums ks=true:=by
 unfold checkRoot at h
 by_cases c1:v<1∨1000<v
 ·rw [if_pos c1] at h; cases h
 rw [if_neg c1] at h
 by_cases c2:ks.length=0∨6<ks.length
 ·rw [if_pos c2] at h; cases h
 rw [if_neg c2] at h
 unfold rootEnd at h
 by_cases c3:keysFrom none ks=0
 ·rw [if_pos c3] at h
  by_cases c4:t<1∨(ks.length:Int)<t
  ·rw [if_pos c4] at h; cases h
  ·exact ⟨by omega,by omega,by omega,by omega,by omega,keysFrom_ok _ _ c3⟩
 ·rw [if_neg c3] at h; exact absurd h c3
theorem okTargets_ok:∀ (ts:List Target) (i:Int),okTargets i ts=true→0≤i→i+ts.length≤1000→∀ t∈ts,0≤t.unit∧t.unit≤1000∧0≤t.image∧t.image≤1000∧0≤t.long∧t.long≤1000
 | [],_,_,_,_,t,ht=>by simp at ht
 | x::r,i,h,h0,h1,t,ht=>by
  simp only [okTargets,Bool.and_eq_true] at h
  simp only [List.length_cons] at h1
  rcases List.mem_cons.1 ht with rfl | ht
  ·have:=h.1
   simp only [okTarget,Bool.and_eq_true,decide_eq_true_eq] at this
   omega
  ·exact okTargets_ok r (i+1) h.2 (by omega) (by omega) t ht
theorem checkRelease_ok {v u:Int} {ts:List Target} (h:checkRelease v u ts=0):1≤v∧v≤1000∧0≤u∧u≤100000∧1≤ts.length∧ts.length≤4∧∀ t∈ts,0≤t.unit∧t.unit≤1000∧0≤t.image∧t.image≤1000∧0≤t.long∧t.long≤1000:=by
 unfold checkRelease at h
 by_cases c1:v<1∨1000<v∨u<0∨100000<u
 ·rw [if_pos c1] at h; cases h
 rw [if_neg c1] at h
 by_cases c2:ts.length=0∨4<ts.length
 ·rw [if_pos c2] at h; cases h
 rw [if_neg c2] at h
 by_cases c3:okTargets 0 ts=true
 ·exact ⟨by omega,by omega,by omega,by omega,by omega,by omega,okTargets_ok ts 0 c3 (by omega) (by omega)⟩
 ·rw [if_neg c3] at h; cases h
theorem checkImage_ok {w:List Int} (h:checkImage w=0):1≤w.length∧w.length≤40∧okWords w=true:=by
 unfold checkImage at h
 by_cases c1:w.length=0∨40<w.length
 ·rw [if_pos c1] at h; cases h
 rw [if_neg c1] at h
 by_cases c2:okWords w=true
 ·exact ⟨by omega,by omega,c2⟩
 ·rw [if_neg c2] at h; cases h
theorem nums_of_words {w:List Int} (h:okWords w=true):nums w=true:=List.all_eq_true.2 fun n hn=>by
 have:=okWord_range (List.all_eq_true.1 h n hn)
 simp only [Bool.and_eq_true,decide_eq_true_eq]; omega
end Vm
end Go.Proofs.YtlbppjmekiemiacGreatDoor

/- Plain laws: texts, further. No condition. -/

/- Plain answers: trust. No condition. -/
namespace Go.Proofs.YtlbppjmekiemiacGreatDoor
namespace Vm

def simpleB:List (List UInt8):=[[105,109,97,103,101,32,55],[105,109,97,103,101,32,56,32,56],[114,101,108,101,97,115,101,32,49,32,117,110,116,105,108,32,53,59,32,48,32,50,32,50],[114,111,111,116,32,50,32,49,32,111,102,32,52]]
def simpleL:List Signed:=[⟨3,3⟩,⟨3,4⟩,⟨4,4⟩,⟨4,3⟩]
def okSigned (s:Signed):Bool:=decide (1≤s.key) && decide (s.key≤50) && decide (1≤s.name) && decide (s.name≤60)
def checkSigned (l:List Signed):Int:=if 360<l.length then 2 else if l.all okSigned then 0 else 3
def isSig (k n:Int) (s:Signed):Bool:=eqi k s.key && (eqi n s.name && true)
def indexG (k n:Int) (j:Int):List Signed→Int
 | []=>-1
 | s::r=>if isSig k n s then j else indexG k n (j+1) r
def hasSig (k n:Int) (l:List Signed):Bool:=l.any (isSig k n)
def indexI (k:Int) (j:Int):List Int→Int
 | []=>-1
 | x::r=>if x=k then j else indexI k (j+1) r
def hasI (k:Int) (l:List Int):Bool:=l.any fun x=>decide (x=k)
def signs (l:List Signed) (sigs:List Int) (name k:Int):Bool:=hasI k sigs && hasSig k name l
def countN (l:List Signed) (sigs:List Int) (name:Int) (ks:List Int):Nat:=(ks.filter (signs l sigs name)).length
def countT (l:List Signed) (r:Root) (sigs:List Int) (name:Int):Int × Int :=
 if checkSigned l=0 then (if checkRoot r.version r.keys r.thr=0 then (if 50<sigs.length then (0,2) else ((countN l sigs name r.keys:Nat),0)) else (0,checkRoot r.version r.keys r.thr)) else (0,checkSigned l)
def checkTrust (t:Trust):Int:=if t.version<0∨1000<t.version then 3 else checkRoot t.r.version t.r.keys t.r.thr
def noTrust:Trust:=⟨⟨0,[],0⟩,0⟩
def enough (l:List Signed) (r:Root) (sigs:List Int) (name:Int):Int:=if (countT l r sigs name).2=0 then (if (countT l r sigs name).1<r.thr then 9 else 0) else (countT l r sigs name).2
def turnE (b:List (List UInt8)) (l:List Signed) (t:Trust) (next:Root) (sigs:List Int):Int :=
 if checkTrust t=0 then (if checkRoot next.version next.keys next.thr=0 then (if checkBook b=0 then (if next.version=t.r.version+1 then
  (if enough l t.r sigs (indexS (rootText next.version next.keys next.thr) b+1)=0 then enough l next sigs (indexS (rootText next.version next.keys next.thr) b+1) else enough l t.r sigs (indexS (rootText next.version next.keys next.thr) b+1)) else 10) else checkBook b) else checkRoot next.version next.keys next.thr) else checkTrust t
def turnT (b:List (List UInt8)) (l:List Signed) (t:Trust) (next:Root) (sigs:List Int):Trust × Int :=
 if turnE b l t next sigs=0 then (⟨next,t.version⟩,0) else (noTrust,turnE b l t next sigs)
def rootsT (b:List (List UInt8)) (l:List Signed) (t:Trust):List Root→List (List Int)→Trust × Int
 | [],_=>(t,0)
 | r::rs,sg=>if (turnT b l t r (sg.headD [])).2=0 then rootsT b l (turnT b l t r (sg.headD [])).1 rs sg.tail else (noTrust,(turnT b l t r (sg.headD [])).2)
def okImage (b:List (List UInt8)) (x:Target) (w:List Int):Bool:=decide ((imageName b w).2=0) && decide ((imageName b w).1=x.image) && decide ((w.length:Int)=x.long)
def okImages (b:List (List UInt8)):List Target→List (List Int)→Bool
 | [],_=>true
 | x::xs,ws=>okImage b x (ws.headD []) && okImages b xs ws.tail
def relE (b:List (List UInt8)) (l:List Signed) (t:Trust) (o:Offer) (now units:Int):Int :=
 if checkRelease o.r.version o.r.til o.r.targets=0 then (if checkBook b=0 then
  (if enough l t.r o.sigs (indexS (releaseText o.r.version o.r.til o.r.targets) b+1)=0 then
   (if o.r.version≤t.version then 10 else if o.r.til<now then 11 else if (o.r.targets.length:Int)≠units∨(o.images.length:Int)≠units then 4 else if okImages b o.r.targets o.images then 0 else 5)
  else enough l t.r o.sigs (indexS (releaseText o.r.version o.r.til o.r.targets) b+1)) else checkBook b) else checkRelease o.r.version o.r.til o.r.targets
def takeEnd (b:List (List UInt8)) (l:List Signed) (o:Offer) (now units:Int) (x:Trust × Int):Trust × Int :=
 if x.2=0 then (if relE b l x.1 o now units=0 then (⟨x.1.r,o.r.version⟩,0) else (noTrust,relE b l x.1 o now units)) else (noTrust,x.2)
def takeT (b:List (List UInt8)) (l:List Signed) (t:Trust) (o:Offer) (now units:Int):Trust × Int :=
 if checkTrust t=0 then (if 6<o.roots.length∨o.rootSigs.length≠o.roots.length then (noTrust,2) else takeEnd b l o now units (rootsT b l t o.roots o.rootSigs)) else (noTrust,checkTrust t)
def sameTrust (a b:Trust):Bool:=eqi a.version b.version && (eqi a.r.version b.r.version && (eqi a.r.thr b.r.thr && eqIs a.r.keys b.r.keys))
theorem ifz {x y:Int}:(if x=0 then y else x)=0↔x=0∧y=0:=by
 by_cases h:x=0
 ·rw [if_pos h]; exact ⟨fun g=>⟨h,g⟩,fun g=>g.2⟩
 ·rw [if_neg h]; exact ⟨fun g=>absurd g h,fun g=>absurd g.1 h⟩
theorem checkTrust_ok {t:Trust} (h:checkTrust t=0):0≤t.version∧t.version≤1000∧checkRoot t.r.version t.r.keys t.r.thr=0:=by
 unfold checkTrust at h
 by_cases c:t.version<0∨1000<t.version
 ·rw [if_pos c] at h; cases h
 ·rw [if_neg c] at h; exact ⟨by omega,by omega,h⟩
theorem turnE_ok {b:List (List UInt8)} {l:List Signed} {t:Trust} {next:Root} {sigs:List Int} (h:turnE b l t next sigs=0) :
  checkTrust t=0∧checkRoot next.version next.keys next.thr=0∧checkBook b=0∧next.version=t.r.version+1 ∧
  enough l t.r sigs (indexS (rootText next.version next.keys next.thr) b+1)=0∧enough l next sigs (indexS (rootText next.version next.keys next.thr) b+1)=0:=by
 unfold turnE at h
 obtain ⟨h1,h⟩:=ifz.1 h
 obtain ⟨h2,h⟩:=ifz.1 h
 obtain ⟨h3,h⟩:=ifz.1 h
 by_cases c:next.version=t.r.version+1
 ·rw [if_pos c] at h
  obtain ⟨h4,h⟩:=ifz.1 h
  exact ⟨h1,h2,h3,c,h4,h⟩
 ·rw [if_neg c] at h; cases h
theorem turnT_ok {b:List (List UInt8)} {l:List Signed} {t:Trust} {next:Root} {sigs:List Int} (h:(turnT b l t next sigs).2=0):turnE b l t next sigs=0∧turnT b l t next sigs=(⟨next,t.version⟩,0):=by
 unfold turnT at h ⊢
 by_cases c:turnE b l t next sigs=0
 ·rw [if_pos c]; exact ⟨c,rfl⟩
 ·rw [if_neg c] at h; exact absurd h c
theorem countN_cons (l:List Signed) (sigs:List Int) (name k:Int) (r:List Int):countN l sigs name (k::r)=(if signs l sigs name k then 1 else 0)+countN l sigs name r:=by
 unfold countN
 rw [List.filter_cons]
 by_cases h:signs l sigs name k=true
 ·rw [if_pos h,if_pos h,List.length_cons]; omega
 ·rw [if_neg h,if_neg h]; omega
theorem indexI_has (k:Int):∀ (l:List Int) (j:Int),0≤j→lei 0 (indexI k j l)=hasI k l
 | [],_,_=>rfl
 | x::r,j,hj=>by
  simp only [indexI,hasI,List.any_cons]
  by_cases c:x=k
  ·rw [if_pos c,decide_eq_true c]; exact decide_eq_true hj
  ·rw [if_neg c,decide_eq_false c]; exact indexI_has k r (j+1) (by omega)
theorem indexG_has (k n:Int):∀ (l:List Signed) (j:Int),0≤j→lei 0 (indexG k n j l)=hasSig k n l
 | [],_,_=>rfl
 | x::r,j,hj=>by
  simp only [indexG,hasSig,List.any_cons]
  by_cases c:isSig k n x=true
  ·rw [if_pos c,c]; exact decide_eq_true hj
  ·rw [if_neg c,(Bool.not_eq_true _).mp c]; exact indexG_has k n r (j+1) (by omega)
end Vm
end Go.Proofs.YtlbppjmekiemiacGreatDoor

/- Plain laws: trust. No condition. -/

/- Plain answers: a unit. No condition. -/
namespace Go.Proofs.YtlbppjmekiemiacGreatDoor
namespace Vm

def nonE (l:List (List Int)):Bool:=l.all fun r=>decide (0<r.length)
def sameMsg (a b:Message):Bool:=eqi a.kind b.kind && (eqi a.unit b.unit && (eqi a.n b.n && (eqi a.at_ b.at_ && (eqi a.image b.image && (eqb a.yes b.yes && eqIs a.words b.words)))))
def sameMsgs:List Message→List Message→Bool
 | [],[]=>true
 | a::as,b::bs=>sameMsg a b && sameMsgs as bs
 | _,_=>false
def smM (l:List Message):Bool:=l.all fun m=>decide (m.words.length≤140737488355328)
end Vm
end Go.Proofs.YtlbppjmekiemiacGreatDoor

/- Plain laws: a unit. No condition. -/
namespace Go.Proofs.YtlbppjmekiemiacGreatDoor
namespace Vm

theorem okWords_sub {l r:List Int} (h:okWords l=true) (hs:∀ x∈r,x∈l):okWords r=true:=List.all_eq_true.2 fun x hx=>List.all_eq_true.1 h x (hs x hx)
theorem checkRec_mk {r:List Int} (h1:1≤r.length) (h2:r.length≤4) (h3:okWords r=true):checkRec r=0:=by
 unfold checkRec
 rw [if_pos ⟨h1,h2⟩,if_pos h3]
theorem headN_range (x:Int):headN x=0∨(1≤headN x∧headN x≤4):=by
 unfold headN
 split
 ·exact .inr (by omega)
 ·exact .inl rfl
theorem scanL_ok:∀ (m:Nat) (l:List Int),okWords l=true→∀ r∈(scanL m l).1,checkRec r=0
 | 0,_,_,r,hr=>by simp [scanL] at hr
 | _+1,[],_,r,hr=>by simp [scanL] at hr
 | m+1,x::xs,h,r,hr=>by
  have hx:okWords xs=true:=okWords_sub h fun y hy=>List.mem_cons_of_mem _ hy
  simp only [scanL] at hr
  split at hr
  ·simp at hr
  ·split at hr
   ·simp at hr
   ·rename_i h0
    split at hr
    ·rename_i hle
     rcases List.mem_cons.1 hr with rfl | hr
     ·have:=headN_range x
      exact checkRec_mk (by rw [List.length_take]; omega) (by rw [List.length_take]; omega) (okWords_sub hx fun y hy=>List.mem_of_mem_take hy)
     ·exact scanL_ok m _ (okWords_sub hx fun y hy=>List.mem_of_mem_drop hy) r hr
    ·simp at hr
theorem recsOf_ok {ws:List Int} (h:okWords ws=true):∀ r∈recsOf ws,checkRec r=0:=by
 intro r hr
 refine scanL_ok 32 _ (okWords_sub h fun y hy=>?_) r hr
 have:=List.mem_of_mem_drop hy
 unfold sectorW slc at this
 exact List.mem_of_mem_take (List.mem_of_mem_drop this)
theorem recordsF_ok2 (f:Flash):(recordsF f).1.length≤32∧∀ r∈(recordsF f).1,checkRec r=0:=by
 unfold recordsF
 by_cases c:checkLog f=0
 ·rw [if_pos c]
  obtain ⟨k1,_⟩:=checkLog_ok c
  obtain ⟨_,_,_,c4⟩:=checkFlash_ok k1
  exact ⟨(recsOf_small _).2,recsOf_ok c4⟩
 ·rw [if_neg c]; exact ⟨by simp,fun r hr=>by simp at hr⟩
theorem nonE_of {l:List (List Int)} (h:∀ r∈l,checkRec r=0):nonE l=true:=List.all_eq_true.2 fun r hr=>by
 have:=(checkRec_ok (h r hr)).1
 exact decide_eq_true (by omega)
theorem word_at {r:List Int} (h:okWords r=true) (i:Nat):0≤r.getD i 0∧r.getD i 0≤65535:=by
 rw [List.getD_eq_getElem?_getD]
 cases hi:r[i]? with
 | none=>simp
 | some x =>
  have:=okWord_range (List.all_eq_true.1 h x (List.mem_of_getElem? hi))
  simpa using this
theorem sameMsgs_len:∀ (a b:List Message),a.length≠b.length→sameMsgs a b=false
 | [],[],h=>absurd rfl h
 | [],_::_,_=>rfl
 | _::_,[],_=>rfl
 | x::a,y::b,h=>by
  simp only [sameMsgs,sameMsgs_len a b (by simpa using h),Bool.and_false]
end Vm
end Go.Proofs.YtlbppjmekiemiacGreatDoor

/- Plain laws: what a unit hears. No condition. -/
namespace Go.Proofs.YtlbppjmekiemiacGreatDoor
namespace Vm

theorem doCh_free' {f:Flash} {cs:List Change} (h:f.fuel=-1):doCh f cs=(⟨applyCh f.words cs,-1⟩,true):=by
 obtain ⟨ws,fu⟩:=f
 simp only at h
 subst h
 exact doCh_free
end Vm
end Go.Proofs.YtlbppjmekiemiacGreatDoor

/- Plain laws: what a unit hears, once and again. No condition. -/

/- Plain laws: what a unit hears twice; a unit that is ready. No condition. -/
namespace Go.Proofs.YtlbppjmekiemiacGreatDoor
namespace Vm

theorem sameMsg_refl (m:Message):sameMsg m m=true:=by simp [sameMsg,eqIs,eqb,eqi]
theorem sameMsgs_refl:∀ l:List Message,sameMsgs l l=true
 | []=>rfl
 | m::l=>by simp only [sameMsgs,sameMsg_refl,sameMsgs_refl l,Bool.and_self]
end Vm
end Go.Proofs.YtlbppjmekiemiacGreatDoor

/- Plain laws: an image that comes in pieces. No condition. -/

/- Plain answers: a gateway. No condition. -/
namespace Go.Proofs.YtlbppjmekiemiacGreatDoor
namespace Vm

structure GState where
 n:Int
 version:Int
 commit:Bool
 abort:Bool
 ended:Bool
def noState:GState:=⟨0,0,false,false,false⟩
def stepGt (s:GState) (r:List Int):GState :=
 if r.getD 0 0=1∧r.length=3∧1≤r.getD 1 0∧r.getD 1 0≤8 then ⟨r.getD 1 0,r.getD 2 0,false,false,false⟩
 else if r.length≠2∨r.getD 1 0≠s.n∨s.n=0 then s
 else if r.getD 0 0=2∧s.abort=false then ⟨s.n,s.version,true,s.abort,s.ended⟩
 else if r.getD 0 0=3∧s.commit=false then ⟨s.n,s.version,s.commit,true,s.ended⟩
 else if r.getD 0 0=4∧(s.commit=true∨s.abort=true) then ⟨s.n,s.version,s.commit,s.abort,true⟩ else s
def stateG (l:List (List Int)):GState:=l.foldl stepGt noState
def ofG (f:Flash):GState:=stateG (recordsF f).1
def noGate:Gate:=⟨noFlash,false,⟨⟨0,[],0⟩,0⟩,[],[]⟩
def checkG (g:Gate):Int :=
 if checkLog g.f=0 then (if g.voted.length<1∨4<g.voted.length∨g.did.length≠g.voted.length then 4 else checkTrust g.t) else checkLog g.f
def readG (g:Gate):GState × Int:=if checkG g=0 then (ofG g.f,0) else (noState,checkG g)
def madeG (r:Root) (units:Int):Gate:=⟨(formatF (newFlash 2).1).1,true,⟨r,0⟩,zeros units.toNat false,zeros units.toNat false⟩
def newG (r:Root) (units:Int):Gate × Int :=
 if units<1∨4<units then (noGate,3) else if checkG (madeG r units)=0 then (madeG r units,0) else (noGate,checkG (madeG r units))
def keepG (s:GState):List (List Int) :=
 if s.n=0 then [] else [[1,s.n,s.version]]++(if s.commit=true then [[2,s.n]] else [])++(if s.abort=true then [[3,s.n]] else [])++(if s.ended=true then [[4,s.n]] else [])
def forgetG (g:Gate):Gate:=⟨g.f,g.up,g.t,zeros g.voted.length false,zeros g.did.length false⟩
def changeG (g:Gate) (f:Flash) (e:Int):Gate × Bool :=
 if e=0 then (⟨f,g.up,g.t,g.voted,g.did⟩,true) else if e=7 then (⟨f,false,g.t,zeros g.voted.length false,zeros g.did.length false⟩,false) else (g,false)
def noteG (g:Gate) (r:List Int):Gate × Bool:=changeG g (appendF g.f r (keepG (ofG g.f))).1 (appendF g.f r (keepG (ofG g.f))).2
def upG (g:Gate):Int:=if checkG g=0 then (if g.up=true then 0 else 7) else checkG g
def begunG (g:Gate) (s:GState) (t:Trust) (v:Int):Gate × Int :=
 if (noteG g [1,s.n+1,v]).2=true then (⟨(noteG g [1,s.n+1,v]).1.f,(noteG g [1,s.n+1,v]).1.up,t,zeros g.voted.length false,zeros g.did.length false⟩,s.n+1) else ((noteG g [1,s.n+1,v]).1,0)
def beginE (b:List (List UInt8)) (l:List Signed) (g:Gate) (o:Offer) (now:Int):Int :=
 if upG g=0 then (if 0<(ofG g.f).n∧(ofG g.f).ended=false then 12 else if (ofG g.f).n=8 then 8 else (takeT b l g.t o now g.voted.length).2) else upG g
def beginG (b:List (List UInt8)) (l:List Signed) (g:Gate) (o:Offer) (now:Int):Gate × Int × Int :=
 if beginE b l g o now=0 then ((begunG g (ofG g.f) (takeT b l g.t o now g.voted.length).1 o.r.version).1,(begunG g (ofG g.f) (takeT b l g.t o now g.voted.length).1 o.r.version).2,0) else (noGate,0,beginE b l g o now)
def kindG (s:GState) (n:Int):Int:=if s.commit=true∧s.n=n then 4 else 5
def decisionM (s:GState) (unit n:Int):Message:=⟨kindG s n,unit,n,0,0,[],false⟩
def pieceM (unit n:Int) (w:List Int) (k:Nat):Message:=⟨1,unit,n,(k:Int),0,slc w k (min (k+8) w.length),false⟩
def piecesM (unit n:Int) (w:List Int):Nat→Nat→List Message
 | 0,_=>[]
 | d+1,k=>if k<w.length then pieceM unit n w k::piecesM unit n w d (k+8) else []
def dueE (g:Gate) (c:Campaign) (unit:Int):Int :=
 if upG g=0 then (if (ofG g.f).n=0∨(ofG g.f).ended=true then 12
  else if unit<0∨(g.voted.length:Int)≤unit∨c.n≠(ofG g.f).n∨(c.images.length:Int)≤unit∨(c.r.targets.length:Int)≤unit then 5 else 0) else upG g
def imageM (c:Campaign) (unit n:Int):List Message × Int :=
 if 40<(nth c.images unit.toNat []).length then ([],2)
 else (piecesM unit n (nth c.images unit.toNat []) 6 0++[⟨2,unit,n,((nth c.images unit.toNat []).length:Int),(nth c.r.targets unit.toNat ⟨0,0,0⟩).image,[],false⟩],0)
def duesG (g:Gate) (s:GState) (c:Campaign) (unit:Int):List Message × Int :=
 if s.commit=true∨s.abort=true then (if nth g.did unit.toNat false=true then ([],0) else ([decisionM s unit s.n],0))
 else if nth g.voted unit.toNat false=true then ([],0) else imageM c unit s.n
def dueG (g:Gate) (c:Campaign) (unit:Int):List Message × Int:=if dueE g c unit=0 then duesG g (ofG g.f) c unit else ([],dueE g c unit)
def indexB (x:Bool):Nat→List Bool→Int
 | _,[]=>-1
 | k,y::l=>if y=x then (k:Int) else indexB x (k+1) l
def hasB (x:Bool) (l:List Bool):Bool:=decide (0≤indexB x 0 l)
def votedG (g:Gate) (u:Int):Gate:=⟨g.f,g.up,g.t,setAt g.voted u.toNat true,g.did⟩
def didG (g:Gate) (u:Int):Gate:=⟨g.f,g.up,g.t,g.voted,setAt g.did u.toNat true⟩
def voteG (g:Gate) (s:GState) (u:Int):Gate:=if hasB false (votedG g u).voted=true then votedG g u else (noteG (votedG g u) [2,s.n]).1
def doneG (g:Gate) (s:GState) (u:Int):Gate:=if hasB false (didG g u).did=true then didG g u else (noteG (didG g u) [4,s.n]).1
def hearsS (g:Gate) (s:GState) (m:Message):Gate × List Message :=
 if m.kind=3 then (if s.n≠m.n∨s.ended=true∨s.commit=true∨s.abort=true∨m.yes=false then (g,[]) else (voteG g s m.unit,[]))
 else if m.kind=6 then (if s.n≠m.n∨s.ended=true∨(s.commit=false∧s.abort=false) then (g,[]) else (doneG g s m.unit,[]))
 else if m.kind=7 then (if s.n≠m.n∨s.ended=true∨s.commit=true∨s.abort=true then (g,[decisionM s m.unit m.n]) else (g,[]))
 else (g,[])
def hearsG (g:Gate) (m:Message):Gate × List Message:=if g.up=true then hearsS g (ofG g.f) m else (g,[])
def hearGE (g:Gate) (m:Message):Int:=if checkG g=0 then (if m.unit<0∨(g.voted.length:Int)≤m.unit∨m.n<1∨8<m.n then 3 else 0) else checkG g
def hearG (g:Gate) (m:Message):(Gate × List Message) × Int:=if hearGE g m=0 then (hearsG g m,0) else ((noGate,[]),hearGE g m)
def eqBs (a b:List Bool):Bool:=decide (a=b)
def sameGate (a b:Gate):Bool:=sameFlash a.f b.f && (eqb a.up b.up && (sameTrust a.t b.t && (eqBs a.voted b.voted && eqBs a.did b.did)))
end Vm
end Go.Proofs.YtlbppjmekiemiacGreatDoor

/- Plain laws: a gateway. No condition. -/
namespace Go.Proofs.YtlbppjmekiemiacGreatDoor
namespace Vm

structure OkG (s:GState):Prop where
 n0:0≤s.n
 n8:s.n≤8
 v0:0≤s.version
 v1:s.version≤65535
 one:s.commit=true→s.abort=true→False
 fin:s.ended=true→s.commit=true∨s.abort=true
 none:s.n=0→s=noState
theorem okG_no:OkG noState:=⟨by simp [noState],by simp [noState],by simp [noState],by simp [noState],fun h=>by simp [noState] at h,fun h=>by simp [noState] at h,fun _=>rfl⟩
theorem stepGt_ok {s:GState} {r:List Int} (hs:OkG s) (hr:checkRec r=0):OkG (stepGt s r):=by
 obtain ⟨_,_,r3⟩:=checkRec_ok hr
 have w2:=word_at r3 2
 unfold stepGt
 split
 ·rename_i h; exact ⟨by simp only; omega,h.2.2.2,w2.1,w2.2,fun h=>(by cases h),fun h=>(by cases h),fun e=>(by simp only at e; omega)⟩
 ·split
  ·exact hs
  ·rename_i h1 h2
   have hn:s.n≠0:=fun e=>h2 (.inr (.inr e))
   split
   ·rename_i h; exact ⟨hs.n0,hs.n8,hs.v0,hs.v1,fun _ ha=>(by simp only at ha; rw [h.2] at ha; cases ha),fun _=>.inl rfl,fun e=>absurd e hn⟩
   ·split
    ·rename_i h; exact ⟨hs.n0,hs.n8,hs.v0,hs.v1,fun ha _=>(by simp only at ha; rw [h.2] at ha; cases ha),fun _=>.inr rfl,fun e=>absurd e hn⟩
    ·split
     ·rename_i h; exact ⟨hs.n0,hs.n8,hs.v0,hs.v1,hs.one,fun _=>h.2,fun e=>absurd e hn⟩
     ·exact hs
theorem foldG_ok:∀ (l:List (List Int)) (s:GState),OkG s→(∀ r∈l,checkRec r=0)→OkG (l.foldl stepGt s)
 | [],_,hs,_=>hs
 | r::l,s,hs,h=>foldG_ok l _ (stepGt_ok hs (h r (by simp))) fun x hx=>h x (by simp [hx])
theorem ofG_ok (f:Flash):OkG (ofG f):=foldG_ok _ _ okG_no (recordsF_ok2 f).2
theorem stepGt_begun {s:GState} {n v:Int} (h1:1≤n) (h8:n≤8):stepGt s [1,n,v]=⟨n,v,false,false,false⟩:=if_pos ⟨rfl,rfl,h1,h8⟩
theorem stepGt_commit {s:GState} (hn:s.n≠0) (ha:s.abort=false):stepGt s [2,s.n]=⟨s.n,s.version,true,s.abort,s.ended⟩:=by
 unfold stepGt
 rw [if_neg (by simp),if_neg (by simpa using hn),if_pos ⟨rfl,ha⟩]
theorem stepGt_abort {s:GState} (hn:s.n≠0) (hc:s.commit=false):stepGt s [3,s.n]=⟨s.n,s.version,s.commit,true,s.ended⟩:=by
 unfold stepGt
 rw [if_neg (by simp),if_neg (by simpa using hn),if_neg (by simp),if_pos ⟨rfl,hc⟩]
theorem stepGt_ended {s:GState} (hn:s.n≠0) (hc:s.commit=true∨s.abort=true):stepGt s [4,s.n]=⟨s.n,s.version,s.commit,s.abort,true⟩:=by
 unfold stepGt
 rw [if_neg (by simp),if_neg (by simpa using hn),if_neg (by simp),if_neg (by simp),if_pos ⟨rfl,hc⟩]
theorem keep_stG {s:GState} (h:OkG s):stateG (keepG s)=s:=by
 unfold keepG
 by_cases c:s.n=0
 ·rw [if_pos c,h.none c]; rfl
 rw [if_neg c]
 have hn1:1≤s.n:=by have:=h.n0; omega
 have h8:=h.n8
 have h1:=h.one
 have h2:=h.fin
 obtain ⟨n,v,co,ab,en⟩:=s
 simp only at c hn1 h8 h1 h2 ⊢
 unfold stateG
 rw [List.foldl_append,List.foldl_append,List.foldl_append,List.foldl_cons,List.foldl_nil,stepGt_begun hn1 h8]
 cases co<;>cases ab<;>cases en
 ·rfl
 ·exact absurd (h2 rfl) (by simp)
 ·simp only [Bool.false_eq_true,if_false,if_true,List.foldl_nil,List.foldl_cons]
  exact stepGt_abort (s:=⟨n,v,false,false,false⟩) c rfl
 ·simp only [Bool.false_eq_true,if_false,if_true,List.foldl_nil,List.foldl_cons]
  rw [show stepGt ⟨n,v,false,false,false⟩ [3,n]=⟨n,v,false,true,false⟩ from stepGt_abort (s:=⟨n,v,false,false,false⟩) c rfl]
  exact stepGt_ended (s:=⟨n,v,false,true,false⟩) c (.inr rfl)
 ·simp only [Bool.false_eq_true,if_false,if_true,List.foldl_nil,List.foldl_cons]
  exact stepGt_commit (s:=⟨n,v,false,false,false⟩) c rfl
 ·simp only [Bool.false_eq_true,if_false,if_true,List.foldl_nil,List.foldl_cons]
  rw [show stepGt ⟨n,v,false,false,false⟩ [2,n]=⟨n,v,true,false,false⟩ from stepGt_commit (s:=⟨n,v,false,false,false⟩) c rfl]
  exact stepGt_ended (s:=⟨n,v,true,false,false⟩) c (.inl rfl)
 ·exact (h1 rfl rfl).elim
 ·exact (h1 rfl rfl).elim
theorem ofG_W {f:Flash} (h:checkLog f=0):ofG f=stateG (recsOf f.words):=by unfold ofG; rw [recordsF_ok h]
theorem note_allG {g:Gate} {r:List Int} (hu:checkLog g.f=0) :
  checkLog (noteG g r).1.f=0∧(noteG g r).1.t=g.t∧(noteG g r).1.voted.length=g.voted.length∧(noteG g r).1.did.length=g.did.length ∧
  (ofG (noteG g r).1.f=ofG g.f∨ofG (noteG g r).1.f=stepGt (ofG g.f) r) ∧
  ((noteG g r).2=true→ofG (noteG g r).1.f=stepGt (ofG g.f) r∧(noteG g r).1=⟨(noteG g r).1.f,g.up,g.t,g.voted,g.did⟩) ∧
  (g.f.fuel=-1→(noteG g r).1.f.fuel=-1∧((noteG g r).2=false→(noteG g r).1=g)):=by
 unfold noteG
 obtain ⟨keep,hk⟩:∃ keep,keepG (ofG g.f)=keep:=⟨_,rfl⟩
 have hks:stateG keep=ofG g.f:=by rw [← hk]; exact keep_stG (ofG_ok g.f)
 rw [hk]
 by_cases he:(appendF g.f r keep).2=0∨(appendF g.f r keep).2=7
 ·obtain ⟨cs,a1,a2,a3⟩:=appendF_inv he
  obtain ⟨k1,_,_,_⟩:=checkLog_ok hu
  obtain ⟨_,p1,p2,_⟩:=checkFlash_ok k1
  obtain ⟨f1,f2⟩:=doCh_fuel g.f cs p1 p2
  obtain ⟨b1,b2,b3,b4⟩:=append_end (ws:=g.f.words) (fu:=g.f.fuel) a1 a2 f1 f2
  have hg:(appendF g.f r keep).1=(doCh g.f cs).1:=by rw [a3]; rfl
  have hF:checkLog (appendF g.f r keep).1=0:=by rw [hg]; exact b1
  have hst:∀ k,recsOf (doCh g.f cs).1.words=k→ofG (appendF g.f r keep).1=stateG k:=fun k e=>by rw [hg,ofG_W b1,← e]
  have h1:stateG (recsOf g.f.words++[r])=stepGt (ofG g.f) r:=by rw [ofG_W hu]; unfold stateG; rw [List.foldl_append]; rfl
  have h2:stateG (keep++[r])=stepGt (ofG g.f) r:=by rw [← hks]; unfold stateG; rw [List.foldl_append]; rfl
  have hor:ofG (appendF g.f r keep).1=stepGt (ofG g.f) r∨((doCh g.f cs).2=false∧ofG (appendF g.f r keep).1=ofG g.f):=by
   rcases b4 with b4 | b4 | ⟨b4,b5⟩
   ·exact .inl ((hst _ b4).trans h1)
   ·exact .inl ((hst _ b4).trans h2)
   ·exact .inr ⟨b4,by rw [hst _ b5,ofG_W hu]⟩
  rcases he with he | he
  ·have hd:(doCh g.f cs).2=true:=by
    rw [a3] at he
    cases hd:(doCh g.f cs).2 with
    | true=>rfl
    | false=>simp only [power,hd,powerE] at he; omega
   have hs:=hor.resolve_right (fun h=>by rw [hd] at h; cases h.1)
   unfold changeG
   rw [if_pos he]
   refine ⟨hF,rfl,rfl,rfl,.inr hs,fun _=>⟨hs,rfl⟩,fun ef=>⟨?_,fun h=>by cases h⟩⟩
   rw [hg,doCh_free' ef]
  ·have hn:¬ (appendF g.f r keep).2=0:=by omega
   unfold changeG
   rw [if_neg hn,if_pos he]
   refine ⟨hF,rfl,by simp [zeros],by simp [zeros],hor.elim .inr (fun h=>.inl h.2),(fun h=>by cases h),fun ef=>?_⟩
   rw [a3,doCh_free' ef] at he
   exact absurd he (show ¬ (powerE true:Int)=7 by decide)
 ·unfold changeG
  rw [if_neg (fun h=>he (.inl h)),if_neg (fun h=>he (.inr h))]
  exact ⟨hu,rfl,rfl,rfl,.inl rfl,(fun h=>by cases h),fun ef=>⟨ef,fun _=>rfl⟩⟩
theorem checkG_ok {g:Gate} (h:checkG g=0):checkLog g.f=0∧1≤g.voted.length∧g.voted.length≤4∧g.did.length=g.voted.length∧checkTrust g.t=0:=by
 unfold checkG at h
 by_cases c1:checkLog g.f=0
 ·rw [if_pos c1] at h
  by_cases c2:g.voted.length<1∨4<g.voted.length∨g.did.length≠g.voted.length
  ·rw [if_pos c2] at h; cases h
  ·rw [if_neg c2] at h
   exact ⟨c1,by omega,by omega,by omega,h⟩
 ·rw [if_neg c1] at h; exact absurd h c1
theorem checkG_mk {g:Gate} (h1:checkLog g.f=0) (h2:1≤g.voted.length) (h3:g.voted.length≤4) (h4:g.did.length=g.voted.length) (h5:checkTrust g.t=0):checkG g=0:=by
 unfold checkG
 rw [if_pos h1,if_neg (by omega),h5]
theorem checkG_like {g x:Gate} (h:checkG g=0) (h1:checkLog x.f=0) (h2:x.t=g.t) (h3:x.voted.length=g.voted.length) (h4:x.did.length=g.did.length):checkG x=0:=by
 obtain ⟨_,a,b,c,d⟩:=checkG_ok h
 exact checkG_mk h1 (by omega) (by omega) (by omega) (by rw [h2]; exact d)
theorem checkG_note {g:Gate} {r:List Int} (h:checkG g=0):checkG (noteG g r).1=0:=by
 obtain ⟨n1,n2,n3,n4,_⟩:=note_allG (r:=r) (checkG_ok h).1
 exact checkG_like h n1 n2 n3 n4
theorem setAt_len {α:Type} (l:List α) (i:Nat) (x:α):(setAt l i x).length=l.length:=by simp [setAt]
theorem checkG_voted {g:Gate} {u:Int} (h:checkG g=0):checkG (votedG g u)=0:=checkG_like h (checkG_ok h).1 rfl (setAt_len _ _ _) rfl
theorem checkG_did {g:Gate} {u:Int} (h:checkG g=0):checkG (didG g u)=0:=checkG_like h (checkG_ok h).1 rfl rfl (setAt_len _ _ _)
theorem hearsG_all {g:Gate} {m:Message} (h:checkG g=0) (hm:1≤m.n):checkG (hearsG g m).1=0 ∧
  (ofG (hearsG g m).1.f=ofG g.f ∨
   (m.kind=3∧m.yes=true∧m.n=(ofG g.f).n∧(ofG g.f).ended=false∧(ofG g.f).commit=false∧(ofG g.f).abort=false∧hasB false (setAt g.voted m.unit.toNat true)=false ∧
    ofG (hearsG g m).1.f=⟨(ofG g.f).n,(ofG g.f).version,true,(ofG g.f).abort,(ofG g.f).ended⟩) ∨
   (m.kind=6∧m.n=(ofG g.f).n∧((ofG g.f).commit=true∨(ofG g.f).abort=true)∧ofG (hearsG g m).1.f=⟨(ofG g.f).n,(ofG g.f).version,(ofG g.f).commit,(ofG g.f).abort,true⟩)):=by
 unfold hearsG
 by_cases cu:g.up=true
 case neg=>rw [if_neg cu]; exact ⟨h,.inl rfl⟩
 rw [if_pos cu]
 unfold hearsS
 by_cases k3:m.kind=3
 ·rw [if_pos k3]
  by_cases c:(ofG g.f).n≠m.n∨(ofG g.f).ended=true∨(ofG g.f).commit=true∨(ofG g.f).abort=true∨m.yes=false
  ·rw [if_pos c]; exact ⟨h,.inl rfl⟩
  ·rw [if_neg c]
   simp only [not_or,Bool.not_eq_true,ne_eq,Decidable.not_not,Bool.not_eq_false] at c
   obtain ⟨c1,c2,c3,c4,c5⟩:=c
   unfold voteG
   have hv:=checkG_voted (u:=m.unit) h
   by_cases cb:hasB false (votedG g m.unit).voted=true
   ·rw [if_pos cb]; exact ⟨hv,.inl rfl⟩
   ·rw [if_neg cb]
    obtain ⟨_,_,_,_,n5,_⟩:=note_allG (r:=[2,(ofG g.f).n]) (checkG_ok hv).1
    refine ⟨checkG_note hv,n5.elim .inl (fun e=>.inr (.inl ⟨k3,c5,c1.symm,c2,c3,c4,Bool.eq_false_iff.2 cb,?_⟩))⟩
    rw [e]
    exact stepGt_commit (s:=ofG g.f) (by omega) c4
 rw [if_neg k3]
 by_cases k6:m.kind=6
 ·rw [if_pos k6]
  by_cases c:(ofG g.f).n≠m.n∨(ofG g.f).ended=true∨((ofG g.f).commit=false∧(ofG g.f).abort=false)
  ·rw [if_pos c]; exact ⟨h,.inl rfl⟩
  ·rw [if_neg c]
   simp only [not_or,Bool.not_eq_true,ne_eq,Decidable.not_not] at c
   obtain ⟨c1,c2,c3⟩:=c
   have c3':(ofG g.f).commit=true∨(ofG g.f).abort=true:=by
    cases hcc:(ofG g.f).commit<;>cases haa:(ofG g.f).abort<;>simp_all
   unfold doneG
   have hv:=checkG_did (u:=m.unit) h
   by_cases cb:hasB false (didG g m.unit).did=true
   ·rw [if_pos cb]; exact ⟨hv,.inl rfl⟩
   ·rw [if_neg cb]
    obtain ⟨_,_,_,_,n5,_⟩:=note_allG (r:=[4,(ofG g.f).n]) (checkG_ok hv).1
    refine ⟨checkG_note hv,n5.elim .inl (fun e=>.inr (.inr ⟨k6,c1.symm,c3',?_⟩))⟩
    rw [e]
    exact stepGt_ended (s:=ofG g.f) (by omega) c3'
 rw [if_neg k6]
 by_cases k7:m.kind=7
 ·rw [if_pos k7]
  split<;>exact ⟨h,.inl rfl⟩
 ·rw [if_neg k7]; exact ⟨h,.inl rfl⟩
theorem keepG_sm (s:GState):smR (keepG s)=true∧(keepG s).length≤4:=by
 unfold keepG
 split
 ·exact ⟨rfl,by simp⟩
 ·split<;>split<;>split<;>exact ⟨by simp [smR],by simp⟩
theorem checkG_sm {ws:List Int} {fu:Int} {up:Bool} {tv:Int} {tk:List Int} {tt tn:Int} {vo di:List Bool} (h:checkG ⟨⟨ws,fu⟩,up,⟨⟨tv,tk,tt⟩,tn⟩,vo,di⟩=0) :
  len ws*8≤140737488355328∧len tk*8≤140737488355328∧len vo≤1000∧len di≤1000:=by
 obtain ⟨h1,_,h3,h4,h5⟩:=checkG_ok h
 simp only at h1 h3 h4 h5
 obtain ⟨k1,_⟩:=checkLog_ok h1
 obtain ⟨c1,_⟩:=checkFlash_ok k1
 have h6:=okLen_le c1
 have h7:=(checkRoot_ok (checkTrust_ok h5).2.2).2.2.2.2.1
 simp only [len] at *
 try simp only at h6 h7
 omega
theorem checkG_sm' {g:Gate} (h:checkG g=0):len g.f.words*8≤140737488355328∧len g.t.r.keys*8≤140737488355328∧len g.voted≤1000∧len g.did≤1000:=by
 obtain ⟨⟨ws,fu⟩,up,⟨⟨tv,tk,tt⟩,tn⟩,vo,di⟩:=g
 exact checkG_sm h
theorem upG_check {g:Gate} (h:upG g=0):checkG g=0:=by
 unfold upG at h
 by_cases c:checkG g=0
 ·exact c
 ·rw [if_neg c] at h; exact absurd h c
theorem hearG_mk {g:Gate} {m:Message} (h:checkG g=0) (h1:0≤m.unit∧m.unit<g.voted.length∧1≤m.n∧m.n≤8):hearG g m=(hearsG g m,0):=by
 unfold hearG hearGE
 rw [if_pos (by rw [if_pos h,if_neg (by omega)])]
theorem sameGate_refl (g:Gate):sameGate g g=true:=by simp [sameGate,sameFlash,sameTrust,eqIs,eqb,eqi,eqBs]
end Vm
end Go.Proofs.YtlbppjmekiemiacGreatDoor

/- Plain laws: what is due. No condition. -/

/- Plain answers: the document's unit. No condition. -/

/- Plain laws: the factory's unit, the document's. No condition. -/

/- Plain laws: the gateway, as the document has it. No condition. -/
namespace Go.Proofs.YtlbppjmekiemiacGreatDoor
namespace Vm

def isBeg (r:List Int):Prop:=r.getD 0 0=1∧r.length=3∧1≤r.getD 1 0∧r.getD 1 0≤8
theorem fold_noBeg:∀ l:List (List Int),(∀ r∈l,¬ isBeg r)→l.foldl stepGt noState=noState
 | [],_=>rfl
 | r::l,h=>by
  rw [List.foldl_cons]
  have:stepGt noState r=noState:=(if_neg (h r (by simp))).trans (if_pos (.inr (.inr rfl)))
  rw [this]
  exact fold_noBeg l fun x hx=>h x (by simp [hx])
theorem stateG_at (pre post:List (List Int)) {b:List Int} (h:isBeg b):stateG (pre++b::post)=post.foldl stepGt ⟨b.getD 1 0,b.getD 2 0,false,false,false⟩:=by
 unfold stateG
 rw [List.foldl_append,List.foldl_cons]
 congr 1
 exact if_pos h
theorem step_two {N V:Int} {c a e:Bool} {r:List Int} (h2:r.length=2) (h1:r.getD 1 0=N) (hN:N≠0):stepGt ⟨N,V,c,a,e⟩ r =
  if r.getD 0 0=2∧a=false then ⟨N,V,true,a,e⟩ else if r.getD 0 0=3∧c=false then ⟨N,V,c,true,e⟩ else if r.getD 0 0=4∧(c=true∨a=true) then ⟨N,V,c,a,true⟩ else ⟨N,V,c,a,e⟩:=by
 unfold stepGt
 rw [if_neg (by omega),if_neg (by simp only; omega)]
theorem step_stay {N V:Int} {c a e:Bool} {r:List Int} (hb:¬ isBeg r) (h:r.length≠2∨r.getD 1 0≠N):stepGt ⟨N,V,c,a,e⟩ r=⟨N,V,c,a,e⟩ :=
 (if_neg hb).trans (if_pos (by rcases h with h | h; exact .inl h; exact .inr (.inl h)))
def SzG (g:Gate):Prop:=(List.length g.f.words≤140737488355328)∧((List.length g.t.r.keys≤140737488355328)∧((len g.voted≤140737488355328)∧(len g.did≤140737488355328)))
theorem szG_of {g:Gate} (h:checkG g=0∨g=noGate):SzG g:=by
 rcases h with h | h
 ·obtain ⟨a,b,c,d⟩:=checkG_sm' h
  exact ⟨by simp only [len] at a; omega,by simp only [len] at b; omega,by omega,by omega⟩
 ·subst h; exact ⟨by simp [noGate,noFlash],by simp [noGate],by simp [noGate,len],by simp [noGate,len]⟩
end Vm
end Go.Proofs.YtlbppjmekiemiacGreatDoor

/- Plain answers: a vehicle. No condition. -/
namespace Go.Proofs.YtlbppjmekiemiacGreatDoor
namespace Vm

def smMW (l:List Message):Bool:=l.all fun m=>decide (m.words.length≤1000)
end Vm
end Go.Proofs.YtlbppjmekiemiacGreatDoor

/- Plain laws: a vehicle that is one. No condition. -/
namespace Go.Proofs.YtlbppjmekiemiacGreatDoor
namespace Vm

theorem smMW_of {l:List Message} (h:∀ m∈l,m.words.length≤8):smMW l=true:=List.all_eq_true.2 fun m hm=>by
 have:=h m hm
 exact decide_eq_true (by omega)
end Vm
end Go.Proofs.YtlbppjmekiemiacGreatDoor

/- Plain laws: what begins a campaign; what a vehicle's steps keep. No condition. -/
namespace Go.Proofs.YtlbppjmekiemiacGreatDoor
namespace Vm

theorem hearG_says (g:Gate) (m:Message):(hearG g m).1.2=[]∨∃ k,(hearG g m).1.2=[⟨k,m.unit,m.n,0,0,[],false⟩]:=by
 unfold hearG
 by_cases c:hearGE g m=0
 ·rw [if_pos c]
  unfold hearsG
  split
  ·unfold hearsS
   split
   ·split
    ·exact .inl rfl
    ·exact .inl rfl
   ·split
    ·split
     ·exact .inl rfl
     ·exact .inl rfl
    ·split
     ·split
      ·exact .inr ⟨_,rfl⟩
      ·exact .inl rfl
     ·exact .inl rfl
  ·exact .inl rfl
 ·rw [if_neg c]; exact .inl rfl
theorem small_one {l:List Message} {k u n:Int} {y:Bool} (h:l=[]∨l=[⟨k,u,n,0,0,[],y⟩]):l.length≤1000∧smMW l=true:=by
 rcases h with h | h
 ·subst h; exact ⟨by simp,rfl⟩
 ·subst h; exact ⟨by simp,by simp [smMW]⟩
theorem hearG_small (g:Gate) (m:Message):(hearG g m).1.2.length≤1000∧smMW (hearG g m).1.2=true:=by
 rcases hearG_says g m with h | ⟨k,h⟩
 ·exact small_one (k:=0) (u:=0) (n:=0) (y:=false) (.inl h)
 ·exact small_one (.inr h)
theorem piecesM_small (u n:Int) (w:List Int):∀ (d k:Nat),(piecesM u n w d k).length≤d∧∀ m∈piecesM u n w d k,m.words.length≤8
 | 0,_=>⟨by simp [piecesM],fun m hm=>by simp [piecesM] at hm⟩
 | d+1,k=>by
  unfold piecesM
  obtain ⟨h1,h2⟩:=piecesM_small u n w d (k+8)
  split
  ·refine ⟨by simp only [List.length_cons]; omega,fun m hm=>?_⟩
   rcases List.mem_cons.1 hm with rfl | hm
   ·simp only [pieceM,slc,List.length_drop,List.length_take]; omega
   ·exact h2 m hm
  ·exact ⟨by simp,fun m hm=>by simp at hm⟩
theorem dueG_small (g:Gate) (c:Campaign) (u:Int):(dueG g c u).1.length≤1000∧smMW (dueG g c u).1=true:=by
 have none:([]:List Message).length≤1000∧smMW []=true:=⟨by simp,rfl⟩
 unfold dueG
 split
 ·unfold duesG
  split
  ·split
   ·exact none
   ·exact ⟨by simp,rfl⟩
  ·split
   ·exact none
   ·unfold imageM
    split
    ·exact none
    ·obtain ⟨h1,h2⟩:=piecesM_small u (ofG g.f).n (nth c.images u.toNat []) 6 0
     refine ⟨by simp only [List.length_append,List.length_cons,List.length_nil]; omega,smMW_of fun m hm=>?_⟩
     rcases List.mem_append.1 hm with hm | hm
     ·exact h2 m hm
     ·simp only [List.mem_singleton] at hm; subst hm; simp
 ·exact none
end Vm
end Go.Proofs.YtlbppjmekiemiacGreatDoor

/- Plain answers: vehicles compared; the rest of the vehicle's laws. No condition. -/

/- Plain laws: the vehicle's net. No condition. -/

/- Plain answers: offers in a script; the tour. No condition. -/

/- Plain laws: what each step of a vehicle keeps. No condition. -/

/- Plain laws: a campaign begins only by a proposal; how many records a log holds. No condition. -/

/- Plain laws for VehicleTakes: what stays along a script; the third release is never taken up. No condition. -/

/- Plain laws: a note in a log, in full: what fails leaves what was; with power it is there; generations rise by one at most. What a unit's hearing comes to, case by case. No condition. -/

/- Plain laws: unlike numbers, lists of numbers and images have unlike texts; an image's name is its own. No condition. -/

/- Plain laws: what lasts of a vehicle, whatever happens: units. No condition. -/

/- Plain laws: what lasts of a vehicle, whatever happens. No condition. -/
namespace Go.Proofs.YtlbppjmekiemiacGreatDoor
namespace Vm

variable {first:List (List Int)} {c:Int} {v:Vehicle}
end Vm
end Go.Proofs.YtlbppjmekiemiacGreatDoor

/- Plain laws: what lasts of a vehicle lasts through each happening. No condition. -/
namespace Go.Proofs.YtlbppjmekiemiacGreatDoor
namespace Vm

variable {first:List (List Int)} {c:Int} {v:Vehicle}
end Vm
end Go.Proofs.YtlbppjmekiemiacGreatDoor

/- Plain laws for VehicleHolds: a vehicle in which what lasts holds is a right one; the factory's is one. No condition. -/
namespace Go.Proofs.YtlbppjmekiemiacGreatDoor
namespace Vm

variable {first:List (List Int)} {c:Int} {v:Vehicle}
end Vm
end Go.Proofs.YtlbppjmekiemiacGreatDoor

/- Plain laws for the tour: all are up, and have power; a message comes. No condition. -/
namespace Go.Proofs.YtlbppjmekiemiacGreatDoor
namespace Vm

variable {first:List (List Int)} {c:Int} {v:Vehicle} {B:Int}
end Vm
end Go.Proofs.YtlbppjmekiemiacGreatDoor

/- Plain laws for the tour: a unit is asked, and told what is due. No condition. -/
namespace Go.Proofs.YtlbppjmekiemiacGreatDoor
namespace Vm

variable {first:List (List Int)} {c:Int} {v:Vehicle} {B:Int}
end Vm
end Go.Proofs.YtlbppjmekiemiacGreatDoor

/- Plain laws for the tour: a unit is told what is due; a visit. No condition. -/
namespace Go.Proofs.YtlbppjmekiemiacGreatDoor
namespace Vm

variable {first:List (List Int)} {c:Int} {v:Vehicle} {B:Int}
end Vm
end Go.Proofs.YtlbppjmekiemiacGreatDoor

/- Plain laws for the tour: rounds; the whole of it. No condition. -/
namespace Go.Proofs.YtlbppjmekiemiacGreatDoor
namespace Vm

variable {first:List (List Int)} {c:Int} {v:Vehicle} {B:Int}
end Vm
end Go.Proofs.YtlbppjmekiemiacGreatDoor

/- Plain laws for VehicleEnds: a script keeps what lasts; generations stay low; behind a tour all run the same. No condition. -/
namespace Go.Proofs.YtlbppjmekiemiacGreatDoor
namespace Vm

variable {first:List (List Int)} {c:Int} {v:Vehicle} {B:Int}
end Vm
end Go.Proofs.YtlbppjmekiemiacGreatDoor

/- Plain laws for VehicleGoes: the second release is taken up behind the tour, and comes to run everywhere. No condition. -/
namespace Go.Proofs.YtlbppjmekiemiacGreatDoor
namespace Vm

variable {first:List (List Int)} {c:Int} {v:Vehicle} {B:Int}
end Vm
end Go.Proofs.YtlbppjmekiemiacGreatDoor

/- Plain answers: any vehicle copied; what happens to a right one. No condition. -/

/- Plain laws: a right vehicle stays one, whatever happens. No condition. -/
