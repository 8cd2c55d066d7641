/- Plain answers of the functions, and plain lemmas on them. No condition. -/
import Derived.Test.YtlbppjmekiemiacGreatDoorVmd
import Derived.IntWalk
import Derived.Lib.ItoaNum
import Derived.Lib.Join
import Derived.KernelRfl
/- Plain answers: flash. No condition. -/
namespace Go.Proofs.YtlbppjmekiemiacGreatDoor
namespace Vm

def eqIs (a b:List Int):Bool:=decide (a=b)
def okWord (w:Int):Bool:=decide (0≤w) && decide (w≤65535)
def okWords (l:List Int):Bool:=l.all okWord
def firstBadFrom (k:Int):List Int→Int
 | []=>-1
 | w::l=>if okWord w then firstBadFrom (k+1) l else k
def firstBad (l:List Int):Int:=firstBadFrom 0 l
def okLen (n:Nat):Bool:=n == 32 || n == 64 || n == 96 || n == 128 || n == 160 || n == 192
def checkFlash (f:Flash):Int :=
 if okLen f.words.length then (if decide (-1≤f.fuel) && decide (f.fuel≤100000) && okWords f.words then 0 else 3) else 4
def burnFuel (fu:Int):Int:=if 0<fu then fu-1 else fu
def applyCh (ws:List Int) (cs:List Change):List Int:=cs.foldl (fun ws c=>ws.set c.at_.toNat (fnwApp c.word (ws.getD c.at_.toNat 0))) ws
def doCh (f:Flash) (cs:List Change):Flash × Bool :=
 if f.fuel<0 then (⟨applyCh f.words cs,f.fuel⟩,true)
 else if (cs.length:Int)≤f.fuel then (⟨applyCh f.words cs,f.fuel-cs.length⟩,true)
 else (⟨applyCh f.words (cs.take f.fuel.toNat),0⟩,false)
def wipeFrom (at_:Int):Nat→List Change
 | 0=>[]
 | n+1=>⟨at_,none⟩::wipeFrom (at_+1) n
def wipeCh (sector:Int):List Change:=wipeFrom (32*sector) 32
def burnCh (at_:Int):List Int→List Change
 | []=>[]
 | w::l=>⟨at_,some w⟩::burnCh (at_+1) l
def noFlash:Flash:=⟨[],0⟩
def powerE (b:Bool):Int:=match b with | true=>0 | false=>7
def power (r:Flash × Bool):Flash × Int:=(r.1,powerE r.2)
def programF (f:Flash) (at_:Int) (l:List Int):Flash × Int :=
 if checkFlash f=0 then
  (if 0≤at_∧at_≤f.words.length∧(l.length:Int)≤f.words.length-at_ then
   (if okWords l then power (doCh f (burnCh at_ l)) else (noFlash,3))
  else (noFlash,5))
 else (noFlash,checkFlash f)
def newFlash (n:Int):Flash × Int:=if 1≤n∧n≤6 then (⟨zeros (n*32).toNat 65535,-1⟩,0) else (noFlash,3)
def readF (f:Flash) (at_ n:Int):List Int × Int :=
 if checkFlash f=0 then
  (if 0≤at_∧0≤n∧at_+n≤f.words.length then (slc f.words at_.toNat (at_+n).toNat,0) else ([],5))
 else ([],checkFlash f)
def two64:Int:=18446744073709551616
def inU64 (a:Int):Bool:=decide (0≤a) && decide (a<18446744073709551616)
end Vm
end Go.Proofs.YtlbppjmekiemiacGreatDoor

/- Plain lemmas for the conditions of runs. No condition. -/
namespace Go.Proofs.YtlbppjmekiemiacGreatDoor
namespace Vm

theorem w64_id {n:Int} (h1:-9223372036854775808≤n) (h2:n≤9223372036854775807):w64 n=n:=by
 unfold w64 IntKind.wrap
 simp only [IntKind.signed,IntKind.bits]
 simp
 omega

theorem lti_true {a b:Int}:lti a b=true↔a<b:=by simp [lti]
theorem lti_false {a b:Int}:lti a b=false↔b≤a:=by simp [lti]
theorem lei_true {a b:Int}:lei a b=true↔a≤b:=by simp [lei]
theorem lei_false {a b:Int}:lei a b=false↔b<a:=by simp [lei]
theorem eqi_true {a b:Int}:eqi a b=true↔a=b:=by simp [eqi]
theorem eqi_false {a b:Int}:eqi a b=false↔a≠b:=by simp [eqi]
theorem eqs_true {a b:List UInt8}:eqs a b=true↔a=b:=by simp [eqs]
theorem eqs_false {a b:List UInt8}:eqs a b=false↔a≠b:=by simp [eqs]
theorem not_true {b:Bool}:(!b)=true↔b=false:=by cases b<;>simp
theorem not_false {b:Bool}:(!b)=false↔b=true:=by cases b<;>simp
theorem br_t {b:Bool} {p q:Prop} (h:b=true) (hp:p):br b p q:=by subst h; exact hp
theorem br_f {b:Bool} {p q:Prop} (h:b=false) (hq:q):br b p q:=by subst h; exact hq
theorem br_split {b:Bool} {p q:Prop} (hp:b=true→p) (hq:b=false→q):br b p q:=by cases b; exact hq rfl; exact hp rfl
theorem lt_t {a b:Int} {p q:Prop} (h:a<b) (hp:p):br (lti a b) p q:=br_t (lti_true.2 h) hp
theorem lt_f {a b:Int} {p q:Prop} (h:b≤a) (hq:q):br (lti a b) p q:=br_f (lti_false.2 h) hq
theorem lt_s {a b:Int} {p q:Prop} (hp:a<b→p) (hq:b≤a→q):br (lti a b) p q:=br_split (fun h=>hp (lti_true.1 h)) (fun h=>hq (lti_false.1 h))
theorem eq_t {a b:Int} {p q:Prop} (h:a=b) (hp:p):br (eqi a b) p q:=br_t (eqi_true.2 h) hp
theorem eq_f {a b:Int} {p q:Prop} (h:a≠b) (hq:q):br (eqi a b) p q:=br_f (eqi_false.2 h) hq
theorem eq_s {a b:Int} {p q:Prop} (hp:a=b→p) (hq:a≠b→q):br (eqi a b) p q:=br_split (fun h=>hp (eqi_true.1 h)) (fun h=>hq (eqi_false.1 h))
theorem ne_t {a b:Int} {p q:Prop} (h:a≠b) (hp:p):br (!eqi a b) p q:=br_t (not_true.2 (eqi_false.2 h)) hp
theorem ne_f {a b:Int} {p q:Prop} (h:a=b) (hq:q):br (!eqi a b) p q:=br_f (not_false.2 (eqi_true.2 h)) hq
theorem ne_s {a b:Int} {p q:Prop} (hp:a≠b→p) (hq:a=b→q):br (!eqi a b) p q:=br_split (fun h=>hp (eqi_false.1 (not_true.1 h))) (fun h=>hq (eqi_true.1 (not_false.1 h)))
theorem nt_s {b:Bool} {p q:Prop} (hp:b=false→p) (hq:b=true→q):br (!b) p q:=br_split (fun h=>hp (not_true.1 h)) (fun h=>hq (not_false.1 h))
theorem nt_t {b:Bool} {p q:Prop} (h:b=false) (hp:p):br (!b) p q:=br_t (not_true.2 h) hp
theorem nt_f {b:Bool} {p q:Prop} (h:b=true) (hq:q):br (!b) p q:=br_f (not_false.2 h) hq
theorem drop_step {α:Type} {l:List α} {k:Nat} (h:k<l.length) (d:α):l.drop k=nth l k d::l.drop (k+1):=by
 rw [List.drop_eq_getElem_cons h]
 simp [nth,List.getD_eq_getElem?_getD,h]
def Sm {α:Type} (l:List α):Prop:=l.length≤140737488355328
theorem toNat_nat (n:Nat):Int.toNat (n:Int)=n:=rfl
theorem w64_succ {k:Nat} (h:k<9223372036854775807):w64 ((k:Int)+1)=((k+1:Nat):Int):=by rw [w64_id (by omega) (by omega)]; omega
theorem take_step {α:Type} {l:List α} {k:Nat} (h:k<l.length) (d:α):l.take (k+1)=l.take k++[nth l k d]:=by
 rw [List.take_succ_eq_append_getElem h]
 simp [nth,List.getD_eq_getElem?_getD,h]
theorem all_take_step {α:Type} {p:α→Bool} {l:List α} {k:Nat} (h:k<l.length) (d:α) (ht:(l.take k).all p=true) (hd:p (nth l k d)=true):(l.take (k+1)).all p=true:=by
 rw [take_step h d,List.all_append,ht]; simp [hd]
theorem all_false {α:Type} {p:α→Bool} {l:List α} {k:Nat} (h:k<l.length) (d:α) (hd:p (nth l k d)=false):l.all p=false:=by
 rw [← List.take_append_drop k l,List.all_append,drop_step h d]; simp [hd]
theorem doCh_nil (f:Flash):doCh f []=(f,true):=by
 unfold doCh
 cases f with
 | mk ws fu =>
  simp only [applyCh,List.foldl_nil,List.length_nil]
  split
  ·rfl
  ·rw [if_pos (by simp; omega)]; simp
theorem doCh_cons (ws:List Int) (fu:Int) (c:Change) (cs:List Change) :
  doCh ⟨ws,fu⟩ (c::cs)=if fu=0 then (⟨ws,0⟩,false) else doCh ⟨ws.set c.at_.toNat (fnwApp c.word (ws.getD c.at_.toNat 0)),burnFuel fu⟩ cs:=by
 unfold doCh burnFuel
 simp only [List.length_cons]
 by_cases h0:fu=0
 ·subst h0
  simp only [if_true]
  rw [if_neg (by omega),if_neg (by omega)]
  simp [applyCh]
 ·rw [if_neg h0]
  by_cases h1:fu<0
  ·rw [if_pos h1,if_neg (show ¬ 0<fu by omega),if_pos h1]; simp [applyCh]
  ·rw [if_neg h1,if_pos (show 0<fu by omega),if_neg (show ¬ fu-1<0 by omega)]
   by_cases h2:((cs.length+1:Nat):Int)≤fu
   ·rw [if_pos h2,if_pos (by omega)]
    simp only [applyCh,List.foldl_cons]
    congr 2
    omega
   ·rw [if_neg h2,if_neg (by omega)]
    have:fu.toNat=(fu-1).toNat+1:=by omega
    rw [this,List.take_succ_cons]
    simp [applyCh]
theorem applyCh_len (cs:List Change):∀ ws:List Int,(applyCh ws cs).length=ws.length:=by
 induction cs with
 | nil=>intro ws; rfl
 | cons c cs ih=>intro ws; simp only [applyCh,List.foldl_cons]; exact (ih _).trans (by simp)
theorem doCh_len (f:Flash) (cs:List Change):(doCh f cs).1.words.length=f.words.length:=by
 unfold doCh
 split
 ·exact applyCh_len _ _
 ·split
  ·exact applyCh_len _ _
  ·exact applyCh_len _ _
theorem wipeFrom_len (a:Int):∀ n,(wipeFrom a n).length=n:=by
 intro n
 induction n generalizing a with
 | zero=>rfl
 | succ n ih=>simp [wipeFrom,ih]
theorem burnCh_len:∀ (l:List Int) (a:Int),(burnCh a l).length=l.length
 | [],_=>rfl
 | w::l,a=>by simp [burnCh,burnCh_len l]
end Vm
end Go.Proofs.YtlbppjmekiemiacGreatDoor

/- Plain lemmas on flash. No condition. -/
namespace Go.Proofs.YtlbppjmekiemiacGreatDoor
namespace Vm

theorem andi_nat (n m:Nat) (hn:n<65536) (hm:m<65536):andi (n:Int) (m:Int)=((n &&& m:Nat):Int):=by
 have h1:n &&& m≤n:=Nat.and_le_left
 have e:(BitVec.ofInt 64 (n:Int) &&& BitVec.ofInt 64 (m:Int)).toNat=n &&& m:=by
  rw [BitVec.toNat_and]
  have a1:(BitVec.ofInt 64 (n:Int)).toNat=n:=by rw [BitVec.ofInt_natCast,BitVec.toNat_ofNat]; omega
  have a2:(BitVec.ofInt 64 (m:Int)).toNat=m:=by rw [BitVec.ofInt_natCast,BitVec.toNat_ofNat]; omega
  rw [a1,a2]
 unfold andi
 rw [e,w64_id (by omega) (by omega)]

theorem okWord_nat {w:Int} (h:okWord w=true):∃ n:Nat,w=n∧n<65536:=by
 simp only [okWord,Bool.and_eq_true,decide_eq_true_eq] at h
 exact ⟨w.toNat,by omega,by omega⟩
theorem okWord_of {n:Nat} (h:n<65536):okWord (n:Int)=true:=by simp [okWord]; omega
theorem okWord_andi {a b:Int} (ha:okWord a=true) (hb:okWord b=true):okWord (andi a b)=true:=by
 obtain ⟨n,rfl,hn⟩:=okWord_nat ha
 obtain ⟨m,rfl,hm⟩:=okWord_nat hb
 rw [andi_nat n m hn hm]
 exact okWord_of (Nat.lt_of_le_of_lt Nat.and_le_left hn)
theorem andi_all {a:Int} (ha:okWord a=true):andi 65535 a=a:=by
 obtain ⟨n,rfl,hn⟩:=okWord_nat ha
 have:=andi_nat 65535 n (by omega) hn
 rw [show ((65535:Nat):Int)=65535 from rfl] at this
 rw [this,Nat.and_comm,show (65535:Nat)=2 ^ 16-1 from rfl,Nat.and_two_pow_sub_one_of_lt_two_pow (by omega)]

theorem okWords_at {l:List Int} (h:okWords l=true) (i:Nat) (hi:i<l.length):okWord (l.getD i 0)=true:=by
 have:=List.all_eq_true.1 h (l[i]) (List.getElem_mem hi)
 simpa [List.getD_eq_getElem?_getD,hi] using this
theorem okWords_of {l:List Int} (h:∀ i,i<l.length→okWord (l.getD i 0)=true):okWords l=true:=by
 refine List.all_eq_true.2 fun w hw=>?_
 obtain ⟨i,hi,rfl⟩:=List.getElem_of_mem hw
 simpa [List.getD_eq_getElem?_getD,hi] using h i hi
theorem okWords_take {l:List Int} (h:okWords l=true) (k:Nat):okWords (l.take k)=true:=List.all_eq_true.2 fun w hw=>List.all_eq_true.1 h w (List.mem_of_mem_take hw)
theorem okWords_drop {l:List Int} (h:okWords l=true) (k:Nat):okWords (l.drop k)=true:=List.all_eq_true.2 fun w hw=>List.all_eq_true.1 h w (List.mem_of_mem_drop hw)

theorem ext_getD {a b:List Int} (hl:a.length=b.length) (h:∀ i,i<a.length→a.getD i 0=b.getD i 0):a=b:=by
 refine List.ext_getElem hl fun i h1 h2=>?_
 have:=h i h1
 simpa [List.getD_eq_getElem?_getD,h1,h2] using this

theorem set_getD (l:List Int) (j i:Nat) (x:Int):(l.set j x).getD i 0=if i=j∧j<l.length then x else l.getD i 0:=by
 simp only [List.getD_eq_getElem?_getD,List.getElem?_set]
 by_cases e:j=i
 ·subst e
  by_cases hl:j<l.length
  ·simp [hl]
  ·simp [hl]
 ·rw [if_neg e,if_neg (fun h=>e h.1.symm)]

theorem applyCh_append (a b:List Change) (ws:List Int):applyCh ws (a++b)=applyCh (applyCh ws a) b:=by simp [applyCh,List.foldl_append]
theorem applyCh_cons (c:Change) (cs:List Change) (ws:List Int):applyCh ws (c::cs)=applyCh (ws.set c.at_.toNat (fnwApp c.word (ws.getD c.at_.toNat 0))) cs:=rfl

theorem burn_at:∀ (l:List Int) (a:Int) (ws:List Int),0≤a→a+(l.length:Nat)≤(ws.length:Nat)→∀ i:Nat,
  (applyCh ws (burnCh a l)).getD i 0=if a≤i∧(i:Int)<a+(l.length:Nat) then andi (ws.getD i 0) (l.getD (i-a.toNat) 0) else ws.getD i 0
 | [],a,ws,h0,h1,i=>by
  rw [if_neg (by simp only [List.length_nil]; omega)]; rfl
 | w::l,a,ws,h0,h1,i=>by
  simp only [List.length_cons] at h1 ⊢
  simp only [burnCh,applyCh_cons]
  rw [burn_at l (a+1) _ (by omega) (by simp; omega) i,set_getD]
  by_cases c1:i=a.toNat
  ·rw [if_neg (by omega),if_pos ⟨c1,by omega⟩,if_pos (by omega)]
   subst c1
   simp [fnwApp]
  ·have e1:(if i=a.toNat∧a.toNat<ws.length then fnwApp (some w) (ws.getD a.toNat 0) else ws.getD i 0)=ws.getD i 0:=if_neg (by omega)
   rw [e1]
   by_cases c2:a+1≤i∧(i:Int)<a+1+(l.length:Nat)
   ·rw [if_pos c2,if_pos (by omega)]
    congr 1
    rw [show i-a.toNat=(i-(a+1).toNat)+1 by omega,List.getD_cons_succ]
   ·rw [if_neg c2,if_neg (by omega)]

theorem checkFlash_ok {f:Flash} (h:checkFlash f=0):okLen f.words.length=true∧-1≤f.fuel∧f.fuel≤100000∧okWords f.words=true:=by
 unfold checkFlash at h
 split at h
 ·split at h
  ·rename_i h1 h2
   simp only [Bool.and_eq_true,decide_eq_true_eq] at h2
   exact ⟨h1,h2.1.1,h2.1.2,h2.2⟩
  ·cases h
 ·cases h
theorem checkFlash_mk {f:Flash} (h1:okLen f.words.length=true) (h2:-1≤f.fuel) (h3:f.fuel≤100000) (h4:okWords f.words=true):checkFlash f=0:=by
 unfold checkFlash
 rw [if_pos h1,if_pos (by simp [h2,h3,h4])]
theorem okLen_le {n:Nat} (h:okLen n=true):32≤n∧n≤192:=by
 simp [okLen] at h; omega

theorem programF_ok {f:Flash} {a:Int} {l:List Int} (h1:okLen f.words.length=true) (h2:-1≤f.fuel) (h3:f.fuel≤100000) (h4:okWords f.words=true) (h5:0≤a) (h6:a+(l.length:Nat)≤(f.words.length:Nat)) (h7:okWords l=true) :
  programF f a l=power (doCh f (burnCh a l)):=by
 unfold programF
 rw [if_pos (checkFlash_mk h1 h2 h3 h4),if_pos (by omega),if_pos h7]
theorem programF_inv {f:Flash} {a:Int} {l:List Int} (h:(programF f a l).2=0∨(programF f a l).2=7):okLen f.words.length=true∧-1≤f.fuel∧f.fuel≤100000∧okWords f.words=true∧0≤a∧a+(l.length:Nat)≤(f.words.length:Nat)∧okWords l=true:=by
 unfold programF at h
 by_cases c:checkFlash f=0
 ·rw [if_pos c] at h
  obtain ⟨k1,k2,k3,k4⟩:=checkFlash_ok c
  by_cases c2:0≤a∧a≤(f.words.length:Int)∧(l.length:Int)≤f.words.length-a
  ·rw [if_pos c2] at h
   by_cases c3:okWords l=true
   ·exact ⟨k1,k2,k3,k4,c2.1,by omega,c3⟩
   ·rw [if_neg c3] at h; simp at h
  ·rw [if_neg c2] at h; simp at h
 ·rw [if_neg c] at h
  simp only at h
  rcases h with h | h
  ·exact absurd h c
  ·unfold checkFlash at h
   split at h
   ·split at h<;>simp at h
   ·simp at h
theorem doCh_free {ws:List Int} {cs:List Change}:doCh ⟨ws,-1⟩ cs=(⟨applyCh ws cs,-1⟩,true):=by simp [doCh]
theorem doCh_enough {ws:List Int} {fu:Int} {cs:List Change} (h:(cs.length:Int)≤fu):doCh ⟨ws,fu⟩ cs=(⟨applyCh ws cs,fu-cs.length⟩,true):=by
 unfold doCh
 rw [if_neg (by simp; omega),if_pos (by simpa using h)]
theorem slc_take {α:Type} (l:List α) (k:Nat):slc l 0 k=l.take k:=by simp [slc]
theorem slc_drop {α:Type} (l:List α) (k:Nat):slc l k l.length=l.drop k:=by simp [slc]
theorem wipe_at:∀ (n:Nat) (a:Int) (ws:List Int),0≤a→a+(n:Nat)≤(ws.length:Nat)→∀ i:Nat,
  (applyCh ws (wipeFrom a n)).getD i 0=if a≤i∧(i:Int)<a+(n:Nat) then 65535 else ws.getD i 0
 | 0,a,ws,h0,h1,i=>by
  rw [if_neg (by omega)]; rfl
 | n+1,a,ws,h0,h1,i=>by
  simp only [wipeFrom,applyCh_cons]
  rw [wipe_at n (a+1) _ (by omega) (by simp; omega) i,set_getD]
  by_cases c1:i=a.toNat
  ·rw [if_neg (by omega),if_pos ⟨c1,by omega⟩,if_pos (by omega)]; rfl
  ·have e1:(if i=a.toNat∧a.toNat<ws.length then fnwApp none (ws.getD a.toNat 0) else ws.getD i 0)=ws.getD i 0:=if_neg (by omega)
   rw [e1]
   by_cases c2:a+1≤i∧(i:Int)<a+1+(n:Nat)
   ·rw [if_pos c2,if_pos (by omega)]
   ·rw [if_neg c2,if_neg (by omega)]
theorem burnCh_take:∀ (l:List Int) (a:Int) (k:Nat),(burnCh a l).take k=burnCh a (l.take k)
 | [],_,_=>by simp [burnCh]
 | _::_,_,0=>rfl
 | w::l,a,k+1=>by simp only [burnCh,List.take_succ_cons,burnCh_take l]
theorem slc_getD (l:List Int) (a b i:Nat) (h:a+i<b):(slc l a b).getD i 0=l.getD (a+i) 0:=by
 simp only [slc,List.getD_eq_getElem?_getD,List.getElem?_drop,List.getElem?_take]
 rw [if_pos h]
end Vm
end Go.Proofs.YtlbppjmekiemiacGreatDoor

/- Plain answers and lemmas: slots. No condition. -/
namespace Go.Proofs.YtlbppjmekiemiacGreatDoor
namespace Vm

def checkSlot (f:Flash) (slot:Int):Int :=
 if checkFlash f=0 then (if f.words.length=192 then (if slot=0∨slot=1 then 0 else 5) else 4) else checkFlash f
def clearCh (slot:Int):List Change:=wipeCh (2+2*slot)++wipeCh (3+2*slot)
def clearS (f:Flash) (slot:Int):Flash × Int :=
 if checkSlot f slot=0 then power (doCh f (clearCh slot)) else (noFlash,checkSlot f slot)
def fillS (f:Flash) (slot at_:Int) (l:List Int):Flash × Int :=
 if checkSlot f slot=0 then (if 0≤at_∧at_≤40∧(l.length:Int)≤40-at_ then programF f (68+64*slot+at_) l else (noFlash,2)) else (noFlash,checkSlot f slot)
def okHead (long name:Int):Bool:=decide (1≤long) && decide (long≤40) && decide (1≤name) && decide (name≤60)
def headOf (long name:Int):List Int:=[long,name,65535-long,65535-name]
def sealS (f:Flash) (slot long name:Int):Flash × Int :=
 if checkSlot f slot=0 then (if okHead long name then programF f (64+64*slot) (headOf long name) else (noFlash,3)) else (noFlash,checkSlot f slot)
def bodyS (f:Flash) (slot n:Int):List Int × Int :=
 if checkSlot f slot=0 then (if 0≤n∧n≤40 then (slc f.words (68+64*slot).toNat (68+64*slot+n).toNat,0) else ([],2)) else ([],checkSlot f slot)
def sealedAt (ws:List Int) (b:Nat):Bool :=
 okHead (ws.getD b 0) (ws.getD (b+1) 0) && decide (ws.getD (b+2) 0=65535-ws.getD b 0) && decide (ws.getD (b+3) 0=65535-ws.getD (b+1) 0)
def beginS (slot:Int):Nat:=(64+64*slot).toNat
def imageR (ws:List Int) (slot:Int):List Int × Int :=
 if sealedAt ws (beginS slot) then (slc ws (beginS slot+4) (beginS slot+4+(ws.getD (beginS slot) 0).toNat),ws.getD (beginS slot+1) 0) else ([],0)
def imageS (f:Flash) (slot:Int):List Int × Int × Int :=
 if checkSlot f slot=0 then ((imageR f.words slot).1,(imageR f.words slot).2,if sealedAt f.words (beginS slot) then 0 else 4) else ([],0,checkSlot f slot)

theorem doCh_short {ws:List Int} {fu:Int} {cs:List Change} (h:¬ (cs.length:Int)≤fu) (h0:0≤fu):doCh ⟨ws,fu⟩ cs=(⟨applyCh ws (cs.take fu.toNat),0⟩,false):=by
 unfold doCh
 rw [if_neg (by simp only; omega),if_neg (by simpa using h)]
theorem doCh_append (f:Flash) (a b:List Change):doCh f (a++b)=if (doCh f a).2 then doCh (doCh f a).1 b else doCh f a:=by
 obtain ⟨ws,fu⟩:=f
 by_cases h1:fu<0
 ·have e:∀ (vs:List Int) (cs:List Change),doCh ⟨vs,fu⟩ cs=(⟨applyCh vs cs,fu⟩,true):=fun vs cs=>by simp [doCh,h1]
  rw [e,e,if_pos rfl,e,applyCh_append]
 ·by_cases h2:(a.length:Int)≤fu
  ·rw [doCh_enough (cs:=a) h2,if_pos rfl]
   by_cases h3:(b.length:Int)≤fu-a.length
   ·rw [doCh_enough (cs:=b) h3,doCh_enough (by rw [List.length_append]; omega),applyCh_append,List.length_append]
    rw [show fu-((a.length+b.length:Nat):Int)=fu-a.length-b.length by omega]
   ·rw [doCh_short (by rw [List.length_append]; omega) (by omega),doCh_short (by omega) (by omega)]
    rw [show fu.toNat=a.length+(fu-a.length).toNat by omega,List.take_length_add_append,applyCh_append]
  ·rw [doCh_short (by rw [List.length_append]; omega) (by omega),doCh_short (cs:=a) (by omega) (by omega),List.take_append_of_le_length (by omega)]
   rfl
theorem xori_nat (n:Nat) (hn:n<65536):xori 65535 (n:Int)=65535-(n:Int):=by
 have h1:(65535:Nat) ^^^ n=65535-n:=by
  have:BitVec.ofNat 16 65535 ^^^ BitVec.ofNat 16 n=BitVec.ofNat 16 65535-BitVec.ofNat 16 n:=by
   have:=BitVec.not_eq_neg_add (BitVec.ofNat 16 n)
   rw [show BitVec.ofNat 16 65535=BitVec.allOnes 16 from rfl,BitVec.allOnes_xor,BitVec.allOnes_sub_eq_not]
  have:=congrArg BitVec.toNat this
  rw [BitVec.toNat_xor,BitVec.toNat_sub,BitVec.toNat_ofNat,BitVec.toNat_ofNat] at this
  rw [Nat.mod_eq_of_lt (show 65535<2 ^ 16 by decide),Nat.mod_eq_of_lt (show n<2 ^ 16 by omega)] at this
  omega
 have e:(BitVec.ofInt 64 65535 ^^^ BitVec.ofInt 64 (n:Int)).toNat=65535-n:=by
  rw [BitVec.toNat_xor]
  have a2:(BitVec.ofInt 64 (n:Int)).toNat=n:=by rw [BitVec.ofInt_natCast,BitVec.toNat_ofNat]; omega
  rw [a2,show (BitVec.ofInt 64 65535).toNat=65535 from rfl,h1]
 unfold xori
 rw [e,w64_id (by omega) (by omega)]; omega
theorem xori_int {a:Int} (h0:0≤a) (h1:a≤65535):xori 65535 a=65535-a:=by
 obtain ⟨n,rfl⟩:=Int.eq_ofNat_of_zero_le h0
 exact xori_nat n (by omega)
theorem checkSlot_ok {f:Flash} {slot:Int} (h:checkSlot f slot=0):checkFlash f=0∧f.words.length=192∧(slot=0∨slot=1):=by
 unfold checkSlot at h
 split at h
 ·rename_i h1
  split at h
  ·rename_i h2
   split at h
   ·rename_i h3; exact ⟨h1,h2,h3⟩
   ·cases h
  ·cases h
 ·exact absurd h ‹_›
theorem checkFlash_is (f:Flash):checkFlash f=0∨checkFlash f=3∨checkFlash f=4:=by
 unfold checkFlash
 split
 ·split
  ·exact .inl rfl
  ·exact .inr (.inl rfl)
 ·exact .inr (.inr rfl)
theorem doCh_fuel (f:Flash) (cs:List Change) (h1:-1≤f.fuel) (h2:f.fuel≤100000):-1≤(doCh f cs).1.fuel∧(doCh f cs).1.fuel≤100000:=by
 unfold doCh
 split
 ·exact ⟨h1,h2⟩
 ·split
  ·simp only; omega
  ·simp only; omega
theorem okWord_range {w:Int} (h:okWord w=true):0≤w∧w≤65535:=by
 simpa only [okWord,Bool.and_eq_true,decide_eq_true_eq] using h
theorem sealedAt_ok {ws:List Int} {b:Nat} (h:sealedAt ws b=true):1≤ws.getD b 0∧ws.getD b 0≤40∧1≤ws.getD (b+1) 0∧ws.getD (b+1) 0≤60∧ws.getD (b+2) 0=65535-ws.getD b 0∧ws.getD (b+3) 0=65535-ws.getD (b+1) 0:=by
 simp only [sealedAt,okHead,Bool.and_eq_true,decide_eq_true_eq] at h; omega
end Vm
end Go.Proofs.YtlbppjmekiemiacGreatDoor

/- Plain lemmas: what changes leave alone. No condition. -/
namespace Go.Proofs.YtlbppjmekiemiacGreatDoor
namespace Vm

def within (a b:Int) (cs:List Change):Bool:=cs.all fun c=>decide (a≤c.at_) && decide (c.at_<b)
theorem within_append {a b:Int} {xs ys:List Change} (h1:within a b xs=true) (h2:within a b ys=true):within a b (xs++ys)=true:=by
 unfold within at *; rw [List.all_append,h1,h2]; rfl
theorem within_take {a b:Int} {xs:List Change} (h:within a b xs=true) (k:Nat):within a b (xs.take k)=true :=
 List.all_eq_true.2 fun c hc=>List.all_eq_true.1 h c (List.mem_of_mem_take hc)
theorem within_wipe (a b:Int):∀ (n:Nat) (p:Int),a≤p→p+(n:Nat)≤b→within a b (wipeFrom p n)=true
 | 0,_,_,_=>rfl
 | n+1,p,h0,h1=>by
  have:=within_wipe a b n (p+1) (by omega) (by omega)
  unfold within at this ⊢
  simp only [wipeFrom,List.all_cons,this,Bool.and_true,Bool.and_eq_true,decide_eq_true_eq]
  omega
theorem within_burn (a b:Int):∀ (l:List Int) (p:Int),a≤p→p+(l.length:Nat)≤b→within a b (burnCh p l)=true
 | [],_,_,_=>rfl
 | w::l,p,h0,h1=>by
  simp only [List.length_cons] at h1
  have:=within_burn a b l (p+1) (by omega) (by omega)
  unfold within at this ⊢
  simp only [burnCh,List.all_cons,this,Bool.and_true,Bool.and_eq_true,decide_eq_true_eq]
  omega
theorem applyCh_out {a b:Int} (h0:0≤a):∀ (cs:List Change) (ws:List Int),within a b cs=true→∀ i:Nat,(i:Int)<a∨b≤i→(applyCh ws cs).getD i 0=ws.getD i 0
 | [],_,_,_,_=>rfl
 | c::cs,ws,h,i,hi=>by
  unfold within at h
  simp only [List.all_cons,Bool.and_eq_true,decide_eq_true_eq] at h
  rw [applyCh_cons,applyCh_out h0 cs _ (by unfold within; simpa using h.2) i hi,set_getD,if_neg (by omega)]
theorem doCh_out {a b:Int} (h0:0≤a) (f:Flash) (cs:List Change) (h:within a b cs=true) (i:Nat) (hi:(i:Int)<a∨b≤i):(doCh f cs).1.words.getD i 0=f.words.getD i 0:=by
 unfold doCh
 split
 ·exact applyCh_out h0 _ _ h i hi
 ·split
  ·exact applyCh_out h0 _ _ h i hi
  ·exact applyCh_out h0 _ _ (within_take h _) i hi
theorem slc_alike {xs ws:List Int} (c d:Nat) (hl:xs.length=ws.length) (h:∀ i,c≤i→i<d→xs.getD i 0=ws.getD i 0):slc xs c d=slc ws c d:=by
 refine ext_getD (by simp [slc,hl]) fun i hi=>?_
 have hi:c+i<d:=by simp [slc] at hi; omega
 rw [slc_getD _ _ _ _ hi,slc_getD _ _ _ _ hi]
 exact h _ (by omega) hi
theorem checkSlot_is (f:Flash) (s:Int):checkSlot f s=0∨checkSlot f s=3∨checkSlot f s=4∨checkSlot f s=5:=by
 have:=checkFlash_is f
 unfold checkSlot
 split
 ·split
  ·split
   ·exact .inl rfl
   ·exact .inr (.inr (.inr rfl))
  ·exact .inr (.inr (.inl rfl))
 ·omega
theorem checkSlot_not {f:Flash} {s:Int} (h:¬ checkSlot f s=0):¬ (checkSlot f s=0∨checkSlot f s=7):=by
 have:=checkSlot_is f s
 omega
theorem clearS_out {f:Flash} {s:Int} (h:(clearS f s).2=0∨(clearS f s).2=7):checkSlot f s=0∧clearS f s=power (doCh f (clearCh s)):=by
 unfold clearS at h ⊢
 by_cases c:checkSlot f s=0
 ·rw [if_pos c]; exact ⟨c,rfl⟩
 ·rw [if_neg c] at h
  exact absurd h (checkSlot_not c)
theorem sealS_out {f:Flash} {s n m:Int} (h:(sealS f s n m).2=0∨(sealS f s n m).2=7):checkSlot f s=0∧okHead n m=true∧sealS f s n m=programF f (64+64*s) (headOf n m):=by
 unfold sealS at h ⊢
 by_cases c:checkSlot f s=0
 ·rw [if_pos c] at h ⊢
  by_cases c2:okHead n m=true
  ·rw [if_pos c2]; exact ⟨c,c2,rfl⟩
  ·rw [if_neg c2] at h; simp at h
 ·rw [if_neg c] at h
  exact absurd h (checkSlot_not c)
theorem fillS_out {f:Flash} {s a:Int} {l:List Int} (h:(fillS f s a l).2=0∨(fillS f s a l).2=7):checkSlot f s=0∧(0≤a∧a≤40∧(l.length:Int)≤40-a)∧fillS f s a l=programF f (68+64*s+a) l:=by
 unfold fillS at h ⊢
 by_cases c:checkSlot f s=0
 ·rw [if_pos c] at h ⊢
  by_cases c2:0≤a∧a≤40∧(l.length:Int)≤40-a
  ·rw [if_pos c2]; exact ⟨c,c2,rfl⟩
  ·rw [if_neg c2] at h; simp at h
 ·rw [if_neg c] at h
  exact absurd h (checkSlot_not c)
theorem programF_out {f:Flash} {a:Int} {l:List Int} (h:(programF f a l).2=0∨(programF f a l).2=7):programF f a l=power (doCh f (burnCh a l)):=by
 obtain ⟨h1,h2,h3,h4,h5,h6,h7⟩:=programF_inv h
 exact programF_ok h1 h2 h3 h4 h5 h6 h7
theorem beginS_nat (t:Nat):beginS (t:Int)=64+64*t:=by unfold beginS; omega
theorem image_alike {xs ws:List Int} {t:Nat} (hl:xs.length=ws.length) (h:∀ i,64+64*t≤i→i<128+64*t→xs.getD i 0=ws.getD i 0) :
  sealedAt xs (beginS t)=sealedAt ws (beginS t)∧imageR xs t=imageR ws t:=by
 have e0:=h (64+64*t) (by omega) (by omega)
 have e1:=h (64+64*t+1) (by omega) (by omega)
 have e2:=h (64+64*t+2) (by omega) (by omega)
 have e3:=h (64+64*t+3) (by omega) (by omega)
 have es:sealedAt xs (beginS t)=sealedAt ws (beginS t):=by
  rw [beginS_nat]; unfold sealedAt; rw [e0,e1,e2,e3]
 refine ⟨es,?_⟩
 unfold imageR
 rw [es]
 cases c:sealedAt ws (beginS t)
 ·rfl
 ·have:=sealedAt_ok c
  rw [beginS_nat] at this ⊢
  rw [e0,e1]
  simp only [if_true]
  congr 1
  exact slc_alike _ _ hl (fun i h1 h2=>h i (by omega) (by omega))
theorem imageS_alike {xs ws:List Int} {fx fw:Int} {t:Nat} (h1:checkSlot ⟨xs,fx⟩ t=0) (h2:checkSlot ⟨ws,fw⟩ t=0) (hl:xs.length=ws.length) (h:∀ i,64+64*t≤i→i<128+64*t→xs.getD i 0=ws.getD i 0) :
  imageS ⟨xs,fx⟩ t=imageS ⟨ws,fw⟩ t:=by
 obtain ⟨e1,e2⟩:=image_alike hl h
 unfold imageS
 rw [if_pos h1,if_pos h2,e1,e2]
theorem checkSlot_mk {ws:List Int} {fu:Int} {t:Nat} (h1:ws.length=192) (h2:-1≤fu) (h3:fu≤100000) (h4:okWords ws=true) (ht:t≤1):checkSlot ⟨ws,fu⟩ t=0:=by
 unfold checkSlot
 rw [if_pos (checkFlash_mk (by simp only; rw [h1]; rfl) h2 h3 h4),if_pos h1,if_pos (by omega)]
end Vm
end Go.Proofs.YtlbppjmekiemiacGreatDoor

/- Plain answers: the log. No condition. -/
namespace Go.Proofs.YtlbppjmekiemiacGreatDoor
namespace Vm

def checkRec (r:List Int):Int:=if 1≤r.length∧r.length≤4 then (if okWords r then 0 else 3) else 2
def recW (r:List Int):List Int:=(42240+(r.length:Int))::r
def headN (x:Int):Nat:=if 42241≤x∧x≤42244 then (x-42240).toNat else 0
def allClean (l:List Int):Bool:=l.all fun w=>decide (w=65535)
def scanL:Nat→List Int→List (List Int) × Option Nat
 | 0,_=>([],some 0)
 | _+1,[]=>([],some 0)
 | m+1,x::xs =>
  if x=65535 then ([],if allClean xs then some 0 else none)
  else if headN x=0 then ([],none)
  else if headN x≤xs.length then (xs.take (headN x)::(scanL m (xs.drop (headN x))).1,(scanL m (xs.drop (headN x))).2.map (·+headN x+1))
  else ([],none)
def sectorW (ws:List Int) (s:Nat):List Int:=slc ws (32*s) (32*s+32)
def scanS (ws:List Int) (s:Nat):List (List Int) × Option Nat:=scanL 32 ((sectorW ws s).drop 1)
def nextI (s:Nat):Option Nat→Int
 | some n=>32*s+1+n
 | none=>-1
def genOf (ws:List Int) (s:Nat):Int:=if ws.getD (32*s) 0=65535 then 0 else ws.getD (32*s) 0
def liveS (ws:List Int):Nat:=if genOf ws 0<genOf ws 1 then 1 else 0
def liveG (ws:List Int):Int:=genOf ws (liveS ws)
def liveOk (ws:List Int):Bool:=decide (0<liveG ws)
def checkLog (f:Flash):Int :=
 if checkFlash f=0 then (if 64≤f.words.length then (if 0<liveG f.words∧liveG f.words≤60000 then 0 else 5) else 4) else checkFlash f
def formatCh:List Change:=wipeCh 1++wipeCh 0++burnCh 0 [1]
def formatF (f:Flash):Flash × Int :=
 if checkFlash f=0 then (if 64≤f.words.length then power (doCh f formatCh) else (noFlash,4)) else (noFlash,checkFlash f)
def recsOf (ws:List Int):List (List Int):=(scanS ws (liveS ws)).1
def recordsF (f:Flash):List (List Int) × Int:=if checkLog f=0 then (recsOf f.words,0) else ([],checkLog f)
def allW (rs:List (List Int)):List Int:=rs.flatMap recW
def gather (n:Nat):List (List Int)→Int
 | []=>0
 | k::ks=>if checkRec k=0 then (if n+1+k.length≤31 then gather (n+1+k.length) ks else 8) else checkRec k
def room (n:Nat):Option Nat→Bool
 | some a=>decide (a+n≤30)
 | none=>false
def hereCh (s a:Nat) (r:List Int):List Change:=burnCh ((32*s+1+a:Nat)+1:Int) r++burnCh (32*s+1+a:Nat) [42240+(r.length:Int)]
def thereCh (o:Nat) (rs:List (List Int)) (g:Int):List Change:=wipeCh o++burnCh (32*(o:Int)+1) (allW rs)++burnCh (32*(o:Int)) [g]
def appendCh (ws r:List Int) (keep:List (List Int)):Option (List Change) :=
 if room r.length (scanS ws (liveS ws)).2 then some (hereCh (liveS ws) ((scanS ws (liveS ws)).2.getD 0) r)
 else if liveG ws=60000 then none
 else some (thereCh (1-liveS ws) (keep++[r]) (liveG ws+1))
def appendE (f:Flash) (r:List Int) (keep:List (List Int)):Int :=
 if checkLog f=0 then (if checkRec r=0 then gather 0 (keep++[r]) else checkRec r) else checkLog f
def appendF (f:Flash) (r:List Int) (keep:List (List Int)):Flash × Int :=
 if appendE f r keep=0 then
  (match appendCh f.words r keep with
  | some cs=>power (doCh f cs)
  | none=>(noFlash,8))
 else (noFlash,appendE f r keep)
def smR (l:List (List Int)):Bool:=l.all fun r=>decide (r.length≤140737488355328)
theorem ori_head {n:Int} (h0:0≤n) (h1:n≤255):ori 42240 n=42240+n:=by
 obtain ⟨m,rfl⟩:=Int.eq_ofNat_of_zero_le h0
 have e1:42240 ||| m=42240+m:=by
  exact (Nat.two_pow_add_eq_or_of_lt (b:=m) (i:=8) (by omega) 165).symm
 have e:(BitVec.ofInt 64 42240 ||| BitVec.ofInt 64 (m:Int)).toNat=42240+m:=by
  rw [BitVec.toNat_or]
  have a2:(BitVec.ofInt 64 (m:Int)).toNat=m:=by rw [BitVec.ofInt_natCast,BitVec.toNat_ofNat]; omega
  rw [a2,show (BitVec.ofInt 64 42240).toNat=42240 from rfl,e1]
 unfold ori
 rw [e,w64_id (by omega) (by omega)]; omega
theorem xori_head {x:Int} (h:okWord x=true):0≤xori x 42240∧xori x 42240≤65535∧(xori x 42240<1∨4<xori x 42240→headN x=0)∧(1≤xori x 42240→xori x 42240≤4→xori x 42240=(headN x:Int)∧headN x≠0∧headN x≤4):=by
 obtain ⟨n,rfl,hn⟩:=okWord_nat h
 have e:xori (n:Int) 42240=((n ^^^ 42240:Nat):Int):=by
  have e:(BitVec.ofInt 64 (n:Int) ^^^ BitVec.ofInt 64 42240).toNat=n ^^^ 42240:=by
   rw [BitVec.toNat_xor]
   have a2:(BitVec.ofInt 64 (n:Int)).toNat=n:=by rw [BitVec.ofInt_natCast,BitVec.toNat_ofNat]; omega
   rw [a2,show (BitVec.ofInt 64 42240).toNat=42240 from rfl]
  have hl:n ^^^ 42240<2 ^ 16:=Nat.xor_lt_two_pow (by omega) (by omega)
  unfold xori
  rw [e,w64_id (by omega) (by omega)]
 have hl:n ^^^ 42240<2 ^ 16:=Nat.xor_lt_two_pow (by omega) (by omega)
 have back:n=(n ^^^ 42240) ^^^ 42240:=by rw [Nat.xor_assoc,Nat.xor_self,Nat.xor_zero]
 rw [e]
 obtain ⟨m,hm⟩:∃ m,n ^^^ 42240=m:=⟨_,rfl⟩
 rw [hm] at back hl ⊢
 refine ⟨by omega,by omega,fun h=>?_,fun h1 h2=>?_⟩
 ·unfold headN
  by_cases c:(42241:Int)≤n∧(n:Int)≤42244
  ·exfalso
   have:n=42241∨n=42242∨n=42243∨n=42244:=by omega
   rcases this with rfl | rfl | rfl | rfl
   ·rw [show (42241:Nat) ^^^ 42240=1 from by decide] at hm; omega
   ·rw [show (42242:Nat) ^^^ 42240=2 from by decide] at hm; omega
   ·rw [show (42243:Nat) ^^^ 42240=3 from by decide] at hm; omega
   ·rw [show (42244:Nat) ^^^ 42240=4 from by decide] at hm; omega
  ·rw [if_neg c]
 ·have:m=1∨m=2∨m=3∨m=4:=by omega
  rcases this with rfl | rfl | rfl | rfl
  ·rw [show (1:Nat) ^^^ 42240=42241 from by decide] at back; subst back; decide
  ·rw [show (2:Nat) ^^^ 42240=42242 from by decide] at back; subst back; decide
  ·rw [show (3:Nat) ^^^ 42240=42243 from by decide] at back; subst back; decide
  ·rw [show (4:Nat) ^^^ 42240=42244 from by decide] at back; subst back; decide
theorem getD_ok {ws:List Int} (h:okWords ws=true) (i:Nat):0≤ws.getD i 0∧ws.getD i 0≤65535:=by
 by_cases c:i<ws.length
 ·exact okWord_range (okWords_at h i c)
 ·simp [List.getD_eq_getElem?_getD,List.getElem?_eq_none (Nat.le_of_not_lt c)]
theorem genOf_range {ws:List Int} (h:okWords ws=true) (s:Nat):0≤genOf ws s∧genOf ws s<65535:=by
 have:=getD_ok h (32*s)
 unfold genOf
 split<;>omega
theorem liveS_le (ws:List Int):liveS ws≤1:=by unfold liveS; split<;>omega
theorem checkLog_ok {f:Flash} (h:checkLog f=0):checkFlash f=0∧64≤f.words.length∧0<liveG f.words∧liveG f.words≤60000:=by
 unfold checkLog at h
 split at h
 ·rename_i h1
  split at h
  ·rename_i h2
   split at h
   ·rename_i h3; exact ⟨h1,h2,h3⟩
   ·cases h
  ·cases h
 ·exact absurd h ‹_›
theorem slc_ok {l:List Int} (h:okWords l=true) (a b:Nat):okWords (slc l a b)=true:=okWords_drop (okWords_take h b) a
theorem scanL_le:∀ (m:Nat) (l:List Int) (a:Nat),(scanL m l).2=some a→a≤l.length
 | 0,_,a,h=>by simp only [scanL,Option.some.injEq] at h; omega
 | _+1,[],a,h=>by simp only [scanL,Option.some.injEq] at h; omega
 | m+1,x::xs,a,h=>by
  simp only [scanL] at h
  split at h
  ·simp only at h
   split at h
   ·cases h; omega
   ·cases h
  ·split at h
   ·cases h
   ·split at h
    ·rename_i h1 h2 h3
     simp only [Option.map] at h
     split at h
     ·rename_i b hb
      have:=scanL_le m _ b hb
      simp only [List.length_drop] at this
      cases h
      simp only [List.length_cons]; omega
     ·cases h
    ·cases h
theorem scanS_le {ws:List Int} {s a:Nat} (hl:32*s+32≤ws.length) (h:(scanS ws s).2=some a):a≤31:=by
 have:=scanL_le _ _ _ h
 rw [List.length_drop,sectorW,slc_len _ _ _ hl] at this
 omega
theorem recW_len (r:List Int):(recW r).length=r.length+1:=rfl
theorem allW_snoc (rs:List (List Int)) (r:List Int):allW (rs++[r])=allW rs++recW r:=by simp [allW]
theorem checkRec_ok {r:List Int} (h:checkRec r=0):1≤r.length∧r.length≤4∧okWords r=true:=by
 unfold checkRec at h
 split at h
 ·rename_i h1
  split at h
  ·rename_i h2; exact ⟨h1.1,h1.2,h2⟩
  ·cases h
 ·cases h
end Vm
end Go.Proofs.YtlbppjmekiemiacGreatDoor

/- Plain laws: the log, wherever the power goes. No condition. -/
namespace Go.Proofs.YtlbppjmekiemiacGreatDoor
namespace Vm

def chOk (c:Change):Bool:=match c.word with | none=>true | some w=>okWord w
theorem applyCh_ok:∀ (cs:List Change) (ws:List Int),okWords ws=true→cs.all chOk=true→okWords (applyCh ws cs)=true
 | [],_,h,_=>h
 | c::cs,ws,h,hc=>by
  simp only [List.all_cons,Bool.and_eq_true] at hc
  rw [applyCh_cons]
  refine applyCh_ok cs _ (okWords_of fun i hi=>?_) hc.2
  rw [set_getD]
  split
  ·have hg:=getD_ok h c.at_.toNat
   unfold chOk at hc
   unfold fnwApp
   split
   ·rfl
   ·rename_i w hw
    rw [hw] at hc
    exact okWord_andi (by simp only [okWord,Bool.and_eq_true,decide_eq_true_eq]; exact hg) hc.1
  ·exact okWords_at h i (by simpa using hi)
theorem wipe_chOk (a:Int):∀ n,(wipeFrom a n).all chOk=true:=by
 intro n
 induction n generalizing a with
 | zero=>rfl
 | succ n ih=>simp [wipeFrom,ih,chOk]
theorem burn_chOk:∀ (l:List Int) (a:Int),okWords l=true→(burnCh a l).all chOk=true
 | [],_,_=>rfl
 | w::l,a,h=>by
  unfold okWords at h
  simp only [List.all_cons,Bool.and_eq_true] at h
  simp only [burnCh,List.all_cons,Bool.and_eq_true]
  exact ⟨h.1,burn_chOk l _ h.2⟩
theorem all_take {α:Type} {p:α→Bool} {l:List α} (h:l.all p=true) (k:Nat):(l.take k).all p=true:=List.all_eq_true.2 fun x hx=>List.all_eq_true.1 h x (List.mem_of_mem_take hx)
theorem doCh_take (f:Flash) (cs:List Change):∃ k,k≤cs.length∧(doCh f cs).1.words=applyCh f.words (cs.take k)∧((doCh f cs).2=true→k=cs.length):=by
 unfold doCh
 split
 ·exact ⟨cs.length,Nat.le_refl _,by simp,fun _=>rfl⟩
 ·split
  ·exact ⟨cs.length,Nat.le_refl _,by simp,fun _=>rfl⟩
  ·rename_i h1 h2
   exact ⟨f.fuel.toNat,by omega,rfl,fun h=>by simp at h⟩

/- scanning -/
theorem scanL_fuel:∀ (m m2:Nat) (l:List Int),l.length≤m→l.length≤m2→scanL m l=scanL m2 l
 | 0,0,_,_,_=>rfl
 | 0,_+1,[],_,_=>rfl
 | 0,_+1,_::_,h,_=>by simp at h
 | _+1,0,[],_,_=>rfl
 | _+1,0,_::_,_,h=>by simp at h
 | _+1,_+1,[],_,_=>rfl
 | m+1,m2+1,x::xs,h,h2=>by
  simp only [List.length_cons] at h h2
  have:=scanL_fuel m m2 (xs.drop (headN x)) (by simp only [List.length_drop]; omega) (by simp only [List.length_drop]; omega)
  simp only [scanL,this]
theorem scanL_zero {m:Nat} {l:List Int} (h:(scanL m l).2=some 0) (hm:l.length≤m):(scanL m l).1=[]∧allClean l=true:=by
 match m,l,hm with
 | 0,[],_=>exact ⟨rfl,rfl⟩
 | _+1,[],_=>exact ⟨rfl,rfl⟩
 | m+1,x::xs,hm =>
  simp only [scanL] at h ⊢
  by_cases c:x=65535
  ·rw [if_pos c] at h ⊢
   refine ⟨rfl,?_⟩
   simp only at h
   unfold allClean at h ⊢
   simp only [List.all_cons,c,decide_true,Bool.true_and]
   cases hx:xs.all fun w=>decide (w=65535)
   ·rw [hx] at h; simp at h
   ·rfl
  ·rw [if_neg c] at h
   split at h
   ·cases h
   ·split at h
    ·simp only [Option.map] at h
     split at h
     ·simp at h
     ·cases h
    ·cases h
theorem scanL_pre:∀ (m:Nat) (pre t t':List Int),(scanL m (pre++t)).2=some pre.length→(pre++t).length≤m→(pre++t').length≤m →
  scanL m (pre++t')=((scanL m (pre++t)).1++(scanL m t').1,(scanL m t').2.map (·+pre.length))∧allClean t=true
 | m,[],t,t',h,hm,hm'=>by
  obtain ⟨h1,h2⟩:=scanL_zero h hm
  simp only [List.nil_append] at h1 h2 ⊢
  rw [h1]
  refine ⟨?_,h2⟩
  rw [List.nil_append,List.length_nil]
  cases hc:scanL m t' with
  | mk a b=>cases b<;>rfl
 | 0,x::pre,t,t',h,hm,_=>by simp at hm
 | m+1,x::pre,t,t',h,hm,hm'=>by
  simp only [List.cons_append,List.length_cons,List.length_append] at h hm hm'
  simp only [scanL] at h
  have hx:x≠65535:=fun c=>by
   rw [if_pos c] at h
   simp only at h
   split at h<;>simp at h
  rw [if_neg hx] at h
  have hn:headN x≠0:=fun c=>by rw [if_pos c] at h; simp at h
  rw [if_neg hn] at h
  have hl:headN x≤(pre++t).length:=by
   by_cases c:headN x≤(pre++t).length
   ·exact c
   ·rw [if_neg c] at h; simp at h
  rw [if_pos hl] at h
  simp only [Option.map] at h
  split at h
  ·rename_i b hb
   simp only [Option.some.injEq] at h
   obtain ⟨n,hnn⟩:∃ n,headN x=n:=⟨_,rfl⟩
   rw [hnn] at h hb hl hn
   have hpl:n≤pre.length:=by omega
   have d1:∀ u,(pre++u).drop n=pre.drop n++u:=fun u=>List.drop_append_of_le_length hpl
   have t1:∀ u,(pre++u).take n=pre.take n:=fun u=>List.take_append_of_le_length hpl
   rw [d1] at hb
   have ih:=scanL_pre m (pre.drop n) t t' (by rw [hb]; simp; omega) (by simp; omega) (by simp; omega)
   refine ⟨?_,ih.2⟩
   have ef:scanL (m+1) t'=scanL m t':=scanL_fuel _ _ _ (by omega) (by omega)
   rw [ef]
   simp only [List.cons_append,scanL,if_neg hx,hnn,if_neg hn,d1,t1]
   rw [if_pos (by simp; omega),if_pos (by simp; omega),ih.1]
   simp only [List.cons_append]
   congr 1
   cases (scanL m t').2 with
   | none=>rfl
   | some c=>simp only [Option.map,List.length_drop,List.length_cons,Option.some.injEq]; omega
  ·cases h
theorem scanL_recs:∀ (rs:List (List Int)) (m:Nat) (t:List Int),(∀ k∈rs,1≤k.length∧k.length≤4)→(allW rs++t).length≤m→allClean t=true →
  scanL m (allW rs++t)=(rs,some (allW rs).length)
 | [],m,t,_,hm,ht=>by
  simp only [allW,List.flatMap_nil,List.nil_append,List.length_nil] at hm ⊢
  match m,t,hm with
  | 0,[],_=>rfl
  | _+1,[],_=>rfl
  | m+1,x::xs,_ =>
   unfold allClean at ht
   simp only [List.all_cons,Bool.and_eq_true,decide_eq_true_eq] at ht
   simp only [scanL]
   rw [if_pos ht.1,if_pos (by unfold allClean; exact ht.2)]
 | k::rs,m,t,hr,hm,ht=>by
  have hk:=hr k (by simp)
  have e:allW (k::rs)++t=(42240+(k.length:Int))::(k++(allW rs++t)):=by simp [allW,recW]
  have el:(allW (k::rs)).length=k.length+1+(allW rs).length:=by simp [allW,recW]; omega
  rw [e] at hm ⊢
  simp only [List.length_cons,List.length_append] at hm
  match m,hm with
  | m+1,hm =>
   have hh:headN (42240+(k.length:Int))=k.length:=by
    unfold headN
    rw [if_pos (by omega)]; omega
   simp only [scanL]
   rw [if_neg (by omega),hh,if_neg (by omega),if_pos (by simp),List.take_left,List.drop_left]
   rw [scanL_recs rs m t (fun k hk=>hr k (by simp [hk])) (by simp; omega) ht,el]
   simp only [Option.map,Prod.mk.injEq,Option.some.injEq,true_and]
   omega
theorem scanL_small:∀ (m:Nat) (l:List Int),(∀ r∈(scanL m l).1,r.length≤4)∧(scanL m l).1.length≤l.length
 | 0,_=>by simp [scanL]
 | _+1,[]=>by simp [scanL]
 | m+1,x::xs=>by
  obtain ⟨h1,h2⟩:=scanL_small m (xs.drop (headN x))
  have h4:headN x≤4:=by unfold headN; split<;>omega
  simp only [scanL]
  split
  ·simp
  ·split
   ·simp
   ·split
    ·refine ⟨fun r hr=>?_,?_⟩
     ·rcases List.mem_cons.1 hr with rfl | hr
      ·rw [List.length_take]; omega
      ·exact h1 r hr
     ·simp only [List.length_drop] at h2
      simp only [List.length_cons]; omega
    ·simp
theorem recsOf_small (ws:List Int):(∀ r∈recsOf ws,r.length≤4)∧(recsOf ws).length≤32:=by
 unfold recsOf scanS
 obtain ⟨h1,h2⟩:=scanL_small 32 ((sectorW ws (liveS ws)).drop 1)
 refine ⟨h1,Nat.le_trans h2 ?_⟩
 unfold sectorW slc
 simp; omega
/- what the log looks at -/
theorem genOf_alike {xs ws:List Int} {s:Nat} (h:xs.getD (32*s) 0=ws.getD (32*s) 0):genOf xs s=genOf ws s:=by unfold genOf; rw [h]
theorem scanS_alike {xs ws:List Int} {s:Nat} (hl:xs.length=ws.length) (h:∀ i,32*s≤i→i<32*s+32→xs.getD i 0=ws.getD i 0):scanS xs s=scanS ws s:=by
 unfold scanS sectorW
 rw [slc_alike _ _ hl h]
theorem log_alike {xs ws:List Int} (hl:xs.length=ws.length) (h:∀ i,i<64→xs.getD i 0=ws.getD i 0):liveS xs=liveS ws∧liveG xs=liveG ws∧recsOf xs=recsOf ws:=by
 have e0:genOf xs 0=genOf ws 0:=genOf_alike (h 0 (by omega))
 have e1:genOf xs 1=genOf ws 1:=genOf_alike (h 32 (by omega))
 have es:liveS xs=liveS ws:=by unfold liveS; rw [e0,e1]
 have hs:=liveS_le ws
 refine ⟨es,?_,?_⟩
 ·unfold liveG; rw [es]
  have:liveS ws=0∨liveS ws=1:=by omega
  rcases this with h | h
  ·rw [h,e0]
  ·rw [h,e1]
 ·unfold recsOf; rw [es,scanS_alike hl (fun i h1 h2=>h i (by omega))]
theorem checkLog_mk {ws:List Int} {fu:Int} (h1:okLen ws.length=true) (h2:-1≤fu) (h3:fu≤100000) (h4:okWords ws=true) (h5:64≤ws.length) (h6:0<liveG ws) (h7:liveG ws≤60000):checkLog ⟨ws,fu⟩=0:=by
 unfold checkLog
 rw [if_pos (checkFlash_mk h1 h2 h3 h4),if_pos h5,if_pos ⟨h6,h7⟩]
theorem checkLog_is (f:Flash):checkLog f=0∨checkLog f=3∨checkLog f=4∨checkLog f=5:=by
 have:=checkFlash_is f
 unfold checkLog
 split
 ·split
  ·split
   ·exact .inl rfl
   ·exact .inr (.inr (.inr rfl))
  ·exact .inr (.inr (.inl rfl))
 ·omega
theorem gather_ok:∀ (rs:List (List Int)) (n:Nat),n≤31→gather n rs=0→n+(allW rs).length≤31∧∀ k∈rs,checkRec k=0
 | [],n,hn,_=>by simp [allW]; omega
 | k::rs,n,hn,h=>by
  simp only [gather] at h
  by_cases c:checkRec k=0
  ·rw [if_pos c] at h
   by_cases c2:n+1+k.length≤31
   ·rw [if_pos c2] at h
    obtain ⟨h1,h2⟩:=gather_ok rs _ c2 h
    have el:(allW (k::rs)).length=k.length+1+(allW rs).length:=by simp [allW,recW]; omega
    refine ⟨by omega,fun r hr=>?_⟩
    rcases List.mem_cons.1 hr with rfl | hr
    ·exact c
    ·exact h2 r hr
   ·rw [if_neg c2] at h; cases h
  ·rw [if_neg c] at h; exact absurd h c
theorem allW_ok {rs:List (List Int)} (h:∀ k∈rs,checkRec k=0):okWords (allW rs)=true:=by
 unfold okWords allW
 rw [List.all_flatMap]
 refine List.all_eq_true.2 fun k hk=>?_
 obtain ⟨h1,h2,h3⟩:=checkRec_ok (h k hk)
 unfold recW
 rw [List.all_cons]
 unfold okWords at h3
 rw [h3]
 simp only [okWord,Bool.and_true,Bool.and_eq_true,decide_eq_true_eq]; omega
end Vm
end Go.Proofs.YtlbppjmekiemiacGreatDoor

/- Plain laws: what appending leaves, wherever the power goes. No condition. -/
namespace Go.Proofs.YtlbppjmekiemiacGreatDoor
namespace Vm

def tailS (ws:List Int) (s:Nat):List Int:=(sectorW ws s).drop 1
theorem tailS_len {ws:List Int} {s:Nat} (h:32*s+32≤ws.length):(tailS ws s).length=31:=by
 unfold tailS sectorW
 rw [List.length_drop,slc_len _ _ _ h]
theorem drop_getD (l:List Int) (a i:Nat):(l.drop a).getD i 0=l.getD (a+i) 0:=by simp [List.getD_eq_getElem?_getD,List.getElem?_drop]
theorem tailS_getD (ws:List Int) (s i:Nat) (hi:i<31):(tailS ws s).getD i 0=ws.getD (32*s+1+i) 0:=by
 unfold tailS sectorW
 rw [drop_getD,slc_getD _ _ _ _ (by omega)]
 congr 1; omega
theorem clean_getD {l:List Int} (h:allClean l=true) (i:Nat) (hi:i<l.length):l.getD i 0=65535:=by
 have:=List.all_eq_true.1 h (l[i]) (List.getElem_mem hi)
 simpa [List.getD_eq_getElem?_getD,hi] using this
theorem clean_of {l:List Int} (h:∀ i,i<l.length→l.getD i 0=65535):allClean l=true:=by
 refine List.all_eq_true.2 fun w hw=>?_
 obtain ⟨i,hi,rfl⟩:=List.getElem_of_mem hw
 simpa [List.getD_eq_getElem?_getD,hi] using h i hi
theorem getD_append (a b:List Int) (i:Nat):(a++b).getD i 0=if i<a.length then a.getD i 0 else b.getD (i-a.length) 0:=by
 simp only [List.getD_eq_getElem?_getD,List.getElem?_append]
 split<;>rfl
theorem live_same {g ws:List Int} (h0:genOf g 0=genOf ws 0) (h1:genOf g 1=genOf ws 1):liveS g=liveS ws∧liveG g=liveG ws:=by
 have es:liveS g=liveS ws:=by unfold liveS; rw [h0,h1]
 have hs:=liveS_le ws
 refine ⟨es,?_⟩
 unfold liveG; rw [es]
 have:liveS ws=0∨liveS ws=1:=by omega
 rcases this with h | h
 ·rw [h,h0]
 ·rw [h,h1]
theorem here_recs {ws r:List Int} {a:Nat} (hl:64≤ws.length) (hr1:1≤r.length) (hr2:r.length≤4) (hro:okWords r=true) (hsc:(scanS ws (liveS ws)).2=some a) (ha:a+r.length≤30) (k:Nat) (hk:k≤r.length+1) :
  within 1 64 (hereCh (liveS ws) a r)=true∧liveG (applyCh ws ((hereCh (liveS ws) a r).take k))=liveG ws ∧
  (k≤r.length→recsOf (applyCh ws ((hereCh (liveS ws) a r).take k))=recsOf ws)∧(k=r.length+1→recsOf (applyCh ws ((hereCh (liveS ws) a r).take k))=recsOf ws++[r]):=by
 have hs:=liveS_le ws
 unfold recsOf
 obtain ⟨s,hss⟩:∃ s,liveS ws=s:=⟨_,rfl⟩
 rw [hss] at hsc hs ⊢
 have hl2:32*s+32≤ws.length:=by omega
 obtain ⟨p,hp⟩:∃ p,32*s+1+a=p:=⟨_,rfl⟩
 have hch:hereCh s a r=burnCh ((p:Int)+1) r++burnCh (p:Int) [42240+(r.length:Int)]:=by unfold hereCh; rw [hp]
 have hw:within (p:Nat) ((32*s+32:Nat):Int) (hereCh s a r)=true:=by
  rw [hch]
  exact within_append (within_burn _ _ _ _ (by omega) (by omega)) (within_burn _ _ _ _ (by omega) (by simp only [List.length_cons,List.length_nil]; omega))
 obtain ⟨g,hg⟩:∃ g,applyCh ws ((hereCh s a r).take k)=g:=⟨_,rfl⟩
 have gl:g.length=ws.length:=hg ▸ applyCh_len _ _
 have gout:∀ i,i<p∨32*s+32≤i→g.getD i 0=ws.getD i 0:=fun i hi=>by
  rw [← hg]; exact applyCh_out (by omega) _ _ (within_take hw k) i (by omega)
 have g0:genOf g 0=genOf ws 0:=genOf_alike (gout _ (by omega))
 have g1:genOf g 1=genOf ws 1:=genOf_alike (gout _ (by omega))
 obtain ⟨e1,e2⟩:=live_same g0 g1
 rw [hg,e1,hss]
 refine ⟨?_,e2,?_⟩
 ·unfold within at hw ⊢
  refine List.all_eq_true.2 fun c hc=>?_
  have:=List.all_eq_true.1 hw c hc
  simp only [Bool.and_eq_true,decide_eq_true_eq] at this ⊢
  omega
 have tl:=tailS_len hl2
 have tlg:=tailS_len (ws:=g) (s:=s) (by omega)
 have td:∀ i,i<31→(tailS g s).getD i 0=g.getD (32*s+1+i) 0:=tailS_getD g s
 have pl:((tailS ws s).take a).length=a:=by rw [List.length_take]; omega
 have sp:=scanL_pre 32 ((tailS ws s).take a) ((tailS ws s).drop a) ((tailS g s).drop a) (by rw [List.take_append_drop,pl]; exact hsc) (by simp; omega) (by simp; omega)
 have epre:(tailS g s).take a=(tailS ws s).take a:=by
  refine ext_getD (by simp; omega) fun i hi=>?_
  have hi:i<a:=by simp at hi; omega
  have e:∀ l:List Int,(l.take a).getD i 0=l.getD i 0:=fun l=>by simp only [List.getD_eq_getElem?_getD]; rw [List.getElem?_take_of_lt hi]
  rw [e,e,td i (by omega),tailS_getD ws s i (by omega),gout _ (by omega)]
 have hscg:scanS g s=scanL 32 ((tailS ws s).take a++(tailS g s).drop a):=by
  rw [← epre,List.take_append_drop]; rfl
 have hscw:(scanS ws s).1=(scanL 32 ((tailS ws s).take a++(tailS ws s).drop a)).1:=by rw [List.take_append_drop]; rfl
 have clean:=sp.2
 have wclean:∀ i,p≤i→i<32*s+32→ws.getD i 0=65535:=fun i h1 h2=>by
  have:=clean_getD clean (i-p) (by simp; omega)
  rw [drop_getD,tailS_getD _ _ _ (by omega)] at this
  rw [show 32*s+1+(a+(i-p))=i by omega] at this
  exact this
 rw [hscg,sp.1,← hscw]
 refine ⟨fun hk1=>?_,fun hk1=>?_⟩
 ·have eg:g=applyCh ws (burnCh ((p:Int)+1) (r.take k)):=by
   rw [← hg,hch,List.take_append_of_le_length (by rw [burnCh_len]; exact hk1),burnCh_take]
  have hx:((tailS g s).drop a)=65535::(tailS g s).drop (a+1):=by
   rw [drop_step (by omega) 0]
   congr 1
   show (tailS g s).getD a 0=_
   rw [td a (by omega),eg,applyCh_out (a:=(p:Int)+1) (b:=200) (by omega) _ _ (within_burn _ _ _ _ (by omega) (by rw [List.length_take]; omega)) _ (by omega)]
   exact wclean _ (by omega) (by omega)
  rw [hx]
  simp [scanL]
 ·have eg:g=applyCh (applyCh ws (burnCh ((p:Int)+1) r)) (burnCh (p:Int) [42240+(r.length:Int)]):=by
   rw [← hg,hch,List.take_of_length_le (by rw [List.length_append,burnCh_len,burnCh_len]; simp; omega),applyCh_append]
  have b1:=burn_at r ((p:Int)+1) ws (by omega) (by omega)
  have b2:=burn_at [42240+(r.length:Int)] (p:Int) (applyCh ws (burnCh ((p:Int)+1) r)) (by omega) (by rw [applyCh_len]; simp only [List.length_cons,List.length_nil]; omega)
  simp only [List.length_cons,List.length_nil] at b2
  have hgd:∀ i,p≤i→i<32*s+32→g.getD i 0=if i=p then 42240+(r.length:Int) else if i<p+1+r.length then r.getD (i-(p+1)) 0 else 65535:=fun i h1 h2=>by
   rw [eg,b2]
   by_cases c:i=p
   ·rw [if_pos (by omega),if_pos c,b1,if_neg (by omega),wclean i h1 h2]
    rw [show i-Int.toNat (p:Int)=0 by omega,List.getD_cons_zero,andi_all (by simp only [okWord,Bool.and_eq_true,decide_eq_true_eq]; omega)]
   ·rw [if_neg (by omega),if_neg c,b1]
    by_cases c2:i<p+1+r.length
    ·rw [if_pos (by omega),if_pos c2,wclean i h1 h2,show ((p:Int)+1).toNat=p+1 by omega,andi_all (okWords_at hro _ (by omega))]
    ·rw [if_neg (by omega),if_neg c2,wclean i h1 h2]
  have hx:(tailS g s).drop a=allW [r]++(tailS g s).drop (a+1+r.length):=by
   have la:(allW [r]).length=r.length+1:=by simp [allW,recW]
   refine ext_getD (by simp [la]; omega) fun i hi=>?_
   have hi:a+i<31:=by simp at hi; omega
   rw [drop_getD,td _ hi,getD_append,la]
   have e:allW [r]=(42240+(r.length:Int))::r:=by simp [allW,recW]
   by_cases c:i<r.length+1
   ·rw [if_pos c,hgd _ (by omega) (by omega),e]
    by_cases c2:i=0
    ·subst c2; rw [if_pos (by omega)]; rfl
    ·rw [if_neg (by omega),if_pos (by omega)]
     obtain ⟨j,rfl⟩:∃ j,i=j+1:=⟨i-1,by omega⟩
     rw [List.getD_cons_succ]; congr 1; omega
   ·rw [if_neg c,drop_getD,td _ (by omega)]; congr 1; omega
  rw [hx,scanL_recs [r] 32 _ (by simp; omega) (by rw [← hx]; simp; omega) (clean_of fun i hi=>by
   have hi:a+1+r.length+i<31:=by simp at hi; omega
   rw [drop_getD,td _ hi,hgd _ (by omega) (by omega),if_neg (by omega),if_neg (by omega)])]
set_option maxHeartbeats 2000000 in
theorem there_recs {ws:List Int} {rs:List (List Int)} (hl:64≤ws.length) (hok:okWords ws=true) (hg0:0<liveG ws) (hg1:liveG ws<60000) (hrs:∀ k∈rs,checkRec k=0) (hal:(allW rs).length≤31) (k:Nat) (hk:k≤33+(allW rs).length) :
  within 0 64 (thereCh (1-liveS ws) rs (liveG ws+1))=true∧0<liveG (applyCh ws ((thereCh (1-liveS ws) rs (liveG ws+1)).take k))∧liveG (applyCh ws ((thereCh (1-liveS ws) rs (liveG ws+1)).take k))≤liveG ws+1 ∧
  (k<33+(allW rs).length→recsOf (applyCh ws ((thereCh (1-liveS ws) rs (liveG ws+1)).take k))=recsOf ws) ∧
  (k=33+(allW rs).length→recsOf (applyCh ws ((thereCh (1-liveS ws) rs (liveG ws+1)).take k))=rs):=by
 have hs:=liveS_le ws
 have hgr:=genOf_range hok (liveS ws)
 have hgo:=genOf_range hok (1-liveS ws)
 have hlg:liveG ws=genOf ws (liveS ws):=rfl
 have hls:liveS ws=if genOf ws 0<genOf ws 1 then 1 else 0:=rfl
 unfold recsOf
 obtain ⟨s,hss⟩:∃ s,liveS ws=s:=⟨_,rfl⟩
 rw [hss] at hs hgr hgo hlg hls ⊢
 obtain ⟨gn,hgn⟩:∃ gn,liveG ws=gn:=⟨_,rfl⟩
 rw [hgn] at hg0 hg1 hlg ⊢
 obtain ⟨o,ho⟩:∃ o,1-s=o:=⟨_,rfl⟩
 rw [ho] at hgo ⊢
 have ho1:o≤1∧o+s=1:=by omega
 have hl2:32*o+32≤ws.length:=by omega
 have hch:thereCh o rs (gn+1)=(⟨32*(o:Int),none⟩::(wipeFrom (32*(o:Int)+1) 31++burnCh (32*(o:Int)+1) (allW rs)))++burnCh (32*(o:Int)) [gn+1]:=rfl
 have hmid:within (32*(o:Int)+1) (32*(o:Int)+32) (wipeFrom (32*(o:Int)+1) 31++burnCh (32*(o:Int)+1) (allW rs))=true :=
  within_append (within_wipe _ _ _ _ (by omega) (by omega)) (within_burn _ _ _ _ (by omega) (by omega))
 have hw:within (32*o:Nat) ((32*o+32:Nat):Int) (thereCh o rs (gn+1))=true:=by
  unfold thereCh wipeCh
  exact within_append (within_append (within_wipe _ _ _ _ (by omega) (by omega)) (within_burn _ _ _ _ (by omega) (by omega))) (within_burn _ _ _ _ (by omega) (by simp only [List.length_cons,List.length_nil]; omega))
 have lmid:(wipeFrom (32*(o:Int)+1) 31++burnCh (32*(o:Int)+1) (allW rs)).length=31+(allW rs).length:=by rw [List.length_append,wipeFrom_len,burnCh_len]
 obtain ⟨mid,hmd⟩:∃ mid,wipeFrom (32*(o:Int)+1) 31++burnCh (32*(o:Int)+1) (allW rs)=mid:=⟨_,rfl⟩
 obtain ⟨g,hg⟩:∃ g,applyCh ws ((thereCh o rs (gn+1)).take k)=g:=⟨_,rfl⟩
 have gl:g.length=ws.length:=hg ▸ applyCh_len _ _
 have gout:∀ i,i<32*o∨32*o+32≤i→g.getD i 0=ws.getD i 0:=fun i hi=>by
  rw [← hg]; exact applyCh_out (by omega) _ _ (within_take hw k) i (by omega)
 have gs:genOf g s=genOf ws s:=genOf_alike (gout _ (by omega))
 have sso:s=0∧o=1∨s=1∧o=0:=by omega
 rw [hg]
 have w64':within 0 64 (thereCh o rs (gn+1))=true:=by
  unfold within at hw ⊢
  refine List.all_eq_true.2 fun c hc=>?_
  have:=List.all_eq_true.1 hw c hc
  simp only [Bool.and_eq_true,decide_eq_true_eq] at this ⊢
  omega
 have part:k<33+(allW rs).length→genOf g o≤genOf ws o∧(genOf g o=genOf ws o∨genOf g o=0):=fun hk2=>by
  match k,hk2 with
  | 0,_ =>
   have:g=ws:=by rw [← hg]; rfl
   rw [this]; exact ⟨Int.le_refl _,.inl rfl⟩
  | k+1,hk2 =>
   have eg:g=applyCh (ws.set (32*o) 65535) (mid.take k):=by
    rw [← hg,hch,hmd,List.take_append_of_le_length (by rw [List.length_cons,← hmd,lmid]; omega),List.take_succ_cons,applyCh_cons]
    rfl
   have e0:g.getD (32*o) 0=65535:=by
    rw [eg,applyCh_out (a:=32*(o:Int)+1) (b:=32*(o:Int)+32) (by omega) _ _ (within_take (hmd ▸ hmid) k) _ (by omega),set_getD,if_pos ⟨rfl,by omega⟩]
   have:genOf g o=0:=by unfold genOf; rw [if_pos e0]
   rw [this]; exact ⟨hgo.1,.inr rfl⟩
 have whole:k=33+(allW rs).length→liveS g=o∧liveG g=gn+1∧(scanS g o).1=rs:=fun hk2=>by
  have eg:g=applyCh (applyCh (applyCh ws (wipeFrom (32*(o:Int)) 32)) (burnCh (32*(o:Int)+1) (allW rs))) (burnCh (32*(o:Int)) [gn+1]):=by
   rw [← hg,List.take_of_length_le (by rw [hch,hmd,List.length_append,List.length_cons,← hmd,lmid,burnCh_len]; simp; omega)]
   unfold thereCh wipeCh
   rw [applyCh_append,applyCh_append]
  have l1:(applyCh ws (wipeFrom (32*(o:Int)) 32)).length=ws.length:=applyCh_len _ _
  have l2:(applyCh (applyCh ws (wipeFrom (32*(o:Int)) 32)) (burnCh (32*(o:Int)+1) (allW rs))).length=ws.length:=(applyCh_len _ _).trans l1
  have b1:=wipe_at 32 (32*(o:Int)) ws (by omega) (by omega)
  have b2:=burn_at (allW rs) (32*(o:Int)+1) (applyCh ws (wipeFrom (32*(o:Int)) 32)) (by omega) (by omega)
  have b3:=burn_at [gn+1] (32*(o:Int)) (applyCh (applyCh ws (wipeFrom (32*(o:Int)) 32)) (burnCh (32*(o:Int)+1) (allW rs))) (by omega) (by simp only [List.length_cons,List.length_nil]; omega)
  simp only [List.length_cons,List.length_nil] at b3
  have aok:=allW_ok hrs
  have hgd:∀ i,32*o≤i→i<32*o+32→g.getD i 0=if i=32*o then gn+1 else if i<32*o+1+(allW rs).length then (allW rs).getD (i-(32*o+1)) 0 else 65535:=fun i h1 h2=>by
   rw [eg,b3]
   by_cases c:i=32*o
   ·rw [if_pos (by omega),if_pos c,b2,if_neg (by omega),b1,if_pos (by omega)]
    rw [show i-Int.toNat (32*(o:Int))=0 by omega,List.getD_cons_zero,andi_all (by simp only [okWord,Bool.and_eq_true,decide_eq_true_eq]; omega)]
   ·rw [if_neg (by omega),if_neg c,b2]
    by_cases c2:i<32*o+1+(allW rs).length
    ·rw [if_pos (by omega),if_pos c2,b1,if_pos (by omega),show (32*(o:Int)+1).toNat=32*o+1 by omega,andi_all (okWords_at aok _ (by omega))]
    ·rw [if_neg (by omega),if_neg c2,b1,if_pos (by omega)]
  have e0:genOf g o=gn+1:=by
   unfold genOf
   rw [hgd _ (by omega) (by omega),if_pos rfl,if_neg (by omega)]
  have es:liveS g=o:=by
   unfold liveS
   rcases sso with ⟨rfl,rfl⟩ | ⟨rfl,rfl⟩
   ·rw [if_pos (by omega)]
   ·rw [if_neg (by omega)]
  refine ⟨es,by unfold liveG; rw [es,e0],?_⟩
  have tlg:=tailS_len (ws:=g) (s:=o) (by omega)
  have td:∀ i,i<31→(tailS g o).getD i 0=g.getD (32*o+1+i) 0:=tailS_getD g o
  have hx:tailS g o=allW rs++(tailS g o).drop (allW rs).length:=by
   refine ext_getD (by simp; omega) fun i hi=>?_
   rw [tlg] at hi
   rw [getD_append]
   by_cases c:i<(allW rs).length
   ·rw [if_pos c,td _ hi,hgd _ (by omega) (by omega),if_neg (by omega),if_pos (by omega),show 32*o+1+i-(32*o+1)=i by omega]
   ·rw [if_neg c,drop_getD,show (allW rs).length+(i-(allW rs).length)=i by omega]
  show (scanL 32 (tailS g o)).1=rs
  rw [hx,scanL_recs rs 32 _ (fun k hk=>⟨(checkRec_ok (hrs k hk)).1,(checkRec_ok (hrs k hk)).2.1⟩) (by rw [← hx]; omega) (clean_of fun i hi=>by
   have hi:(allW rs).length+i<31:=by simp at hi; omega
   rw [drop_getD,td _ hi,hgd _ (by omega) (by omega),if_neg (by omega),if_neg (by omega)])]
 by_cases hk2:k=33+(allW rs).length
 ·obtain ⟨q1,q2,q3⟩:=whole hk2
  rw [q2,q1]
  exact ⟨w64',by omega,by omega,fun h=>absurd hk2 (by omega),fun _=>q3⟩
 ·obtain ⟨q1,q2⟩:=part (by omega)
  have es:liveS g=s∧liveG g=gn:=by
   have e:liveS g=s:=by
    unfold liveS
    rcases sso with ⟨rfl,rfl⟩ | ⟨rfl,rfl⟩
    ·rw [if_neg]
     by_cases c:genOf ws 0<genOf ws 1
     ·rw [if_pos c] at hls; omega
     ·omega
    ·rw [if_pos]
     by_cases c:genOf ws 0<genOf ws 1
     ·omega
     ·rw [if_neg c] at hls; omega
   refine ⟨e,by unfold liveG; rw [e,gs]; exact hlg.symm⟩
  rw [es.1,es.2]
  refine ⟨w64',by omega,by omega,fun _=>?_,fun h=>absurd h hk2⟩
  rw [scanS_alike gl (fun i h1 h2=>gout i (by omega))]
end Vm
end Go.Proofs.YtlbppjmekiemiacGreatDoor

/- Plain laws: appending, joined. No condition. -/
namespace Go.Proofs.YtlbppjmekiemiacGreatDoor
namespace Vm

theorem appendE_ok {f:Flash} {r:List Int} {keep:List (List Int)} (h:appendE f r keep=0):checkLog f=0∧checkRec r=0∧gather 0 (keep++[r])=0:=by
 unfold appendE at h
 split at h
 ·rename_i h1
  split at h
  ·rename_i h2; exact ⟨h1,h2,h⟩
  ·exact absurd h ‹_›
 ·exact absurd h ‹_›
theorem gather_is:∀ (rs:List (List Int)) (n:Nat),gather n rs=0∨gather n rs=2∨gather n rs=3∨gather n rs=8
 | [],_=>.inl rfl
 | k::rs,n=>by
  simp only [gather]
  split
  ·split
   ·exact gather_is rs _
   ·exact .inr (.inr (.inr rfl))
  ·unfold checkRec
   split
   ·split
    ·exact .inl rfl
    ·exact .inr (.inr (.inl rfl))
   ·exact .inr (.inl rfl)
theorem appendE_is (f:Flash) (r:List Int) (keep:List (List Int)) (h:checkLog f=0):appendE f r keep=0∨appendE f r keep=2∨appendE f r keep=3∨appendE f r keep=8:=by
 unfold appendE
 rw [if_pos h]
 by_cases c:checkRec r=0
 ·rw [if_pos c]; exact gather_is _ _
 ·rw [if_neg c]
  unfold checkRec at c ⊢
  split
  ·split
   ·exact .inl rfl
   ·exact .inr (.inr (.inl rfl))
  ·exact .inr (.inl rfl)
theorem appendE_not (f:Flash) (r:List Int) (keep:List (List Int)):appendE f r keep≠7:=by
 by_cases h:checkLog f=0
 ·have:=appendE_is f r keep h; omega
 ·unfold appendE
  rw [if_neg h]
  have:=checkLog_is f; omega
theorem appendF_inv {f:Flash} {r:List Int} {keep:List (List Int)} (h:(appendF f r keep).2=0∨(appendF f r keep).2=7) :
  ∃ cs,appendE f r keep=0∧appendCh f.words r keep=some cs∧appendF f r keep=power (doCh f cs):=by
 unfold appendF at h ⊢
 by_cases c:appendE f r keep=0
 ·rw [if_pos c] at h ⊢
  cases hc:appendCh f.words r keep with
  | none=>rw [hc] at h; simp at h
  | some cs=>exact ⟨cs,c,rfl,rfl⟩
 ·rw [if_neg c] at h
  have:=appendE_not f r keep
  simp only at h
  omega
theorem append_recs {ws:List Int} {fu:Int} {r:List Int} {keep:List (List Int)} {cs:List Change} (hE:appendE ⟨ws,fu⟩ r keep=0) (hC:appendCh ws r keep=some cs) :
  2≤cs.length∧cs.length≤64∧cs.all chOk=true∧within 0 64 cs=true∧∀ k,k≤cs.length →
   0<liveG (applyCh ws (cs.take k))∧(liveG (applyCh ws (cs.take k))≤60000∧liveG (applyCh ws (cs.take k))≤liveG ws+1)∧(k<cs.length→recsOf (applyCh ws (cs.take k))=recsOf ws) ∧
   (k=cs.length→recsOf (applyCh ws (cs.take k))=recsOf ws++[r]∨recsOf (applyCh ws (cs.take k))=keep++[r]):=by
 obtain ⟨e1,e2,e3⟩:=appendE_ok hE
 obtain ⟨k1,k2,k3,k4⟩:=checkLog_ok e1
 obtain ⟨c1,_,_,c4⟩:=checkFlash_ok k1
 obtain ⟨r1,r2,r3⟩:=checkRec_ok e2
 obtain ⟨g1,g2⟩:=gather_ok _ 0 (by omega) e3
 simp only at k2 k3 k4 c4
 unfold appendCh at hC
 by_cases hr:room r.length (scanS ws (liveS ws)).2=true
 ·rw [if_pos hr] at hC
  cases hsc:(scanS ws (liveS ws)).2 with
  | none=>rw [hsc] at hr; cases hr
  | some a =>
   rw [hsc] at hr hC
   simp only [room,decide_eq_true_eq] at hr
   simp only [Option.getD_some,Option.some.injEq] at hC
   have hl:cs.length=r.length+1:=by rw [← hC]; unfold hereCh; rw [List.length_append,burnCh_len,burnCh_len]; rfl
   refine ⟨by omega,by omega,?_,?_,fun k hk=>?_⟩
   ·rw [← hC]; unfold hereCh
    rw [List.all_append,burn_chOk _ _ r3,burn_chOk]
    ·rfl
    ·simp only [okWords,okWord,List.all_cons,List.all_nil,Bool.and_true,Bool.and_eq_true,decide_eq_true_eq]; omega
   ·have:=(here_recs k2 r1 r2 r3 hsc hr 0 (by omega)).1
    rw [hC] at this
    unfold within at this ⊢
    refine List.all_eq_true.2 fun c hc=>?_
    have:=List.all_eq_true.1 this c hc
    simp only [Bool.and_eq_true,decide_eq_true_eq] at this ⊢
    omega
   ·obtain ⟨_,q2,q3,q4⟩:=here_recs k2 r1 r2 r3 hsc hr k (by omega)
    rw [hC] at q2 q3 q4
    exact ⟨by omega,⟨by omega,by omega⟩,fun h=>q3 (by omega),fun h=>.inl (q4 (by omega))⟩
 ·rw [if_neg hr] at hC
  by_cases hg:liveG ws=60000
  ·rw [if_pos hg] at hC; cases hC
  rw [if_neg hg] at hC
  simp only [Option.some.injEq] at hC
  have hl:cs.length=33+(allW (keep++[r])).length:=by rw [← hC]; unfold thereCh wipeCh; rw [List.length_append,List.length_append,wipeFrom_len,burnCh_len,burnCh_len,List.length_singleton]; omega
  have key:=fun k hk=>there_recs (rs:=keep++[r]) k2 c4 k3 (by omega) g2 (by omega) k hk
  rw [hC] at key
  have gr:=genOf_range c4 (liveS ws)
  have gg:liveG ws=genOf ws (liveS ws):=rfl
  refine ⟨by omega,by omega,?_,(key 0 (by omega)).1,fun k hk=>?_⟩
  ·rw [← hC]; unfold thereCh wipeCh
   rw [List.all_append,List.all_append,wipe_chOk,burn_chOk _ _ (allW_ok g2),burn_chOk]
   ·rfl
   ·simp only [okWords,okWord,List.all_cons,List.all_nil,Bool.and_true,Bool.and_eq_true,decide_eq_true_eq]; omega
  ·obtain ⟨_,q1,q2,q3,q4⟩:=key k (by omega)
   exact ⟨q1,⟨by omega,q2⟩,fun h=>q3 (by omega),fun h=>.inr (q4 (by omega))⟩
theorem append_end {ws:List Int} {fu:Int} {r:List Int} {keep:List (List Int)} {cs:List Change} (hE:appendE ⟨ws,fu⟩ r keep=0) (hC:appendCh ws r keep=some cs) {fv:Int} (hf1:-1≤fv) (hf2:fv≤100000) :
  checkLog ⟨(doCh ⟨ws,fu⟩ cs).1.words,fv⟩=0∧(doCh ⟨ws,fu⟩ cs).1.words.length=ws.length∧(∀ i,64≤i→(doCh ⟨ws,fu⟩ cs).1.words.getD i 0=ws.getD i 0) ∧
  (recsOf (doCh ⟨ws,fu⟩ cs).1.words=recsOf ws++[r]∨recsOf (doCh ⟨ws,fu⟩ cs).1.words=keep++[r]∨((doCh ⟨ws,fu⟩ cs).2=false∧recsOf (doCh ⟨ws,fu⟩ cs).1.words=recsOf ws)):=by
 obtain ⟨e1,e2,e3⟩:=appendE_ok hE
 obtain ⟨k1,k2,k3,k4⟩:=checkLog_ok e1
 obtain ⟨c1,_,_,c4⟩:=checkFlash_ok k1
 obtain ⟨q1,q2,q3,q4,q5⟩:=append_recs hE hC
 have hl:=doCh_len ⟨ws,fu⟩ cs
 have ho:=fun i hi=>doCh_out (a:=0) (b:=64) (by omega) ⟨ws,fu⟩ cs q4 i hi
 obtain ⟨k,h1,h2,h3⟩:=doCh_take ⟨ws,fu⟩ cs
 simp only at k2 c1 c4 hl ho h2
 obtain ⟨p1,p2,p3,p4⟩:=q5 k h1
 have hok:okWords (doCh ⟨ws,fu⟩ cs).1.words=true:=by rw [h2]; exact applyCh_ok _ _ c4 (all_take q3 k)
 rw [← h2] at p1 p2 p3 p4
 refine ⟨checkLog_mk (by rw [hl]; exact c1) hf1 hf2 hok (by omega) p1 p2.1,hl,fun i hi=>ho i (by omega),?_⟩
 by_cases c:k=cs.length
 ·rcases p4 c with h | h
  ·exact .inl h
  ·exact .inr (.inl h)
 ·refine .inr (.inr ⟨?_,p3 (by omega)⟩)
  cases hd:(doCh ⟨ws,fu⟩ cs).2
  ·rfl
  ·exact absurd (h3 hd) c
theorem recordsF_ok {f:Flash} (h:checkLog f=0):recordsF f=(recsOf f.words,0):=by unfold recordsF; rw [if_pos h]
end Vm
end Go.Proofs.YtlbppjmekiemiacGreatDoor

/- Plain answers: texts. No condition. -/
namespace Go.Proofs.YtlbppjmekiemiacGreatDoor
namespace Vm

def digs:Nat→Nat→List UInt8
 | 0,_=>[]
 | f+1,u=>if u<10 then [UInt8.ofNat (48+u)] else digs f (u / 10)++[UInt8.ofNat (48+u % 10)]
def numT (n:Int):List UInt8:=digs 20 n.toNat
theorem digs_eq:∀ (f u:Nat),u<10 ^ f→0<f→Go.Lib.decDigits u=digs f u
 | 0,_,_,h=>absurd h (by omega)
 | f+1,u,hu,_=>by
  rw [Go.Lib.decDigits]
  by_cases c:u<10
  ·rw [dif_pos c]; simp [digs,c]
  ·rw [dif_neg c]
   have h1:u / 10<10 ^ f:=by
    rw [Nat.pow_succ] at hu
    exact Nat.div_lt_of_lt_mul (by omega)
   have h2:0<f:=by
    cases f with
    | zero=>simp at h1; omega
    | succ f=>omega
   rw [digs_eq f (u / 10) h1 h2]
   simp [digs,c]
theorem itoa_eq {n:Int} (h0:0≤n) (h1:n≤9223372036854775807):Go.Lib.itoa n=numT n:=by
 unfold Go.Lib.itoa numT
 rw [if_neg (by omega)]
 exact digs_eq 20 _ (by omega) (by omega)
def joinT (sep:List UInt8):List (List UInt8)→List UInt8
 | []=>[]
 | x::xs=>match xs with
  | []=>x
  | _::_=>x++sep++joinT sep xs
theorem join_eq (sep:List UInt8):∀ xs,Go.Lib.join xs sep=joinT sep xs
 | []=>rfl
 | [x]=>by simp [Go.Lib.join,List.intercalate,joinT]
 | x::y::xs=>by
  have:=join_eq sep (y::xs)
  simp only [Go.Lib.join,List.intercalate,joinT] at this ⊢
  rw [← this]
  simp [List.intersperse]
def indexFrom (k:Int) (s:List UInt8):List (List UInt8)→Int
 | []=>-1
 | x::r=>if x=s then k else indexFrom (k+1) s r
def indexS (s:List UInt8) (l:List (List UInt8)):Int:=indexFrom 0 s l
def hasS (s:List UInt8) (l:List (List UInt8)):Bool:=l.any fun x=>decide (x=s)
def bookFrom (seen:List (List UInt8)):List (List UInt8)→Int
 | []=>0
 | s::r=>if 2000<s.length then 2 else if hasS s seen then 6 else bookFrom (seen++[s]) r
def checkBook (l:List (List UInt8)):Int:=if 60<l.length then 2 else bookFrom [] l
def nameB (l:List (List UInt8)) (s:List UInt8):Int × Int:=if checkBook l=0 then (indexS s l+1,0) else (0,checkBook l)
def nums (l:List Int):Bool:=l.all fun n=>decide (0≤n) && decide (n≤9223372036854775807)
def listT (l:List Int):List UInt8:=joinT [32] (l.map numT)
theorem digs_len:∀ f u,(digs f u).length≤f
 | 0,_=>by simp [digs]
 | f+1,u=>by
  simp only [digs]
  split
  ·simp
  ·have:=digs_len f (u / 10)
   simp; omega
theorem numT_len (n:Int):(numT n).length≤20:=digs_len _ _
theorem joinT_len (sep:List UInt8) (m:Nat):∀ xs:List (List UInt8),(∀ x∈xs,x.length≤m)→(joinT sep xs).length≤xs.length*(m+sep.length)
 | [],_=>by simp [joinT]
 | [x],h=>by have:=h x (by simp); simp [joinT]; omega
 | x::y::xs,h=>by
  have h1:=h x (by simp)
  have h2:=joinT_len sep m (y::xs) (fun z hz=>h z (by simp at hz ⊢; exact .inr hz))
  simp only [joinT,List.length_append,List.length_cons] at h2 ⊢
  rw [Nat.add_mul (xs.length+1) 1]
  omega
theorem listT_len (l:List Int):(listT l).length≤l.length*21:=by
 have:=joinT_len [32] 20 (l.map numT) (fun x hx=>by
  obtain ⟨n,_,rfl⟩:=List.mem_map.1 hx
  exact numT_len n)
 simpa [listT] using this
theorem indexFrom_range (s:List UInt8):∀ (l:List (List UInt8)) (k:Int),0≤k→indexFrom k s l=-1∨(k≤indexFrom k s l∧indexFrom k s l<k+(l.length:Nat))
 | [],_,_=>.inl rfl
 | x::r,k,hk=>by
  simp only [indexFrom]
  split
  ·exact .inr ⟨by omega,by simp only [List.length_cons]; omega⟩
  ·rcases indexFrom_range s r (k+1) (by omega) with h | h
   ·exact .inl h
   ·exact .inr ⟨by omega,by simp only [List.length_cons]; omega⟩
theorem indexS_has (s:List UInt8) (l:List (List UInt8)):decide (0≤indexS s l)=hasS s l:=by
 have key:∀ (l:List (List UInt8)) (k:Int),0≤k→decide (0≤indexFrom k s l)=hasS s l:=by
  intro l
  induction l with
  | nil=>intro k _; rfl
  | cons x r ih =>
   intro k hk
   have ih':=ih (k+1) (by omega)
   simp only [hasS,List.any_cons]
   by_cases c:x=s
   ·have e:indexFrom k s (x::r)=k:=if_pos c
    rw [show decide (0≤indexFrom k s (x::r))=true from decide_eq_true (by rw [e]; exact hk)]; simp [c]
   ·have e:indexFrom k s (x::r)=indexFrom (k+1) s r:=if_neg c
    rw [show decide (0≤indexFrom k s (x::r))=decide (0≤indexFrom (k+1) s r) from by simp only [e],ih']; simp [c,hasS]
 exact key l 0 (by omega)
def notBehind (last:Option Int) (k:Int):Bool:=match last with
 | some p=>decide (k≤p)
 | none=>false
def rootEnd (e t n:Int):Int:=if e=0 then (if t<1∨n<t then 4 else 0) else e
def keysFrom (last:Option Int):List Int→Int
 | []=>0
 | k::r=>if k<1∨50<k then 3 else if notBehind last k then 6 else keysFrom (some k) r
def checkRoot (v:Int) (ks:List Int) (t:Int):Int :=
 if v<1∨1000<v then 3 else if ks.length=0∨6<ks.length then 2 else rootEnd (keysFrom none ks) t ks.length
def okTarget (i:Int) (t:Target):Bool:=decide (t.unit=i) && decide (1≤t.image) && decide (t.image≤60) && decide (1≤t.long) && decide (t.long≤40)
def okTargets (i:Int):List Target→Bool
 | []=>true
 | t::r=>okTarget i t && okTargets (i+1) r
def checkRelease (v u:Int) (ts:List Target):Int :=
 if v<1∨1000<v∨u<0∨100000<u then 3 else if ts.length=0∨4<ts.length then 2 else if okTargets 0 ts then 0 else 3
def checkImage (w:List Int):Int:=if w.length=0∨40<w.length then 2 else if okWords w then 0 else 3
def rootText (v:Int) (ks:List Int) (t:Int):List UInt8:=[114,111,111,116,32]++numT v++[32]++numT t++[32,111,102,32]++listT ks
def targetT (t:Target):List UInt8:=[59,32]++listT [t.unit,t.image,t.long]
def targetsT (ts:List Target):List UInt8:=ts.flatMap targetT
def releaseText (v u:Int) (ts:List Target):List UInt8:=[114,101,108,101,97,115,101,32]++numT v++[32,117,110,116,105,108,32]++numT u++targetsT ts
def imageText (w:List Int):List UInt8:=[105,109,97,103,101,32]++listT w
def rootTextE (v:Int) (ks:List Int) (t:Int):List UInt8 × Int:=if checkRoot v ks t=0 then (rootText v ks t,0) else ([],checkRoot v ks t)
def releaseTextE (v u:Int) (ts:List Target):List UInt8 × Int:=if checkRelease v u ts=0 then (releaseText v u ts,0) else ([],checkRelease v u ts)
def imageTextE (w:List Int):List UInt8 × Int:=if checkImage w=0 then (imageText w,0) else ([],checkImage w)
def imageName (l:List (List UInt8)) (w:List Int):Int × Int:=if checkImage w=0 then nameB l (imageText w) else (0,checkImage w)
theorem keysFrom_ok:∀ (ks:List Int) (last:Option Int),keysFrom last ks=0→nums ks=true
 | [],_,_=>rfl
 | k::r,last,h=>by
  simp only [keysFrom] at h
  by_cases c:k<1∨50<k
  ·rw [if_pos c] at h; cases h
  ·rw [if_neg c] at h
   by_cases c2:notBehind last k=true
   ·rw [if_pos c2] at h; cases h
   ·rw [if_neg c2] at h
    have:=keysFrom_ok r _ h
    unfold nums at this ⊢
    simp only [List.all_cons,this,Bool.and_true,Bool.and_eq_true,decide_eq_true_eq]; omega
theorem checkRoot_ok {v:Int} {ks:List Int} {t:Int} (h:checkRoot v ks t=0):1≤v∧v≤1000∧1≤t∧t≤(ks.length:Int)∧ks.length≤6∧nums ks=true:=by
 unfold checkRoot at h
 by_cases c1:v<1∨1000<v
 ·rw [if_pos c1] at h; cases h
 rw [if_neg c1] at h
 by_cases c2:ks.length=0∨6<ks.length
 ·rw [if_pos c2] at h; cases h
 rw [if_neg c2] at h
 unfold rootEnd at h
 by_cases c3:keysFrom none ks=0
 ·rw [if_pos c3] at h
  by_cases c4:t<1∨(ks.length:Int)<t
  ·rw [if_pos c4] at h; cases h
  ·exact ⟨by omega,by omega,by omega,by omega,by omega,keysFrom_ok _ _ c3⟩
 ·rw [if_neg c3] at h; exact absurd h c3
theorem okTargets_ok:∀ (ts:List Target) (i:Int),okTargets i ts=true→0≤i→i+ts.length≤1000→∀ t∈ts,0≤t.unit∧t.unit≤1000∧0≤t.image∧t.image≤1000∧0≤t.long∧t.long≤1000
 | [],_,_,_,_,t,ht=>by simp at ht
 | x::r,i,h,h0,h1,t,ht=>by
  simp only [okTargets,Bool.and_eq_true] at h
  simp only [List.length_cons] at h1
  rcases List.mem_cons.1 ht with rfl | ht
  ·have:=h.1
   simp only [okTarget,Bool.and_eq_true,decide_eq_true_eq] at this
   omega
  ·exact okTargets_ok r (i+1) h.2 (by omega) (by omega) t ht
theorem checkRelease_ok {v u:Int} {ts:List Target} (h:checkRelease v u ts=0):1≤v∧v≤1000∧0≤u∧u≤100000∧1≤ts.length∧ts.length≤4∧∀ t∈ts,0≤t.unit∧t.unit≤1000∧0≤t.image∧t.image≤1000∧0≤t.long∧t.long≤1000:=by
 unfold checkRelease at h
 by_cases c1:v<1∨1000<v∨u<0∨100000<u
 ·rw [if_pos c1] at h; cases h
 rw [if_neg c1] at h
 by_cases c2:ts.length=0∨4<ts.length
 ·rw [if_pos c2] at h; cases h
 rw [if_neg c2] at h
 by_cases c3:okTargets 0 ts=true
 ·exact ⟨by omega,by omega,by omega,by omega,by omega,by omega,okTargets_ok ts 0 c3 (by omega) (by omega)⟩
 ·rw [if_neg c3] at h; cases h
theorem checkImage_ok {w:List Int} (h:checkImage w=0):1≤w.length∧w.length≤40∧okWords w=true:=by
 unfold checkImage at h
 by_cases c1:w.length=0∨40<w.length
 ·rw [if_pos c1] at h; cases h
 rw [if_neg c1] at h
 by_cases c2:okWords w=true
 ·exact ⟨by omega,by omega,c2⟩
 ·rw [if_neg c2] at h; cases h
theorem nums_of_words {w:List Int} (h:okWords w=true):nums w=true:=List.all_eq_true.2 fun n hn=>by
 have:=okWord_range (List.all_eq_true.1 h n hn)
 simp only [Bool.and_eq_true,decide_eq_true_eq]; omega
theorem indexS_at (s:List UInt8) (l:List (List UInt8)) (h:0≤indexS s l):nth l (indexS s l).toNat []=s:=by
 have key:∀ (l:List (List UInt8)) (k:Int),0≤k→0≤indexFrom k s l→nth l (indexFrom k s l-k).toNat []=s:=by
  intro l
  induction l with
  | nil=>intro k hk h; simp [indexFrom] at h
  | cons x r ih =>
   intro k hk h
   by_cases c:x=s
   ·have e:indexFrom k s (x::r)=k:=if_pos c
    rw [e,show (k-k).toNat=0 by omega]; exact c
   ·have e:indexFrom k s (x::r)=indexFrom (k+1) s r:=if_neg c
    rw [e] at h ⊢
    have h1:=ih (k+1) (by omega) h
    rcases indexFrom_range s r (k+1) (by omega) with g | g
    ·omega
    ·rw [show (indexFrom (k+1) s r-k).toNat=(indexFrom (k+1) s r-(k+1)).toNat+1 by omega]
     exact h1
 have:=key l 0 (by omega) h
 rw [show indexFrom 0 s l-0=indexS s l from by unfold indexS; omega] at this
 exact this
end Vm
end Go.Proofs.YtlbppjmekiemiacGreatDoor

/- Plain laws: texts, further. No condition. -/
namespace Go.Proofs.YtlbppjmekiemiacGreatDoor
namespace Vm

theorem joinT_flat (sep:List UInt8):∀ (x:List UInt8) (xs:List (List UInt8)),joinT sep (x::xs)=x++xs.flatMap (fun y=>sep++y)
 | x,[]=>by simp [joinT]
 | x,y::ys=>by
  have:=joinT_flat sep y ys
  rw [show joinT sep (x::y::ys)=x++sep++joinT sep (y::ys) from rfl,this]; simp
end Vm
end Go.Proofs.YtlbppjmekiemiacGreatDoor

/- Plain answers: trust. No condition. -/
namespace Go.Proofs.YtlbppjmekiemiacGreatDoor
namespace Vm

def okSigned (s:Signed):Bool:=decide (1≤s.key) && decide (s.key≤50) && decide (1≤s.name) && decide (s.name≤60)
def checkSigned (l:List Signed):Int:=if 360<l.length then 2 else if l.all okSigned then 0 else 3
def isSig (k n:Int) (s:Signed):Bool:=eqi k s.key && (eqi n s.name && true)
def indexG (k n:Int) (j:Int):List Signed→Int
 | []=>-1
 | s::r=>if isSig k n s then j else indexG k n (j+1) r
def hasSig (k n:Int) (l:List Signed):Bool:=l.any (isSig k n)
def indexI (k:Int) (j:Int):List Int→Int
 | []=>-1
 | x::r=>if x=k then j else indexI k (j+1) r
def hasI (k:Int) (l:List Int):Bool:=l.any fun x=>decide (x=k)
def signs (l:List Signed) (sigs:List Int) (name k:Int):Bool:=hasI k sigs && hasSig k name l
def countN (l:List Signed) (sigs:List Int) (name:Int) (ks:List Int):Nat:=(ks.filter (signs l sigs name)).length
def countT (l:List Signed) (r:Root) (sigs:List Int) (name:Int):Int × Int :=
 if checkSigned l=0 then (if checkRoot r.version r.keys r.thr=0 then (if 50<sigs.length then (0,2) else ((countN l sigs name r.keys:Nat),0)) else (0,checkRoot r.version r.keys r.thr)) else (0,checkSigned l)
def checkTrust (t:Trust):Int:=if t.version<0∨1000<t.version then 3 else checkRoot t.r.version t.r.keys t.r.thr
def noTrust:Trust:=⟨⟨0,[],0⟩,0⟩
def enough (l:List Signed) (r:Root) (sigs:List Int) (name:Int):Int:=if (countT l r sigs name).2=0 then (if (countT l r sigs name).1<r.thr then 9 else 0) else (countT l r sigs name).2
def turnE (b:List (List UInt8)) (l:List Signed) (t:Trust) (next:Root) (sigs:List Int):Int :=
 if checkTrust t=0 then (if checkRoot next.version next.keys next.thr=0 then (if checkBook b=0 then (if next.version=t.r.version+1 then
  (if enough l t.r sigs (indexS (rootText next.version next.keys next.thr) b+1)=0 then enough l next sigs (indexS (rootText next.version next.keys next.thr) b+1) else enough l t.r sigs (indexS (rootText next.version next.keys next.thr) b+1)) else 10) else checkBook b) else checkRoot next.version next.keys next.thr) else checkTrust t
def turnT (b:List (List UInt8)) (l:List Signed) (t:Trust) (next:Root) (sigs:List Int):Trust × Int :=
 if turnE b l t next sigs=0 then (⟨next,t.version⟩,0) else (noTrust,turnE b l t next sigs)
def rootsT (b:List (List UInt8)) (l:List Signed) (t:Trust):List Root→List (List Int)→Trust × Int
 | [],_=>(t,0)
 | r::rs,sg=>if (turnT b l t r (sg.headD [])).2=0 then rootsT b l (turnT b l t r (sg.headD [])).1 rs sg.tail else (noTrust,(turnT b l t r (sg.headD [])).2)
def okImage (b:List (List UInt8)) (x:Target) (w:List Int):Bool:=decide ((imageName b w).2=0) && decide ((imageName b w).1=x.image) && decide ((w.length:Int)=x.long)
def okImages (b:List (List UInt8)):List Target→List (List Int)→Bool
 | [],_=>true
 | x::xs,ws=>okImage b x (ws.headD []) && okImages b xs ws.tail
def relE (b:List (List UInt8)) (l:List Signed) (t:Trust) (o:Offer) (now units:Int):Int :=
 if checkRelease o.r.version o.r.til o.r.targets=0 then (if checkBook b=0 then
  (if enough l t.r o.sigs (indexS (releaseText o.r.version o.r.til o.r.targets) b+1)=0 then
   (if o.r.version≤t.version then 10 else if o.r.til<now then 11 else if (o.r.targets.length:Int)≠units∨(o.images.length:Int)≠units then 4 else if okImages b o.r.targets o.images then 0 else 5)
  else enough l t.r o.sigs (indexS (releaseText o.r.version o.r.til o.r.targets) b+1)) else checkBook b) else checkRelease o.r.version o.r.til o.r.targets
def takeEnd (b:List (List UInt8)) (l:List Signed) (o:Offer) (now units:Int) (x:Trust × Int):Trust × Int :=
 if x.2=0 then (if relE b l x.1 o now units=0 then (⟨x.1.r,o.r.version⟩,0) else (noTrust,relE b l x.1 o now units)) else (noTrust,x.2)
def takeT (b:List (List UInt8)) (l:List Signed) (t:Trust) (o:Offer) (now units:Int):Trust × Int :=
 if checkTrust t=0 then (if 6<o.roots.length∨o.rootSigs.length≠o.roots.length then (noTrust,2) else takeEnd b l o now units (rootsT b l t o.roots o.rootSigs)) else (noTrust,checkTrust t)
theorem ifz {x y:Int}:(if x=0 then y else x)=0↔x=0∧y=0:=by
 by_cases h:x=0
 ·rw [if_pos h]; exact ⟨fun g=>⟨h,g⟩,fun g=>g.2⟩
 ·rw [if_neg h]; exact ⟨fun g=>absurd g h,fun g=>absurd g.1 h⟩
theorem checkTrust_ok {t:Trust} (h:checkTrust t=0):0≤t.version∧t.version≤1000∧checkRoot t.r.version t.r.keys t.r.thr=0:=by
 unfold checkTrust at h
 by_cases c:t.version<0∨1000<t.version
 ·rw [if_pos c] at h; cases h
 ·rw [if_neg c] at h; exact ⟨by omega,by omega,h⟩
theorem checkBook_ok {l:List (List UInt8)} (h:checkBook l=0):l.length≤60:=by
 unfold checkBook at h
 by_cases c:60<l.length
 ·rw [if_pos c] at h; cases h
 ·omega
theorem turnE_ok {b:List (List UInt8)} {l:List Signed} {t:Trust} {next:Root} {sigs:List Int} (h:turnE b l t next sigs=0) :
  checkTrust t=0∧checkRoot next.version next.keys next.thr=0∧checkBook b=0∧next.version=t.r.version+1 ∧
  enough l t.r sigs (indexS (rootText next.version next.keys next.thr) b+1)=0∧enough l next sigs (indexS (rootText next.version next.keys next.thr) b+1)=0:=by
 unfold turnE at h
 obtain ⟨h1,h⟩:=ifz.1 h
 obtain ⟨h2,h⟩:=ifz.1 h
 obtain ⟨h3,h⟩:=ifz.1 h
 by_cases c:next.version=t.r.version+1
 ·rw [if_pos c] at h
  obtain ⟨h4,h⟩:=ifz.1 h
  exact ⟨h1,h2,h3,c,h4,h⟩
 ·rw [if_neg c] at h; cases h
theorem turnT_ok {b:List (List UInt8)} {l:List Signed} {t:Trust} {next:Root} {sigs:List Int} (h:(turnT b l t next sigs).2=0):turnE b l t next sigs=0∧turnT b l t next sigs=(⟨next,t.version⟩,0):=by
 unfold turnT at h ⊢
 by_cases c:turnE b l t next sigs=0
 ·rw [if_pos c]; exact ⟨c,rfl⟩
 ·rw [if_neg c] at h; exact absurd h c
theorem countN_cons (l:List Signed) (sigs:List Int) (name k:Int) (r:List Int):countN l sigs name (k::r)=(if signs l sigs name k then 1 else 0)+countN l sigs name r:=by
 unfold countN
 rw [List.filter_cons]
 by_cases h:signs l sigs name k=true
 ·rw [if_pos h,if_pos h,List.length_cons]; omega
 ·rw [if_neg h,if_neg h]; omega
theorem indexI_has (k:Int):∀ (l:List Int) (j:Int),0≤j→lei 0 (indexI k j l)=hasI k l
 | [],_,_=>rfl
 | x::r,j,hj=>by
  simp only [indexI,hasI,List.any_cons]
  by_cases c:x=k
  ·rw [if_pos c,decide_eq_true c]; exact decide_eq_true hj
  ·rw [if_neg c,decide_eq_false c]; exact indexI_has k r (j+1) (by omega)
theorem indexG_has (k n:Int):∀ (l:List Signed) (j:Int),0≤j→lei 0 (indexG k n j l)=hasSig k n l
 | [],_,_=>rfl
 | x::r,j,hj=>by
  simp only [indexG,hasSig,List.any_cons]
  by_cases c:isSig k n x=true
  ·rw [if_pos c,c]; exact decide_eq_true hj
  ·rw [if_neg c,(Bool.not_eq_true _).mp c]; exact indexG_has k n r (j+1) (by omega)
end Vm
end Go.Proofs.YtlbppjmekiemiacGreatDoor

/- Plain laws: trust. No condition. -/
namespace Go.Proofs.YtlbppjmekiemiacGreatDoor
namespace Vm

theorem checkSigned_ok {l:List Signed} (h:checkSigned l=0):l.length≤360∧l.all okSigned=true:=by
 unfold checkSigned at h
 by_cases c:360<l.length
 ·rw [if_pos c] at h; cases h
 ·rw [if_neg c] at h
  by_cases c2:l.all okSigned=true
  ·exact ⟨by omega,c2⟩
  ·rw [if_neg c2] at h; cases h
theorem rootsT_ok {b:List (List UInt8)} {l:List Signed}:∀ (rs:List Root) (rg:List (List Int)) (t:Trust),checkTrust t=0→(rootsT b l t rs rg).2=0 →
  (rootsT b l t rs rg).1.version=t.version∧(rootsT b l t rs rg).1.r.version=t.r.version+rs.length∧checkTrust (rootsT b l t rs rg).1=0∧rootsT b l t rs rg=((rootsT b l t rs rg).1,0)
 | [],rg,t,h0,_=>⟨rfl,by simp [rootsT],h0,rfl⟩
 | r::rs,rg,t,h0,h=>by
  by_cases c:(turnT b l t r (rg.headD [])).2=0
  ·have e:rootsT b l t (r::rs) rg=rootsT b l (turnT b l t r (rg.headD [])).1 rs rg.tail:=if_pos c
   rw [e] at h ⊢
   obtain ⟨h1,h2⟩:=turnT_ok c
   obtain ⟨k1,k2,_,k4,_⟩:=turnE_ok h1
   rw [h2] at h ⊢
   obtain ⟨t1,t2,_⟩:=checkTrust_ok k1
   have c0:checkTrust ⟨r,t.version⟩=0:=by
    unfold checkTrust
    simp only
    rw [if_neg (by omega)]; exact k2
   obtain ⟨q1,q2,q3,q4⟩:=rootsT_ok rs rg.tail ⟨r,t.version⟩ c0 h
   exact ⟨q1,by rw [q2,List.length_cons]; simp only; omega,q3,q4⟩
  ·have e:rootsT b l t (r::rs) rg=(noTrust,(turnT b l t r (rg.headD [])).2):=if_neg c
   rw [e] at h; exact absurd h c
theorem relE_ok {b:List (List UInt8)} {l:List Signed} {t:Trust} {o:Offer} {now units:Int} (h:relE b l t o now units=0) :
  checkRelease o.r.version o.r.til o.r.targets=0∧checkBook b=0∧enough l t.r o.sigs (indexS (releaseText o.r.version o.r.til o.r.targets) b+1)=0∧t.version<o.r.version∧now≤o.r.til∧(o.r.targets.length:Int)=units∧(o.images.length:Int)=units∧okImages b o.r.targets o.images=true:=by
 unfold relE at h
 obtain ⟨h1,h⟩:=ifz.1 h
 obtain ⟨h2,h⟩:=ifz.1 h
 obtain ⟨h3,h⟩:=ifz.1 h
 by_cases c1:o.r.version≤t.version
 ·rw [if_pos c1] at h; cases h
 rw [if_neg c1] at h
 by_cases c2:o.r.til<now
 ·rw [if_pos c2] at h; cases h
 rw [if_neg c2] at h
 by_cases c3:(o.r.targets.length:Int)≠units∨(o.images.length:Int)≠units
 ·rw [if_pos c3] at h; cases h
 rw [if_neg c3] at h
 by_cases c4:okImages b o.r.targets o.images=true
 ·exact ⟨h1,h2,h3,by omega,by omega,by omega,by omega,c4⟩
 ·rw [if_neg c4] at h; cases h
theorem takeT_ok {b:List (List UInt8)} {l:List Signed} {t:Trust} {o:Offer} {now units:Int} (h:(takeT b l t o now units).2=0) :
  checkTrust t=0∧o.roots.length≤6∧o.rootSigs.length=o.roots.length∧(rootsT b l t o.roots o.rootSigs).2=0∧relE b l (rootsT b l t o.roots o.rootSigs).1 o now units=0∧takeT b l t o now units=(⟨(rootsT b l t o.roots o.rootSigs).1.r,o.r.version⟩,0):=by
 unfold takeT at h ⊢
 by_cases c1:checkTrust t=0
 ·rw [if_pos c1] at h ⊢
  by_cases c2:6<o.roots.length∨o.rootSigs.length≠o.roots.length
  ·rw [if_pos c2] at h; cases h
  ·rw [if_neg c2] at h ⊢
   unfold takeEnd at h ⊢
   by_cases c3:(rootsT b l t o.roots o.rootSigs).2=0
   ·rw [if_pos c3] at h ⊢
    by_cases c4:relE b l (rootsT b l t o.roots o.rootSigs).1 o now units=0
    ·rw [if_pos c4]; exact ⟨c1,by omega,by omega,c3,c4,rfl⟩
    ·rw [if_neg c4] at h; exact absurd h c4
   ·rw [if_neg c3] at h; exact absurd h c3
 ·rw [if_neg c1] at h; exact absurd h c1
theorem hasI_append (k:Int) (a b:List Int):hasI k (a++b)=(hasI k a || hasI k b):=by simp [hasI]
end Vm
end Go.Proofs.YtlbppjmekiemiacGreatDoor

/- Plain answers: a unit. No condition. -/
namespace Go.Proofs.YtlbppjmekiemiacGreatDoor
namespace Vm

structure UState where
 slot:Int
 by_:Int
 ready:Int
def nonE (l:List (List Int)):Bool:=l.all fun r=>decide (0<r.length)
def stepR (s:UState) (r:List Int):UState :=
 if r.getD 0 0=1∧r.length=3∧r.getD 1 0≤1 then ⟨r.getD 1 0,r.getD 2 0,0⟩
 else if r.getD 0 0=2∧r.length=2 then ⟨s.slot,s.by_,r.getD 1 0⟩
 else if r.getD 0 0=3∧r.length=2 then ⟨s.slot,s.by_,0⟩ else s
def stateR (l:List (List Int)):UState:=l.foldl stepR ⟨0,0,0⟩
def ofU (f:Flash):UState:=stateR (recordsF f).1
def keepS (by_ slot ready:Int):List (List Int):=[1,slot,by_]::if 0<ready then [[2,ready]] else []
def checkU (u:UnitD):Int :=
 if checkLog u.f=0 then (if u.f.words.length=192 then (if u.n<0∨8<u.n∨u.got<0∨40<u.got then 3 else 0) else 4) else checkLog u.f
def readU (u:UnitD):UState × Int:=if checkU u=0 then (ofU u.f,0) else (⟨0,0,0⟩,checkU u)
def noUnit:UnitD:=⟨noFlash,false,0,0⟩
def factoryU (image:List Int) (name:Int):Flash × Int:=sealS (fillS (formatF (newFlash 6).1).1 0 0 image).1 0 image.length name
def newU (image:List Int) (name:Int):UnitD × Int :=
 if checkImage image=0 then (if (factoryU image name).2=0 then (⟨(appendF (factoryU image name).1 [1,0,0] []).1,true,0,0⟩,0) else (noUnit,(factoryU image name).2)) else (noUnit,checkImage image)
def downU (u:UnitD):UnitD:=⟨u.f,false,0,0⟩
def changeU (u:UnitD) (f:Flash) (e:Int):UnitD × Bool :=
 if e=0 then (⟨f,u.up,u.n,u.got⟩,true) else if e=7 then (⟨f,false,0,0⟩,false) else (u,false)
def noteU (u:UnitD) (r:List Int):UnitD × Bool :=
 changeU u (appendF u.f r (keepS (ofU u.f).by_ (ofU u.f).slot (ofU u.f).ready)).1 (appendF u.f r (keepS (ofU u.f).by_ (ofU u.f).slot (ofU u.f).ready)).2
def fillC (u:UnitD) (s:UState) (m:Message):UnitD × Bool:=changeU u (fillS u.f (1-s.slot) m.at_ m.words).1 (fillS u.f (1-s.slot) m.at_ m.words).2
def fillU (u:UnitD) (s:UState) (m:Message):UnitD :=
 if u.n≠m.n∨u.got≠m.at_∨40<m.at_+m.words.length then u
 else if (fillC u s m).2 then ⟨(fillC u s m).1.f,(fillC u s m).1.up,(fillC u s m).1.n,(fillC u s m).1.got+m.words.length⟩ else (fillC u s m).1
def clearC (u:UnitD) (s:UState):UnitD × Bool:=changeU u (clearS u.f (1-s.slot)).1 (clearS u.f (1-s.slot)).2
def pieceU (u:UnitD) (s:UState) (m:Message):UnitD :=
 if 0<s.ready∨m.n≤s.by_∨8<m.n then u
 else if m.at_=0∧(u.n≠m.n∨u.got=0) then
  (if (clearC u s).2 then fillU ⟨(clearC u s).1.f,(clearC u s).1.up,m.n,0⟩ s m else (clearC u s).1)
 else fillU u s m
def voteM (m:Message) (y:Bool):List Message:=[⟨3,m.unit,m.n,0,0,[],y⟩]
def doneM (m:Message):List Message:=[⟨6,m.unit,m.n,0,0,[],false⟩]
def sealC (u:UnitD) (s:UState) (m:Message):UnitD × Bool:=changeU u (sealS u.f (1-s.slot) m.at_ m.image).1 (sealS u.f (1-s.slot) m.at_ m.image).2
def sealedU (u:UnitD) (s:UState) (m:Message) (body:List Int):UnitD × List Message :=
 if (imageS u.f (1-s.slot)).2.2=0∧(imageS u.f (1-s.slot)).2.1=m.image∧(imageS u.f (1-s.slot)).1=body then
  (if (noteU u [2,m.n]).2 then ((noteU u [2,m.n]).1,voteM m true) else ((noteU u [2,m.n]).1,[]))
 else (u,voteM m false)
def prepareU (b:List (List UInt8)) (u:UnitD) (s:UState) (m:Message):UnitD × List Message :=
 if m.n≤s.by_ then (u,doneM m) else if s.ready=m.n then (u,voteM m true) else if 0<s.ready then (u,voteM m false)
 else if (bodyS u.f (1-s.slot) m.at_).2=0∧u.n=m.n∧u.got=m.at_ then
  (if (imageName b (bodyS u.f (1-s.slot) m.at_).1).2=0∧(imageName b (bodyS u.f (1-s.slot) m.at_).1).1≠0∧(imageName b (bodyS u.f (1-s.slot) m.at_).1).1=m.image then
   (if (sealC u s m).2 then sealedU ⟨(sealC u s m).1.f,(sealC u s m).1.up,0,0⟩ s m (bodyS u.f (1-s.slot) m.at_).1
   else ((sealC u s m).1,[]))
  else (u,voteM m false))
 else (u,voteM m false)
def goneU (u:UnitD) (m:Message):UnitD × List Message:=if u.n=m.n then (⟨u.f,u.up,0,0⟩,doneM m) else (u,doneM m)
def decidedU (u:UnitD) (s:UState) (m:Message):UnitD × List Message :=
 if m.kind=4 then (if s.by_=m.n then (u,doneM m) else if s.ready=m.n then
   (if (noteU u [1,1-s.slot,m.n]).2 then ((noteU u [1,1-s.slot,m.n]).1,doneM m) else ((noteU u [1,1-s.slot,m.n]).1,[]))
  else (u,[]))
 else if m.n≤s.by_ then (u,[]) else if s.ready=m.n then
  (if (noteU u [3,m.n]).2 then goneU (noteU u [3,m.n]).1 m else ((noteU u [3,m.n]).1,[]))
 else goneU u m
def checkM (m:Message):Int :=
 if m.kind<1∨7<m.kind∨m.unit<0∨4≤m.unit∨m.n<1∨8<m.n∨m.at_<0∨40<m.at_∨m.image<0∨60<m.image∨8<m.words.length then 3 else if okWords m.words then 0 else 3
def hearsU (b:List (List UInt8)) (u:UnitD) (m:Message):UnitD × List Message :=
 if u.up then (if m.kind=1 then (pieceU u (ofU u.f) m,[]) else if m.kind=2 then prepareU b u (ofU u.f) m else if m.kind=4∨m.kind=5 then decidedU u (ofU u.f) m else (u,[])) else (u,[])
def hearE (b:List (List UInt8)) (u:UnitD) (m:Message):Int:=if checkBook b=0 then (if checkU u=0 then checkM m else checkU u) else checkBook b
def hearU (b:List (List UInt8)) (u:UnitD) (m:Message):(UnitD × List Message) × Int :=
 if hearE b u m=0 then (hearsU b u m,0) else ((noUnit,[]),hearE b u m)
def bootU (u:UnitD):UnitD × Int:=if checkU u=0 then (⟨⟨u.f.words,-1⟩,true,0,0⟩,0) else (noUnit,checkU u)
def runsU (u:UnitD):List Int × Int × Int:=if checkU u=0 then imageS u.f (ofU u.f).slot else ([],0,checkU u)
def smM (l:List Message):Bool:=l.all fun m=>decide (m.words.length≤140737488355328)
end Vm
end Go.Proofs.YtlbppjmekiemiacGreatDoor

/- Plain laws: a unit. No condition. -/
namespace Go.Proofs.YtlbppjmekiemiacGreatDoor
namespace Vm

theorem okWords_sub {l r:List Int} (h:okWords l=true) (hs:∀ x∈r,x∈l):okWords r=true:=List.all_eq_true.2 fun x hx=>List.all_eq_true.1 h x (hs x hx)
theorem checkRec_mk {r:List Int} (h1:1≤r.length) (h2:r.length≤4) (h3:okWords r=true):checkRec r=0:=by
 unfold checkRec
 rw [if_pos ⟨h1,h2⟩,if_pos h3]
theorem headN_range (x:Int):headN x=0∨(1≤headN x∧headN x≤4):=by
 unfold headN
 split
 ·exact .inr (by omega)
 ·exact .inl rfl
theorem scanL_ok:∀ (m:Nat) (l:List Int),okWords l=true→∀ r∈(scanL m l).1,checkRec r=0
 | 0,_,_,r,hr=>by simp [scanL] at hr
 | _+1,[],_,r,hr=>by simp [scanL] at hr
 | m+1,x::xs,h,r,hr=>by
  have hx:okWords xs=true:=okWords_sub h fun y hy=>List.mem_cons_of_mem _ hy
  simp only [scanL] at hr
  split at hr
  ·simp at hr
  ·split at hr
   ·simp at hr
   ·rename_i h0
    split at hr
    ·rename_i hle
     rcases List.mem_cons.1 hr with rfl | hr
     ·have:=headN_range x
      exact checkRec_mk (by rw [List.length_take]; omega) (by rw [List.length_take]; omega) (okWords_sub hx fun y hy=>List.mem_of_mem_take hy)
     ·exact scanL_ok m _ (okWords_sub hx fun y hy=>List.mem_of_mem_drop hy) r hr
    ·simp at hr
theorem recsOf_ok {ws:List Int} (h:okWords ws=true):∀ r∈recsOf ws,checkRec r=0:=by
 intro r hr
 refine scanL_ok 32 _ (okWords_sub h fun y hy=>?_) r hr
 have:=List.mem_of_mem_drop hy
 unfold sectorW slc at this
 exact List.mem_of_mem_take (List.mem_of_mem_drop this)
theorem recordsF_ok2 (f:Flash):(recordsF f).1.length≤32∧∀ r∈(recordsF f).1,checkRec r=0:=by
 unfold recordsF
 by_cases c:checkLog f=0
 ·rw [if_pos c]
  obtain ⟨k1,_⟩:=checkLog_ok c
  obtain ⟨_,_,_,c4⟩:=checkFlash_ok k1
  exact ⟨(recsOf_small _).2,recsOf_ok c4⟩
 ·rw [if_neg c]; exact ⟨by simp,fun r hr=>by simp at hr⟩
theorem nonE_of {l:List (List Int)} (h:∀ r∈l,checkRec r=0):nonE l=true:=List.all_eq_true.2 fun r hr=>by
 have:=(checkRec_ok (h r hr)).1
 exact decide_eq_true (by omega)
def OkState (s:UState):Prop:=(0≤s.slot∧s.slot≤1)∧(0≤s.by_∧s.by_≤65535)∧0≤s.ready∧s.ready≤65535
theorem word_at {r:List Int} (h:okWords r=true) (i:Nat):0≤r.getD i 0∧r.getD i 0≤65535:=by
 rw [List.getD_eq_getElem?_getD]
 cases hi:r[i]? with
 | none=>simp
 | some x =>
  have:=okWord_range (List.all_eq_true.1 h x (List.mem_of_getElem? hi))
  simpa using this
theorem stepR_ok {s:UState} {r:List Int} (hs:OkState s) (hr:checkRec r=0):OkState (stepR s r):=by
 obtain ⟨_,_,r3⟩:=checkRec_ok hr
 have w1:=word_at r3 1
 have w2:=word_at r3 2
 obtain ⟨a,b,c⟩:=hs
 unfold stepR
 split
 ·rename_i h; exact ⟨⟨w1.1,h.2.2⟩,w2,by simp,by simp⟩
 ·split
  ·exact ⟨a,b,w1⟩
  ·split
   ·exact ⟨a,b,by simp,by simp⟩
   ·exact ⟨a,b,c⟩
theorem foldR_ok:∀ (l:List (List Int)) (s:UState),OkState s→(∀ r∈l,checkRec r=0)→OkState (l.foldl stepR s)
 | [],_,hs,_=>hs
 | r::l,s,hs,h=>foldR_ok l _ (stepR_ok hs (h r (by simp))) fun x hx=>h x (by simp [hx])
theorem ofU_ok (f:Flash):OkState (ofU f):=foldR_ok _ _ ⟨by simp,by simp,by simp⟩ (recordsF_ok2 f).2
theorem keepS_sm (b s r:Int):smR (keepS b s r)=true∧(keepS b s r).length≤2:=by
 unfold keepS
 split<;>exact ⟨by simp [smR],by simp⟩
theorem checkU_ok {u:UnitD} (h:checkU u=0):checkLog u.f=0∧u.f.words.length=192∧0≤u.n∧u.n≤8∧0≤u.got∧u.got≤40:=by
 unfold checkU at h
 by_cases c1:checkLog u.f=0
 ·rw [if_pos c1] at h
  by_cases c2:u.f.words.length=192
  ·rw [if_pos c2] at h
   by_cases c3:u.n<0∨8<u.n∨u.got<0∨40<u.got
   ·rw [if_pos c3] at h; cases h
   ·exact ⟨c1,c2,by omega,by omega,by omega,by omega⟩
  ·rw [if_neg c2] at h; cases h
 ·rw [if_neg c1] at h; exact absurd h c1
theorem checkM_ok {m:Message} (h:checkM m=0):1≤m.kind∧m.kind≤7∧0≤m.unit∧m.unit≤3∧1≤m.n∧m.n≤8∧0≤m.at_∧m.at_≤40∧0≤m.image∧m.image≤60∧m.words.length≤8∧okWords m.words=true:=by
 unfold checkM at h
 by_cases c:m.kind<1∨7<m.kind∨m.unit<0∨4≤m.unit∨m.n<1∨8<m.n∨m.at_<0∨40<m.at_∨m.image<0∨60<m.image∨8<m.words.length
 ·rw [if_pos c] at h; cases h
 ·rw [if_neg c] at h
  by_cases c2:okWords m.words=true
  ·exact ⟨by omega,by omega,by omega,by omega,by omega,by omega,by omega,by omega,by omega,by omega,by omega,c2⟩
  ·rw [if_neg c2] at h; cases h
theorem changeU_true {u:UnitD} {f:Flash} {e:Int} (h:(changeU u f e).2=true):e=0∧changeU u f e=(⟨f,u.up,u.n,u.got⟩,true):=by
 unfold changeU at h ⊢
 by_cases c:e=0
 ·rw [if_pos c]; exact ⟨c,rfl⟩
 ·rw [if_neg c] at h
  split at h<;>cases h
theorem imageS_sm {f:Flash} {s:Int} (h:(imageS f s).2.2=0):(imageS f s).1.length≤140737488355328:=by
 unfold imageS at h ⊢
 by_cases c:checkSlot f s=0
 ·rw [if_pos c]
  have hl:f.words.length=192:=by
   unfold checkSlot at c
   by_cases c1:checkFlash f=0
   ·rw [if_pos c1] at c
    by_cases c2:f.words.length=192
    ·exact c2
    ·rw [if_neg c2] at c; cases c
   ·rw [if_neg c1] at c; exact absurd c c1
  unfold imageR
  split
  ·have:(slc f.words (beginS s+4) (beginS s+4+(f.words.getD (beginS s) 0).toNat)).length≤f.words.length:=by unfold slc; rw [List.length_drop,List.length_take]; omega
   exact Nat.le_trans this (by omega)
  ·simp
 ·rw [if_neg c]; simp
end Vm
end Go.Proofs.YtlbppjmekiemiacGreatDoor

/- Plain laws: what a unit hears. No condition. -/
namespace Go.Proofs.YtlbppjmekiemiacGreatDoor
namespace Vm

def stW (ws:List Int):UState:=stateR (recsOf ws)
theorem ofU_W {f:Flash} (h:checkLog f=0):ofU f=stW f.words:=by unfold ofU stW; rw [recordsF_ok h]
def OkF (f:Flash):Prop:=checkLog f=0∧f.words.length=192
theorem okF_parts {f:Flash} (h:OkF f):-1≤f.fuel∧f.fuel≤100000∧okWords f.words=true∧0<liveG f.words∧liveG f.words≤60000:=by
 obtain ⟨h1,_⟩:=h
 obtain ⟨k1,_,k3,k4⟩:=checkLog_ok h1
 obtain ⟨_,c2,c3,c4⟩:=checkFlash_ok k1
 exact ⟨c2,c3,c4,k3,k4⟩
theorem okF_mk {f:Flash} (hl:f.words.length=192) (h2:-1≤f.fuel) (h3:f.fuel≤100000) (h4:okWords f.words=true) (h5:0<liveG f.words) (h6:liveG f.words≤60000):OkF f :=
 ⟨checkLog_mk (by rw [hl]; rfl) h2 h3 h4 (by omega) h5 h6,hl⟩
def Beside (o:Nat) (g f:Flash):Prop:=OkF g∧(∀ i,i<64+64*o∨128+64*o≤i→g.words.getD i 0=f.words.getD i 0)∧(f.fuel=-1→g.fuel=-1)
theorem beside_refl {o:Nat} {f:Flash} (h:OkF f):Beside o f f:=⟨h,fun _ _=>rfl,id⟩
theorem beside_trans {o:Nat} {h g f:Flash} (h1:Beside o h g) (h2:Beside o g f):Beside o h f:=⟨h1.1,fun i hi=>(h1.2.1 i hi).trans (h2.2.1 i hi),fun e=>h1.2.2 (h2.2.2 e)⟩
theorem doCh_free' {f:Flash} {cs:List Change} (h:f.fuel=-1):doCh f cs=(⟨applyCh f.words cs,-1⟩,true):=by
 obtain ⟨ws,fu⟩:=f
 simp only at h
 subst h
 exact doCh_free
theorem beside_doCh {o:Nat} {f:Flash} {cs:List Change} (h:OkF f) (ho:o≤1) (hw:within (64+64*o:Nat) (128+64*o:Nat) cs=true) (hc:cs.all chOk=true):Beside o (doCh f cs).1 f:=by
 obtain ⟨p1,p2,p3,p4,p5⟩:=okF_parts h
 have hl:=doCh_len f cs
 have hout:=fun i hi=>doCh_out (a:=(64+64*o:Nat)) (b:=(128+64*o:Nat)) (by omega) f cs hw i hi
 obtain ⟨f1,f2⟩:=doCh_fuel f cs p1 p2
 obtain ⟨k,k1,k2,_⟩:=doCh_take f cs
 have hok:okWords (doCh f cs).1.words=true:=by rw [k2]; exact applyCh_ok _ _ p3 (all_take hc k)
 obtain ⟨_,g2,_⟩:=log_alike (xs:=(doCh f cs).1.words) (ws:=f.words) hl (fun i hi=>hout i (by omega))
 exact ⟨okF_mk (hl.trans h.2) f1 f2 hok (by rw [g2]; exact p4) (by rw [g2]; exact p5),fun i hi=>hout i (by omega),fun e=>by rw [doCh_free' e]⟩
theorem beside_st {o:Nat} {g f:Flash} (h:Beside o g f) (hf:OkF f):ofU g=ofU f:=by
 rw [ofU_W h.1.1,ofU_W hf.1]
 unfold stW
 rw [(log_alike (xs:=g.words) (ws:=f.words) (h.1.2.trans hf.2.symm) fun i hi=>h.2.1 i (by omega)).2.2]
def Fine (e:Int) (f:Flash):Prop:=f.fuel=-1→e≠7
theorem power_fine {f:Flash} {cs:List Change}:Fine (power (doCh f cs)).2 f:=fun e=>by
 rw [doCh_free' e]; show (powerE true:Int)≠7; decide
theorem clear_beside {o:Nat} {f:Flash} (h:OkF f) (ho:o≤1) (he:(clearS f (o:Int)).2=0∨(clearS f (o:Int)).2=7):Beside o (clearS f (o:Int)).1 f∧Fine (clearS f (o:Int)).2 f:=by
 obtain ⟨_,e⟩:=clearS_out he
 rw [e]
 refine ⟨beside_doCh h ho ?_ ?_,power_fine⟩
 ·unfold clearCh wipeCh
  exact within_append (within_wipe _ _ _ _ (by omega) (by omega)) (within_wipe _ _ _ _ (by omega) (by omega))
 ·unfold clearCh wipeCh
  rw [List.all_append,wipe_chOk,wipe_chOk]; rfl
theorem fill_beside {o:Nat} {f:Flash} {a:Int} {l:List Int} (h:OkF f) (ho:o≤1) (he:(fillS f (o:Int) a l).2=0∨(fillS f (o:Int) a l).2=7):Beside o (fillS f (o:Int) a l).1 f∧Fine (fillS f (o:Int) a l).2 f:=by
 obtain ⟨_,⟨a1,a2,a3⟩,e⟩:=fillS_out he
 rw [e] at he ⊢
 obtain ⟨_,_,_,_,_,_,i7⟩:=programF_inv he
 rw [programF_out he]
 exact ⟨beside_doCh h ho (within_burn _ _ _ _ (by omega) (by omega)) (burn_chOk _ _ i7),power_fine⟩
theorem seal_beside {o:Nat} {f:Flash} {n m:Int} (h:OkF f) (ho:o≤1) (he:(sealS f (o:Int) n m).2=0∨(sealS f (o:Int) n m).2=7):Beside o (sealS f (o:Int) n m).1 f∧Fine (sealS f (o:Int) n m).2 f:=by
 obtain ⟨_,_,e⟩:=sealS_out he
 rw [e] at he ⊢
 obtain ⟨_,_,_,_,_,_,i7⟩:=programF_inv he
 rw [programF_out he]
 exact ⟨beside_doCh h ho (within_burn _ _ _ _ (by omega) (by simp only [headOf,List.length_cons,List.length_nil]; omega)) (burn_chOk _ _ i7),power_fine⟩
theorem checkU_mk {u:UnitD} (h:OkF u.f) (h1:0≤u.n) (h2:u.n≤8) (h3:0≤u.got) (h4:u.got≤40):checkU u=0:=by
 unfold checkU
 rw [if_pos h.1,if_pos h.2,if_neg (by omega)]
theorem okF_of {u:UnitD} (h:checkU u=0):OkF u.f:=⟨(checkU_ok h).1,(checkU_ok h).2.1⟩
def OkC (u:UnitD):Prop:=(0≤u.n∧u.n≤8)∧0≤u.got∧u.got≤40
theorem changeU_beside {o:Nat} {u:UnitD} {g:Flash} {e:Int} (hu:OkF u.f) (hc:OkC u) (h:(e=0∨e=7)→Beside o g u.f∧Fine e u.f) :
  Beside o (changeU u g e).1.f u.f∧OkC (changeU u g e).1∧(u.f.fuel=-1→(changeU u g e).2=false→(changeU u g e).1=u):=by
 unfold changeU
 by_cases c:e=0
 ·rw [if_pos c]; exact ⟨(h (.inl c)).1,hc,fun _ h=>by cases h⟩
 ·rw [if_neg c]
  by_cases c2:e=7
  ·rw [if_pos c2]; exact ⟨(h (.inr c2)).1,⟨by simp,by simp⟩,fun hf _=>absurd c2 ((h (.inr c2)).2 hf)⟩
  ·rw [if_neg c2]; exact ⟨beside_refl hu,hc,fun _ _=>rfl⟩
theorem fillU_beside {o:Nat} {u:UnitD} {s:UState} {m:Message} (hu:OkF u.f) (hc:OkC u) (ho:o≤1) (hs:1-s.slot=(o:Int)):Beside o (fillU u s m).f u.f∧OkC (fillU u s m):=by
 unfold fillU
 by_cases c:u.n≠m.n∨u.got≠m.at_∨40<m.at_+m.words.length
 ·rw [if_pos c]; exact ⟨beside_refl hu,hc⟩
 ·rw [if_neg c]
  have hb:Beside o (fillC u s m).1.f u.f∧OkC (fillC u s m).1:=by
   unfold fillC
   rw [hs]
   have:=changeU_beside (o:=o) (u:=u) (g:=(fillS u.f (o:Int) m.at_ m.words).1) (e:=(fillS u.f (o:Int) m.at_ m.words).2) hu hc (fun he=>fill_beside hu ho he)
   exact ⟨this.1,this.2.1⟩
  by_cases c2:(fillC u s m).2=true
  ·rw [if_pos c2]
   have e:(fillC u s m).1=⟨(fillS u.f (1-s.slot) m.at_ m.words).1,u.up,u.n,u.got⟩:=by rw [show fillC u s m=_ from (changeU_true (u:=u) c2).2]
   refine ⟨hb.1,?_⟩
   rw [e]
   obtain ⟨h1,h2,h3⟩:=hc
   exact ⟨h1,by simp only; omega,by simp only; omega⟩
  ·rw [if_neg c2]; exact hb
theorem pieceU_beside {o:Nat} {u:UnitD} {s:UState} {m:Message} (hu:OkF u.f) (hc:OkC u) (hm:1≤m.n∧m.n≤8) (ho:o≤1) (hs:1-s.slot=(o:Int)):Beside o (pieceU u s m).f u.f∧OkC (pieceU u s m):=by
 unfold pieceU
 by_cases c:0<s.ready∨m.n≤s.by_∨8<m.n
 ·rw [if_pos c]; exact ⟨beside_refl hu,hc⟩
 rw [if_neg c]
 by_cases c2:m.at_=0∧(u.n≠m.n∨u.got=0)
 ·rw [if_pos c2]
  have hb:Beside o (clearC u s).1.f u.f∧OkC (clearC u s).1:=by
   unfold clearC
   rw [hs]
   have:=changeU_beside (o:=o) (u:=u) (g:=(clearS u.f (o:Int)).1) (e:=(clearS u.f (o:Int)).2) hu hc (fun he=>clear_beside hu ho he)
   exact ⟨this.1,this.2.1⟩
  by_cases c3:(clearC u s).2=true
  ·rw [if_pos c3]
   have:=fillU_beside (u:=⟨(clearC u s).1.f,(clearC u s).1.up,m.n,0⟩) (s:=s) (m:=m) hb.1.1 ⟨⟨by simp only; omega,hm.2⟩,by simp,by simp⟩ ho hs
   exact ⟨beside_trans this.1 hb.1,this.2⟩
  ·rw [if_neg c3]; exact hb
 ·rw [if_neg c2]; exact fillU_beside hu hc ho hs
theorem keep_st {s:UState} (h:OkState s):stateR (keepS s.by_ s.slot s.ready)=s:=by
 obtain ⟨⟨a1,a2⟩,_,c1,c2⟩:=h
 obtain ⟨sl,by_,re⟩:=s
 simp only at a1 a2 c1 c2
 unfold keepS stateR
 have e1:∀ t:UState,stepR t [1,sl,by_]=⟨sl,by_,0⟩:=fun t=>if_pos ⟨rfl,rfl,a2⟩
 by_cases c:0<re
 ·rw [if_pos c,List.foldl_cons,e1,List.foldl_cons,List.foldl_nil]
  unfold stepR
  rw [if_neg (by simp),if_pos ⟨rfl,rfl⟩]
  rfl
 ·rw [if_neg c,List.foldl_cons,e1,List.foldl_nil,show re=0 by omega]
theorem note_all {u:UnitD} {r:List Int} (hu:OkF u.f) (hc:OkC u) :
  OkF (noteU u r).1.f∧OkC (noteU u r).1∧(∀ i,64≤i→(noteU u r).1.f.words.getD i 0=u.f.words.getD i 0)∧(ofU (noteU u r).1.f=ofU u.f∨ofU (noteU u r).1.f=stepR (ofU u.f) r) ∧
  ((noteU u r).2=true→ofU (noteU u r).1.f=stepR (ofU u.f) r∧(noteU u r).1=⟨(noteU u r).1.f,u.up,u.n,u.got⟩) ∧
  (u.f.fuel=-1→(noteU u r).1.f.fuel=-1∧((noteU u r).2=false→(noteU u r).1=u)):=by
 unfold noteU
 obtain ⟨keep,hk⟩:∃ keep,keepS (ofU u.f).by_ (ofU u.f).slot (ofU u.f).ready=keep:=⟨_,rfl⟩
 have hks:stateR keep=ofU u.f:=by rw [← hk]; exact keep_st (ofU_ok u.f)
 rw [hk]
 by_cases he:(appendF u.f r keep).2=0∨(appendF u.f r keep).2=7
 ·obtain ⟨cs,a1,a2,a3⟩:=appendF_inv he
  obtain ⟨p1,p2,_⟩:=okF_parts hu
  obtain ⟨f1,f2⟩:=doCh_fuel u.f cs p1 p2
  obtain ⟨b1,b2,b3,b4⟩:=append_end (ws:=u.f.words) (fu:=u.f.fuel) a1 a2 f1 f2
  have hg:(appendF u.f r keep).1=(doCh u.f cs).1:=by rw [a3]; rfl
  have hF:OkF (appendF u.f r keep).1:=by rw [hg]; exact ⟨b1,b2.trans hu.2⟩
  have hst:∀ k,recsOf (doCh u.f cs).1.words=k→ofU (appendF u.f r keep).1=stateR k:=fun k e=>by rw [hg,ofU_W b1]; unfold stW; rw [← e]
  have h1:stateR (recsOf u.f.words++[r])=stepR (ofU u.f) r:=by rw [ofU_W hu.1]; unfold stateR stW; rw [List.foldl_append]; rfl
  have h2:stateR (keep++[r])=stepR (ofU u.f) r:=by rw [← hks]; unfold stateR; rw [List.foldl_append]; rfl
  have hor:ofU (appendF u.f r keep).1=stepR (ofU u.f) r∨((doCh u.f cs).2=false∧ofU (appendF u.f r keep).1=ofU u.f):=by
   rcases b4 with b4 | b4 | ⟨b4,b5⟩
   ·exact .inl ((hst _ b4).trans h1)
   ·exact .inl ((hst _ b4).trans h2)
   ·exact .inr ⟨b4,by rw [hst _ b5,ofU_W hu.1]; rfl⟩
  have hw:∀ i,64≤i→(appendF u.f r keep).1.words.getD i 0=u.f.words.getD i 0:=fun i hi=>by rw [hg]; exact b3 i hi
  rcases he with he | he
  ·have hd:(doCh u.f cs).2=true:=by
    rw [a3] at he
    cases hd:(doCh u.f cs).2 with
    | true=>rfl
    | false=>simp only [power,hd,powerE] at he; omega
   have hs:=hor.resolve_right (fun h=>by rw [hd] at h; cases h.1)
   unfold changeU
   rw [if_pos he]
   refine ⟨hF,hc,hw,.inr hs,fun _=>⟨hs,rfl⟩,fun ef=>⟨?_,fun h=>by cases h⟩⟩
   rw [hg,doCh_free' ef]
  ·have hn:¬ (appendF u.f r keep).2=0:=by omega
   unfold changeU
   rw [if_neg hn,if_pos he]
   refine ⟨hF,⟨by simp,by simp⟩,hw,hor.elim .inr (fun h=>.inl h.2),(fun h=>by cases h),fun ef=>?_⟩
   rw [a3,doCh_free' ef] at he
   exact absurd he (show ¬ (powerE true:Int)=7 by decide)
 ·unfold changeU
  rw [if_neg (fun h=>he (.inl h)),if_neg (fun h=>he (.inr h))]
  exact ⟨hu,hc,fun _ _=>rfl,.inl rfl,(fun h=>by cases h),fun ef=>⟨ef,fun _=>rfl⟩⟩
theorem hears_down {b:List (List UInt8)} {u:UnitD} {m:Message} (h:u.up=false):hearsU b u m=(u,[]):=by
 unfold hearsU; rw [if_neg (by rw [h]; simp)]
theorem hearU_ok {b:List (List UInt8)} {u:UnitD} {m:Message} (h:(hearU b u m).2=0):hearE b u m=0∧hearU b u m=(hearsU b u m,0):=by
 unfold hearU at h ⊢
 by_cases c:hearE b u m=0
 ·rw [if_pos c]; exact ⟨c,rfl⟩
 ·rw [if_neg c] at h; exact absurd h c
end Vm
end Go.Proofs.YtlbppjmekiemiacGreatDoor

/- Plain laws: what a unit hears, once and again. No condition. -/
namespace Go.Proofs.YtlbppjmekiemiacGreatDoor
namespace Vm

theorem other_slot {s:UState} (h:OkState s):∃ o:Nat,o≤1∧1-s.slot=(o:Int)∧s.slot=((1-o:Nat):Int):=by
 obtain ⟨⟨h1,h2⟩,_⟩:=h
 by_cases c:s.slot=0
 ·exact ⟨1,by omega,by omega,by omega⟩
 ·exact ⟨0,by omega,by omega,by omega⟩
theorem okC_of {u:UnitD} (h:checkU u=0):OkC u:=by
 obtain ⟨_,_,a,b,c,d⟩:=checkU_ok h
 exact ⟨⟨a,b⟩,c,d⟩
theorem checkU_of {u:UnitD} (h:OkF u.f) (hc:OkC u):checkU u=0:=checkU_mk h hc.1.1 hc.1.2 hc.2.1 hc.2.2
def Kept (u:UnitD) (x:UnitD):Prop:=OkF x.f∧OkC x∧(ofU x.f).slot=(ofU u.f).slot∧(ofU x.f).by_=(ofU u.f).by_ ∧
 ∀ i,64+64*(ofU u.f).slot.toNat≤i→i<128+64*(ofU u.f).slot.toNat→x.f.words.getD i 0=u.f.words.getD i 0
theorem kept_beside {u x:UnitD} {o:Nat} (hu:OkF u.f) (hs:(ofU u.f).slot=((1-o:Nat):Int)) (ho:o≤1) (h:Beside o x.f u.f) (hc:OkC x):Kept u x:=by
 have e:=beside_st h hu
 refine ⟨h.1,hc,by rw [e],by rw [e],fun i h1 h2=>h.2.1 i ?_⟩
 rw [hs] at h1 h2
 omega
theorem kept_note {u x:UnitD} {r:List Int} (hx:Kept u x) (hr:(stepR (ofU x.f) r).slot=(ofU x.f).slot∧(stepR (ofU x.f) r).by_=(ofU x.f).by_):Kept u (noteU x r).1:=by
 obtain ⟨k1,k2,k3,k4,k5⟩:=hx
 obtain ⟨n1,n2,n3,n4,_⟩:=note_all (r:=r) k1 k2
 refine ⟨n1,n2,?_,?_,fun i h1 h2=>(n3 i (by omega)).trans (k5 i h1 h2)⟩
 ·rcases n4 with e | e
  ·rw [e]; exact k3
  ·rw [e,hr.1]; exact k3
 ·rcases n4 with e | e
  ·rw [e]; exact k4
  ·rw [e,hr.2]; exact k4
theorem step_ready (s:UState) (n:Int):stepR s [2,n]=⟨s.slot,s.by_,n⟩:=by
 unfold stepR
 rw [if_neg (by simp),if_pos ⟨rfl,rfl⟩]; rfl
theorem step_not (s:UState) (n:Int):stepR s [3,n]=⟨s.slot,s.by_,0⟩:=by
 unfold stepR
 rw [if_neg (by simp),if_neg (by simp),if_pos ⟨rfl,rfl⟩]
theorem step_runs (s:UState) {o n:Int} (h:o≤1):stepR s [1,o,n]=⟨o,n,0⟩:=if_pos ⟨rfl,rfl,h⟩
theorem goneU_f (u:UnitD) (m:Message):(goneU u m).1.f=u.f:=by unfold goneU; split<;>rfl
theorem goneU_c {u:UnitD} (h:OkC u) (m:Message):OkC (goneU u m).1:=by
 unfold goneU
 split
 ·exact ⟨by simp,by simp⟩
 ·exact h
theorem kept_gone {u x:UnitD} {m:Message} (h:Kept u x):Kept u (goneU x m).1:=by
 obtain ⟨k1,k2,k3,k4,k5⟩:=h
 have e:=goneU_f x m
 exact ⟨by rw [e]; exact k1,goneU_c k2 m,by rw [e]; exact k3,by rw [e]; exact k4,by rw [e]; exact k5⟩
theorem kept_refl {u:UnitD} (h:OkF u.f) (hc:OkC u):Kept u u:=⟨h,hc,rfl,rfl,fun _ _ _=>rfl⟩
theorem hears_all {b:List (List UInt8)} {u:UnitD} {m:Message} (hu:OkF u.f) (hc:OkC u) (hm:1≤m.n∧m.n≤8) :
  Kept u (hearsU b u m).1∨(m.kind=4∧(ofU u.f).ready=m.n∧OkF (hearsU b u m).1.f∧OkC (hearsU b u m).1∧ofU (hearsU b u m).1.f=⟨1-(ofU u.f).slot,m.n,0⟩∧∀ i,64≤i→(hearsU b u m).1.f.words.getD i 0=u.f.words.getD i 0):=by
 have hk:=kept_refl hu hc
 obtain ⟨o,ho,hs,hs'⟩:=other_slot (ofU_ok u.f)
 by_cases hup:u.up=true
 case neg=>rw [hears_down (by simpa using hup)]; exact .inl hk
 unfold hearsU
 rw [if_pos hup]
 by_cases k1:m.kind=1
 ·rw [if_pos k1]
  obtain ⟨p1,p2⟩:=pieceU_beside (u:=u) (s:=ofU u.f) (m:=m) hu hc hm ho hs
  exact .inl (kept_beside hu hs' ho p1 p2)
 rw [if_neg k1]
 by_cases k2:m.kind=2
 ·rw [if_pos k2]
  refine .inl ?_
  unfold prepareU
  by_cases c1:m.n≤(ofU u.f).by_
  ·rw [if_pos c1]; exact hk
  rw [if_neg c1]
  by_cases c2:(ofU u.f).ready=m.n
  ·rw [if_pos c2]; exact hk
  rw [if_neg c2]
  by_cases c3:0<(ofU u.f).ready
  ·rw [if_pos c3]; exact hk
  rw [if_neg c3]
  split
  case isFalse=>exact hk
  split
  case isFalse=>exact hk
  have hb:=changeU_beside (o:=o) (u:=u) (g:=(sealS u.f (1-(ofU u.f).slot) m.at_ m.image).1) (e:=(sealS u.f (1-(ofU u.f).slot) m.at_ m.image).2) hu hc (fun he=>by rw [hs] at he ⊢; exact seal_beside hu ho he)
  have hb1:Beside o (sealC u (ofU u.f) m).1.f u.f:=hb.1
  have hb2:OkC (sealC u (ofU u.f) m).1:=hb.2.1
  split
  case isFalse=>exact kept_beside hu hs' ho hb1 hb2
  have hx:Kept u ⟨(sealC u (ofU u.f) m).1.f,(sealC u (ofU u.f) m).1.up,0,0⟩:=kept_beside hu hs' ho hb1 ⟨by simp,by simp⟩
  unfold sealedU
  split
  case isFalse=>exact hx
  have hn:=kept_note (r:=[2,m.n]) hx (by rw [step_ready]; exact ⟨rfl,rfl⟩)
  split<;>exact hn
 rw [if_neg k2]
 by_cases k4:m.kind=4∨m.kind=5
 case neg=>rw [if_neg k4]; exact .inl hk
 rw [if_pos k4]
 unfold decidedU
 by_cases c4:m.kind=4
 ·rw [if_pos c4]
  by_cases c1:(ofU u.f).by_=m.n
  ·rw [if_pos c1]; exact .inl hk
  rw [if_neg c1]
  by_cases c2:(ofU u.f).ready=m.n
  case neg=>rw [if_neg c2]; exact .inl hk
  rw [if_pos c2]
  obtain ⟨n1,n2,n3,n4,_⟩:=note_all (u:=u) (r:=[1,1-(ofU u.f).slot,m.n]) hu hc
  have key:Kept u (noteU u [1,1-(ofU u.f).slot,m.n]).1∨(m.kind=4∧(ofU u.f).ready=m.n∧OkF (noteU u [1,1-(ofU u.f).slot,m.n]).1.f∧OkC (noteU u [1,1-(ofU u.f).slot,m.n]).1∧ofU (noteU u [1,1-(ofU u.f).slot,m.n]).1.f=⟨1-(ofU u.f).slot,m.n,0⟩∧∀ i,64≤i→(noteU u [1,1-(ofU u.f).slot,m.n]).1.f.words.getD i 0=u.f.words.getD i 0):=by
   rcases n4 with e | e
   ·exact .inl ⟨n1,n2,by rw [e],by rw [e],fun i h1 _=>n3 i (by omega)⟩
   ·rw [step_runs _ (by omega)] at e
    exact .inr ⟨c4,c2,n1,n2,e,n3⟩
  split<;>exact key
 ·rw [if_neg c4]
  by_cases c1:m.n≤(ofU u.f).by_
  ·rw [if_pos c1]; exact .inl hk
  rw [if_neg c1]
  by_cases c2:(ofU u.f).ready=m.n
  ·rw [if_pos c2]
   have hn:=kept_note (r:=[3,m.n]) hk (by rw [step_not]; exact ⟨rfl,rfl⟩)
   split
   ·exact .inl (kept_gone hn)
   ·exact .inl hn
  ·rw [if_neg c2]; exact .inl (kept_gone hk)
theorem hears_right {b:List (List UInt8)} {u:UnitD} {m:Message} (hu:checkU u=0) (hm:checkM m=0):checkU (hearsU b u m).1=0:=by
 obtain ⟨_,_,_,_,m1,m2,_⟩:=checkM_ok hm
 rcases hears_all (b:=b) (okF_of hu) (okC_of hu) ⟨m1,m2⟩ with h | ⟨_,_,h1,h2,_⟩
 ·exact checkU_of h.1 h.2.1
 ·exact checkU_of h1 h2
theorem okF_fuel {f:Flash} {fv:Int} (h:OkF f) (h1:-1≤fv) (h2:fv≤100000):OkF ⟨f.words,fv⟩:=by
 obtain ⟨_,_,p3,p4,p5⟩:=okF_parts h
 exact okF_mk h.2 h1 h2 p3 p4 p5
theorem image_same {g f:Flash} {s:Int} (hg:OkF g) (hf:OkF f) (hs:0≤s∧s≤1) (h:∀ i,64+64*s.toNat≤i→i<128+64*s.toNat→g.words.getD i 0=f.words.getD i 0):imageS g s=imageS f s:=by
 obtain ⟨t,rfl⟩:=Int.eq_ofNat_of_zero_le hs.1
 obtain ⟨a1,a2,a3,_⟩:=okF_parts hg
 obtain ⟨b1,b2,b3,_⟩:=okF_parts hf
 have h':∀ i,64+64*t≤i→i<128+64*t→g.words.getD i 0=f.words.getD i 0:=fun i h1 h2=>h i (by simpa using h1) (by simpa using h2)
 exact imageS_alike (xs:=g.words) (ws:=f.words) (fx:=g.fuel) (fw:=f.fuel) (checkSlot_mk hg.2 a1 a2 a3 (by omega)) (checkSlot_mk hf.2 b1 b2 b3 (by omega)) (hg.2.trans hf.2.symm) h'
theorem runsU_ok {u:UnitD} (h:checkU u=0):runsU u=imageS u.f (ofU u.f).slot:=by unfold runsU; rw [if_pos h]
theorem readU_ok {u:UnitD} (h:checkU u=0):readU u=(ofU u.f,0):=by unfold readU; rw [if_pos h]
theorem bootU_ok {u:UnitD} (h:checkU u=0):bootU u=(⟨⟨u.f.words,-1⟩,true,0,0⟩,0):=by unfold bootU; rw [if_pos h]
theorem ofU_fuel {f:Flash} {fv:Int} (h:OkF f) (h1:-1≤fv) (h2:fv≤100000):ofU ⟨f.words,fv⟩=ofU f:=by
 rw [ofU_W h.1,ofU_W (okF_fuel h h1 h2).1]
end Vm
end Go.Proofs.YtlbppjmekiemiacGreatDoor

/- Plain laws: what a unit hears twice; a unit that is ready. No condition. -/
namespace Go.Proofs.YtlbppjmekiemiacGreatDoor
namespace Vm

theorem gone_up (u:UnitD) (m:Message):(goneU u m).1.up=u.up:=by unfold goneU; split<;>rfl
theorem gone_says (u:UnitD) (m:Message):(goneU u m).2=doneM m:=by unfold goneU; split<;>rfl
theorem checkM_mk {k u n:Int} (h1:1≤k∧k≤7) (h2:0≤u∧u≤3) (h3:1≤n∧n≤8):checkM ⟨k,u,n,0,0,[],false⟩=0:=by
 unfold checkM
 rw [if_neg (by simp only [List.length_nil]; omega),if_pos (show okWords []=true from rfl)]
end Vm
end Go.Proofs.YtlbppjmekiemiacGreatDoor

/- Plain laws: an image that comes in pieces. No condition. -/
namespace Go.Proofs.YtlbppjmekiemiacGreatDoor
namespace Vm

theorem imageName_range {b:List (List UInt8)} {w:List Int} (h:(imageName b w).2=0) (h0:(imageName b w).1≠0):checkImage w=0∧1≤(imageName b w).1∧(imageName b w).1≤60∧checkBook b=0:=by
 unfold imageName at h h0 ⊢
 by_cases c:checkImage w=0
 ·rw [if_pos c] at h h0 ⊢
  unfold nameB at h h0 ⊢
  by_cases c2:checkBook b=0
  ·rw [if_pos c2] at h h0 ⊢
   have:=indexFrom_range (imageText w) b 0 (by omega)
   have hb:=checkBook_ok c2
   unfold indexS at h0 ⊢
   exact ⟨c,by simp only at h0 ⊢; omega,by simp only at h0 ⊢; omega,c2⟩
  ·rw [if_neg c2] at h; exact absurd h c2
 ·rw [if_neg c] at h; exact absurd h c
end Vm
end Go.Proofs.YtlbppjmekiemiacGreatDoor

/- Plain answers: a gateway. No condition. -/
namespace Go.Proofs.YtlbppjmekiemiacGreatDoor
namespace Vm

structure GState where
 n:Int
 version:Int
 commit:Bool
 abort:Bool
 ended:Bool
def noState:GState:=⟨0,0,false,false,false⟩
def stepGt (s:GState) (r:List Int):GState :=
 if r.getD 0 0=1∧r.length=3∧1≤r.getD 1 0∧r.getD 1 0≤8 then ⟨r.getD 1 0,r.getD 2 0,false,false,false⟩
 else if r.length≠2∨r.getD 1 0≠s.n∨s.n=0 then s
 else if r.getD 0 0=2∧s.abort=false then ⟨s.n,s.version,true,s.abort,s.ended⟩
 else if r.getD 0 0=3∧s.commit=false then ⟨s.n,s.version,s.commit,true,s.ended⟩
 else if r.getD 0 0=4∧(s.commit=true∨s.abort=true) then ⟨s.n,s.version,s.commit,s.abort,true⟩ else s
def stateG (l:List (List Int)):GState:=l.foldl stepGt noState
def ofG (f:Flash):GState:=stateG (recordsF f).1
def noGate:Gate:=⟨noFlash,false,⟨⟨0,[],0⟩,0⟩,[],[]⟩
def checkG (g:Gate):Int :=
 if checkLog g.f=0 then (if g.voted.length<1∨4<g.voted.length∨g.did.length≠g.voted.length then 4 else checkTrust g.t) else checkLog g.f
def readG (g:Gate):GState × Int:=if checkG g=0 then (ofG g.f,0) else (noState,checkG g)
def madeG (r:Root) (units:Int):Gate:=⟨(formatF (newFlash 2).1).1,true,⟨r,0⟩,zeros units.toNat false,zeros units.toNat false⟩
def newG (r:Root) (units:Int):Gate × Int :=
 if units<1∨4<units then (noGate,3) else if checkG (madeG r units)=0 then (madeG r units,0) else (noGate,checkG (madeG r units))
def keepG (s:GState):List (List Int) :=
 if s.n=0 then [] else [[1,s.n,s.version]]++(if s.commit=true then [[2,s.n]] else [])++(if s.abort=true then [[3,s.n]] else [])++(if s.ended=true then [[4,s.n]] else [])
def forgetG (g:Gate):Gate:=⟨g.f,g.up,g.t,zeros g.voted.length false,zeros g.did.length false⟩
def changeG (g:Gate) (f:Flash) (e:Int):Gate × Bool :=
 if e=0 then (⟨f,g.up,g.t,g.voted,g.did⟩,true) else if e=7 then (⟨f,false,g.t,zeros g.voted.length false,zeros g.did.length false⟩,false) else (g,false)
def noteG (g:Gate) (r:List Int):Gate × Bool:=changeG g (appendF g.f r (keepG (ofG g.f))).1 (appendF g.f r (keepG (ofG g.f))).2
def upG (g:Gate):Int:=if checkG g=0 then (if g.up=true then 0 else 7) else checkG g
def begunG (g:Gate) (s:GState) (t:Trust) (v:Int):Gate × Int :=
 if (noteG g [1,s.n+1,v]).2=true then (⟨(noteG g [1,s.n+1,v]).1.f,(noteG g [1,s.n+1,v]).1.up,t,zeros g.voted.length false,zeros g.did.length false⟩,s.n+1) else ((noteG g [1,s.n+1,v]).1,0)
def beginE (b:List (List UInt8)) (l:List Signed) (g:Gate) (o:Offer) (now:Int):Int :=
 if upG g=0 then (if 0<(ofG g.f).n∧(ofG g.f).ended=false then 12 else if (ofG g.f).n=8 then 8 else (takeT b l g.t o now g.voted.length).2) else upG g
def beginG (b:List (List UInt8)) (l:List Signed) (g:Gate) (o:Offer) (now:Int):Gate × Int × Int :=
 if beginE b l g o now=0 then ((begunG g (ofG g.f) (takeT b l g.t o now g.voted.length).1 o.r.version).1,(begunG g (ofG g.f) (takeT b l g.t o now g.voted.length).1 o.r.version).2,0) else (noGate,0,beginE b l g o now)
def giveE (g:Gate):Int:=if upG g=0 then (if (ofG g.f).n=0∨(ofG g.f).commit=true∨(ofG g.f).abort=true then 12 else 0) else upG g
def giveG (g:Gate):Gate × Int:=if giveE g=0 then ((noteG g [3,(ofG g.f).n]).1,0) else (noGate,giveE g)
def kindG (s:GState) (n:Int):Int:=if s.commit=true∧s.n=n then 4 else 5
def decisionM (s:GState) (unit n:Int):Message:=⟨kindG s n,unit,n,0,0,[],false⟩
def pieceM (unit n:Int) (w:List Int) (k:Nat):Message:=⟨1,unit,n,(k:Int),0,slc w k (min (k+8) w.length),false⟩
def piecesM (unit n:Int) (w:List Int):Nat→Nat→List Message
 | 0,_=>[]
 | d+1,k=>if k<w.length then pieceM unit n w k::piecesM unit n w d (k+8) else []
def dueE (g:Gate) (c:Campaign) (unit:Int):Int :=
 if upG g=0 then (if (ofG g.f).n=0∨(ofG g.f).ended=true then 12
  else if unit<0∨(g.voted.length:Int)≤unit∨c.n≠(ofG g.f).n∨(c.images.length:Int)≤unit∨(c.r.targets.length:Int)≤unit then 5 else 0) else upG g
def imageM (c:Campaign) (unit n:Int):List Message × Int :=
 if 40<(nth c.images unit.toNat []).length then ([],2)
 else (piecesM unit n (nth c.images unit.toNat []) 6 0++[⟨2,unit,n,((nth c.images unit.toNat []).length:Int),(nth c.r.targets unit.toNat ⟨0,0,0⟩).image,[],false⟩],0)
def duesG (g:Gate) (s:GState) (c:Campaign) (unit:Int):List Message × Int :=
 if s.commit=true∨s.abort=true then (if nth g.did unit.toNat false=true then ([],0) else ([decisionM s unit s.n],0))
 else if nth g.voted unit.toNat false=true then ([],0) else imageM c unit s.n
def dueG (g:Gate) (c:Campaign) (unit:Int):List Message × Int:=if dueE g c unit=0 then duesG g (ofG g.f) c unit else ([],dueE g c unit)
def indexB (x:Bool):Nat→List Bool→Int
 | _,[]=>-1
 | k,y::l=>if y=x then (k:Int) else indexB x (k+1) l
def hasB (x:Bool) (l:List Bool):Bool:=decide (0≤indexB x 0 l)
def votedG (g:Gate) (u:Int):Gate:=⟨g.f,g.up,g.t,setAt g.voted u.toNat true,g.did⟩
def didG (g:Gate) (u:Int):Gate:=⟨g.f,g.up,g.t,g.voted,setAt g.did u.toNat true⟩
def voteG (g:Gate) (s:GState) (u:Int):Gate:=if hasB false (votedG g u).voted=true then votedG g u else (noteG (votedG g u) [2,s.n]).1
def doneG (g:Gate) (s:GState) (u:Int):Gate:=if hasB false (didG g u).did=true then didG g u else (noteG (didG g u) [4,s.n]).1
def hearsS (g:Gate) (s:GState) (m:Message):Gate × List Message :=
 if m.kind=3 then (if s.n≠m.n∨s.ended=true∨s.commit=true∨s.abort=true∨m.yes=false then (g,[]) else (voteG g s m.unit,[]))
 else if m.kind=6 then (if s.n≠m.n∨s.ended=true∨(s.commit=false∧s.abort=false) then (g,[]) else (doneG g s m.unit,[]))
 else if m.kind=7 then (if s.n≠m.n∨s.ended=true∨s.commit=true∨s.abort=true then (g,[decisionM s m.unit m.n]) else (g,[]))
 else (g,[])
def hearsG (g:Gate) (m:Message):Gate × List Message:=if g.up=true then hearsS g (ofG g.f) m else (g,[])
def hearGE (g:Gate) (m:Message):Int:=if checkG g=0 then (if m.unit<0∨(g.voted.length:Int)≤m.unit∨m.n<1∨8<m.n then 3 else 0) else checkG g
def hearG (g:Gate) (m:Message):(Gate × List Message) × Int:=if hearGE g m=0 then (hearsG g m,0) else ((noGate,[]),hearGE g m)
def bootG (g:Gate):Gate × Int :=
 if checkG g=0 then (⟨⟨g.f.words,-1⟩,true,g.t,zeros g.voted.length false,zeros g.did.length false⟩,0) else (noGate,checkG g)
end Vm
end Go.Proofs.YtlbppjmekiemiacGreatDoor

/- Plain laws: a gateway. No condition. -/
namespace Go.Proofs.YtlbppjmekiemiacGreatDoor
namespace Vm

structure OkG (s:GState):Prop where
 n0:0≤s.n
 n8:s.n≤8
 v0:0≤s.version
 v1:s.version≤65535
 one:s.commit=true→s.abort=true→False
 fin:s.ended=true→s.commit=true∨s.abort=true
 none:s.n=0→s=noState
theorem okG_no:OkG noState:=⟨by simp [noState],by simp [noState],by simp [noState],by simp [noState],fun h=>by simp [noState] at h,fun h=>by simp [noState] at h,fun _=>rfl⟩
theorem stepGt_ok {s:GState} {r:List Int} (hs:OkG s) (hr:checkRec r=0):OkG (stepGt s r):=by
 obtain ⟨_,_,r3⟩:=checkRec_ok hr
 have w2:=word_at r3 2
 unfold stepGt
 split
 ·rename_i h; exact ⟨by simp only; omega,h.2.2.2,w2.1,w2.2,fun h=>(by cases h),fun h=>(by cases h),fun e=>(by simp only at e; omega)⟩
 ·split
  ·exact hs
  ·rename_i h1 h2
   have hn:s.n≠0:=fun e=>h2 (.inr (.inr e))
   split
   ·rename_i h; exact ⟨hs.n0,hs.n8,hs.v0,hs.v1,fun _ ha=>(by simp only at ha; rw [h.2] at ha; cases ha),fun _=>.inl rfl,fun e=>absurd e hn⟩
   ·split
    ·rename_i h; exact ⟨hs.n0,hs.n8,hs.v0,hs.v1,fun ha _=>(by simp only at ha; rw [h.2] at ha; cases ha),fun _=>.inr rfl,fun e=>absurd e hn⟩
    ·split
     ·rename_i h; exact ⟨hs.n0,hs.n8,hs.v0,hs.v1,hs.one,fun _=>h.2,fun e=>absurd e hn⟩
     ·exact hs
theorem foldG_ok:∀ (l:List (List Int)) (s:GState),OkG s→(∀ r∈l,checkRec r=0)→OkG (l.foldl stepGt s)
 | [],_,hs,_=>hs
 | r::l,s,hs,h=>foldG_ok l _ (stepGt_ok hs (h r (by simp))) fun x hx=>h x (by simp [hx])
theorem ofG_ok (f:Flash):OkG (ofG f):=foldG_ok _ _ okG_no (recordsF_ok2 f).2
theorem stepGt_begun {s:GState} {n v:Int} (h1:1≤n) (h8:n≤8):stepGt s [1,n,v]=⟨n,v,false,false,false⟩:=if_pos ⟨rfl,rfl,h1,h8⟩
theorem stepGt_commit {s:GState} (hn:s.n≠0) (ha:s.abort=false):stepGt s [2,s.n]=⟨s.n,s.version,true,s.abort,s.ended⟩:=by
 unfold stepGt
 rw [if_neg (by simp),if_neg (by simpa using hn),if_pos ⟨rfl,ha⟩]
theorem stepGt_abort {s:GState} (hn:s.n≠0) (hc:s.commit=false):stepGt s [3,s.n]=⟨s.n,s.version,s.commit,true,s.ended⟩:=by
 unfold stepGt
 rw [if_neg (by simp),if_neg (by simpa using hn),if_neg (by simp),if_pos ⟨rfl,hc⟩]
theorem stepGt_ended {s:GState} (hn:s.n≠0) (hc:s.commit=true∨s.abort=true):stepGt s [4,s.n]=⟨s.n,s.version,s.commit,s.abort,true⟩:=by
 unfold stepGt
 rw [if_neg (by simp),if_neg (by simpa using hn),if_neg (by simp),if_neg (by simp),if_pos ⟨rfl,hc⟩]
theorem keep_stG {s:GState} (h:OkG s):stateG (keepG s)=s:=by
 unfold keepG
 by_cases c:s.n=0
 ·rw [if_pos c,h.none c]; rfl
 rw [if_neg c]
 have hn1:1≤s.n:=by have:=h.n0; omega
 have h8:=h.n8
 have h1:=h.one
 have h2:=h.fin
 obtain ⟨n,v,co,ab,en⟩:=s
 simp only at c hn1 h8 h1 h2 ⊢
 unfold stateG
 rw [List.foldl_append,List.foldl_append,List.foldl_append,List.foldl_cons,List.foldl_nil,stepGt_begun hn1 h8]
 cases co<;>cases ab<;>cases en
 ·rfl
 ·exact absurd (h2 rfl) (by simp)
 ·simp only [Bool.false_eq_true,if_false,if_true,List.foldl_nil,List.foldl_cons]
  exact stepGt_abort (s:=⟨n,v,false,false,false⟩) c rfl
 ·simp only [Bool.false_eq_true,if_false,if_true,List.foldl_nil,List.foldl_cons]
  rw [show stepGt ⟨n,v,false,false,false⟩ [3,n]=⟨n,v,false,true,false⟩ from stepGt_abort (s:=⟨n,v,false,false,false⟩) c rfl]
  exact stepGt_ended (s:=⟨n,v,false,true,false⟩) c (.inr rfl)
 ·simp only [Bool.false_eq_true,if_false,if_true,List.foldl_nil,List.foldl_cons]
  exact stepGt_commit (s:=⟨n,v,false,false,false⟩) c rfl
 ·simp only [Bool.false_eq_true,if_false,if_true,List.foldl_nil,List.foldl_cons]
  rw [show stepGt ⟨n,v,false,false,false⟩ [2,n]=⟨n,v,true,false,false⟩ from stepGt_commit (s:=⟨n,v,false,false,false⟩) c rfl]
  exact stepGt_ended (s:=⟨n,v,true,false,false⟩) c (.inl rfl)
 ·exact (h1 rfl rfl).elim
 ·exact (h1 rfl rfl).elim
theorem ofG_W {f:Flash} (h:checkLog f=0):ofG f=stateG (recsOf f.words):=by unfold ofG; rw [recordsF_ok h]
theorem note_allG {g:Gate} {r:List Int} (hu:checkLog g.f=0) :
  checkLog (noteG g r).1.f=0∧(noteG g r).1.t=g.t∧(noteG g r).1.voted.length=g.voted.length∧(noteG g r).1.did.length=g.did.length ∧
  (ofG (noteG g r).1.f=ofG g.f∨ofG (noteG g r).1.f=stepGt (ofG g.f) r) ∧
  ((noteG g r).2=true→ofG (noteG g r).1.f=stepGt (ofG g.f) r∧(noteG g r).1=⟨(noteG g r).1.f,g.up,g.t,g.voted,g.did⟩) ∧
  (g.f.fuel=-1→(noteG g r).1.f.fuel=-1∧((noteG g r).2=false→(noteG g r).1=g)):=by
 unfold noteG
 obtain ⟨keep,hk⟩:∃ keep,keepG (ofG g.f)=keep:=⟨_,rfl⟩
 have hks:stateG keep=ofG g.f:=by rw [← hk]; exact keep_stG (ofG_ok g.f)
 rw [hk]
 by_cases he:(appendF g.f r keep).2=0∨(appendF g.f r keep).2=7
 ·obtain ⟨cs,a1,a2,a3⟩:=appendF_inv he
  obtain ⟨k1,_,_,_⟩:=checkLog_ok hu
  obtain ⟨_,p1,p2,_⟩:=checkFlash_ok k1
  obtain ⟨f1,f2⟩:=doCh_fuel g.f cs p1 p2
  obtain ⟨b1,b2,b3,b4⟩:=append_end (ws:=g.f.words) (fu:=g.f.fuel) a1 a2 f1 f2
  have hg:(appendF g.f r keep).1=(doCh g.f cs).1:=by rw [a3]; rfl
  have hF:checkLog (appendF g.f r keep).1=0:=by rw [hg]; exact b1
  have hst:∀ k,recsOf (doCh g.f cs).1.words=k→ofG (appendF g.f r keep).1=stateG k:=fun k e=>by rw [hg,ofG_W b1,← e]
  have h1:stateG (recsOf g.f.words++[r])=stepGt (ofG g.f) r:=by rw [ofG_W hu]; unfold stateG; rw [List.foldl_append]; rfl
  have h2:stateG (keep++[r])=stepGt (ofG g.f) r:=by rw [← hks]; unfold stateG; rw [List.foldl_append]; rfl
  have hor:ofG (appendF g.f r keep).1=stepGt (ofG g.f) r∨((doCh g.f cs).2=false∧ofG (appendF g.f r keep).1=ofG g.f):=by
   rcases b4 with b4 | b4 | ⟨b4,b5⟩
   ·exact .inl ((hst _ b4).trans h1)
   ·exact .inl ((hst _ b4).trans h2)
   ·exact .inr ⟨b4,by rw [hst _ b5,ofG_W hu]⟩
  rcases he with he | he
  ·have hd:(doCh g.f cs).2=true:=by
    rw [a3] at he
    cases hd:(doCh g.f cs).2 with
    | true=>rfl
    | false=>simp only [power,hd,powerE] at he; omega
   have hs:=hor.resolve_right (fun h=>by rw [hd] at h; cases h.1)
   unfold changeG
   rw [if_pos he]
   refine ⟨hF,rfl,rfl,rfl,.inr hs,fun _=>⟨hs,rfl⟩,fun ef=>⟨?_,fun h=>by cases h⟩⟩
   rw [hg,doCh_free' ef]
  ·have hn:¬ (appendF g.f r keep).2=0:=by omega
   unfold changeG
   rw [if_neg hn,if_pos he]
   refine ⟨hF,rfl,by simp [zeros],by simp [zeros],hor.elim .inr (fun h=>.inl h.2),(fun h=>by cases h),fun ef=>?_⟩
   rw [a3,doCh_free' ef] at he
   exact absurd he (show ¬ (powerE true:Int)=7 by decide)
 ·unfold changeG
  rw [if_neg (fun h=>he (.inl h)),if_neg (fun h=>he (.inr h))]
  exact ⟨hu,rfl,rfl,rfl,.inl rfl,(fun h=>by cases h),fun ef=>⟨ef,fun _=>rfl⟩⟩
theorem checkG_ok {g:Gate} (h:checkG g=0):checkLog g.f=0∧1≤g.voted.length∧g.voted.length≤4∧g.did.length=g.voted.length∧checkTrust g.t=0:=by
 unfold checkG at h
 by_cases c1:checkLog g.f=0
 ·rw [if_pos c1] at h
  by_cases c2:g.voted.length<1∨4<g.voted.length∨g.did.length≠g.voted.length
  ·rw [if_pos c2] at h; cases h
  ·rw [if_neg c2] at h
   exact ⟨c1,by omega,by omega,by omega,h⟩
 ·rw [if_neg c1] at h; exact absurd h c1
theorem checkG_mk {g:Gate} (h1:checkLog g.f=0) (h2:1≤g.voted.length) (h3:g.voted.length≤4) (h4:g.did.length=g.voted.length) (h5:checkTrust g.t=0):checkG g=0:=by
 unfold checkG
 rw [if_pos h1,if_neg (by omega),h5]
theorem checkG_like {g x:Gate} (h:checkG g=0) (h1:checkLog x.f=0) (h2:x.t=g.t) (h3:x.voted.length=g.voted.length) (h4:x.did.length=g.did.length):checkG x=0:=by
 obtain ⟨_,a,b,c,d⟩:=checkG_ok h
 exact checkG_mk h1 (by omega) (by omega) (by omega) (by rw [h2]; exact d)
theorem checkG_note {g:Gate} {r:List Int} (h:checkG g=0):checkG (noteG g r).1=0:=by
 obtain ⟨n1,n2,n3,n4,_⟩:=note_allG (r:=r) (checkG_ok h).1
 exact checkG_like h n1 n2 n3 n4
theorem setAt_len {α:Type} (l:List α) (i:Nat) (x:α):(setAt l i x).length=l.length:=by simp [setAt]
theorem checkG_voted {g:Gate} {u:Int} (h:checkG g=0):checkG (votedG g u)=0:=checkG_like h (checkG_ok h).1 rfl (setAt_len _ _ _) rfl
theorem checkG_did {g:Gate} {u:Int} (h:checkG g=0):checkG (didG g u)=0:=checkG_like h (checkG_ok h).1 rfl rfl (setAt_len _ _ _)
theorem hearsG_all {g:Gate} {m:Message} (h:checkG g=0) (hm:1≤m.n):checkG (hearsG g m).1=0 ∧
  (ofG (hearsG g m).1.f=ofG g.f ∨
   (m.kind=3∧m.yes=true∧m.n=(ofG g.f).n∧(ofG g.f).ended=false∧(ofG g.f).commit=false∧(ofG g.f).abort=false∧hasB false (setAt g.voted m.unit.toNat true)=false ∧
    ofG (hearsG g m).1.f=⟨(ofG g.f).n,(ofG g.f).version,true,(ofG g.f).abort,(ofG g.f).ended⟩) ∨
   (m.kind=6∧m.n=(ofG g.f).n∧((ofG g.f).commit=true∨(ofG g.f).abort=true)∧ofG (hearsG g m).1.f=⟨(ofG g.f).n,(ofG g.f).version,(ofG g.f).commit,(ofG g.f).abort,true⟩)):=by
 unfold hearsG
 by_cases cu:g.up=true
 case neg=>rw [if_neg cu]; exact ⟨h,.inl rfl⟩
 rw [if_pos cu]
 unfold hearsS
 by_cases k3:m.kind=3
 ·rw [if_pos k3]
  by_cases c:(ofG g.f).n≠m.n∨(ofG g.f).ended=true∨(ofG g.f).commit=true∨(ofG g.f).abort=true∨m.yes=false
  ·rw [if_pos c]; exact ⟨h,.inl rfl⟩
  ·rw [if_neg c]
   simp only [not_or,Bool.not_eq_true,ne_eq,Decidable.not_not,Bool.not_eq_false] at c
   obtain ⟨c1,c2,c3,c4,c5⟩:=c
   unfold voteG
   have hv:=checkG_voted (u:=m.unit) h
   by_cases cb:hasB false (votedG g m.unit).voted=true
   ·rw [if_pos cb]; exact ⟨hv,.inl rfl⟩
   ·rw [if_neg cb]
    obtain ⟨_,_,_,_,n5,_⟩:=note_allG (r:=[2,(ofG g.f).n]) (checkG_ok hv).1
    refine ⟨checkG_note hv,n5.elim .inl (fun e=>.inr (.inl ⟨k3,c5,c1.symm,c2,c3,c4,Bool.eq_false_iff.2 cb,?_⟩))⟩
    rw [e]
    exact stepGt_commit (s:=ofG g.f) (by omega) c4
 rw [if_neg k3]
 by_cases k6:m.kind=6
 ·rw [if_pos k6]
  by_cases c:(ofG g.f).n≠m.n∨(ofG g.f).ended=true∨((ofG g.f).commit=false∧(ofG g.f).abort=false)
  ·rw [if_pos c]; exact ⟨h,.inl rfl⟩
  ·rw [if_neg c]
   simp only [not_or,Bool.not_eq_true,ne_eq,Decidable.not_not] at c
   obtain ⟨c1,c2,c3⟩:=c
   have c3':(ofG g.f).commit=true∨(ofG g.f).abort=true:=by
    cases hcc:(ofG g.f).commit<;>cases haa:(ofG g.f).abort<;>simp_all
   unfold doneG
   have hv:=checkG_did (u:=m.unit) h
   by_cases cb:hasB false (didG g m.unit).did=true
   ·rw [if_pos cb]; exact ⟨hv,.inl rfl⟩
   ·rw [if_neg cb]
    obtain ⟨_,_,_,_,n5,_⟩:=note_allG (r:=[4,(ofG g.f).n]) (checkG_ok hv).1
    refine ⟨checkG_note hv,n5.elim .inl (fun e=>.inr (.inr ⟨k6,c1.symm,c3',?_⟩))⟩
    rw [e]
    exact stepGt_ended (s:=ofG g.f) (by omega) c3'
 rw [if_neg k6]
 by_cases k7:m.kind=7
 ·rw [if_pos k7]
  split<;>exact ⟨h,.inl rfl⟩
 ·rw [if_neg k7]; exact ⟨h,.inl rfl⟩
theorem keepG_sm (s:GState):smR (keepG s)=true∧(keepG s).length≤4:=by
 unfold keepG
 split
 ·exact ⟨rfl,by simp⟩
 ·split<;>split<;>split<;>exact ⟨by simp [smR],by simp⟩
theorem checkG_sm {ws:List Int} {fu:Int} {up:Bool} {tv:Int} {tk:List Int} {tt tn:Int} {vo di:List Bool} (h:checkG ⟨⟨ws,fu⟩,up,⟨⟨tv,tk,tt⟩,tn⟩,vo,di⟩=0) :
  len ws*8≤140737488355328∧len tk*8≤140737488355328∧len vo≤1000∧len di≤1000:=by
 obtain ⟨h1,_,h3,h4,h5⟩:=checkG_ok h
 simp only at h1 h3 h4 h5
 obtain ⟨k1,_⟩:=checkLog_ok h1
 obtain ⟨c1,_⟩:=checkFlash_ok k1
 have h6:=okLen_le c1
 have h7:=(checkRoot_ok (checkTrust_ok h5).2.2).2.2.2.2.1
 simp only [len] at *
 try simp only at h6 h7
 omega
theorem hearsG_len {g:Gate} {m:Message} (h:checkG g=0):(hearsG g m).1.voted.length=g.voted.length∧(hearsG g m).2.length≤1∧smM (hearsG g m).2=true:=by
 unfold hearsG
 by_cases cu:g.up=true
 case neg=>rw [if_neg cu]; exact ⟨rfl,by simp,rfl⟩
 rw [if_pos cu]
 unfold hearsS
 have hv:=checkG_voted (u:=m.unit) h
 have hd:=checkG_did (u:=m.unit) h
 split
 ·split
  ·exact ⟨rfl,by simp,rfl⟩
  ·refine ⟨?_,by simp,rfl⟩
   simp only [voteG]
   split
   ·exact setAt_len _ _ _
   ·obtain ⟨_,_,n3,_⟩:=note_allG (r:=[2,(ofG g.f).n]) (checkG_ok hv).1
    exact n3.trans (setAt_len _ _ _)
 ·split
  ·split
   ·exact ⟨rfl,by simp,rfl⟩
   ·refine ⟨?_,by simp,rfl⟩
    simp only [doneG]
    split
    ·rfl
    ·obtain ⟨_,_,n3,_⟩:=note_allG (r:=[4,(ofG g.f).n]) (checkG_ok hd).1
     exact n3
  ·split
   ·split<;>exact ⟨rfl,by simp,by simp [smM,decisionM]⟩
   ·exact ⟨rfl,by simp,rfl⟩
theorem upG_check {g:Gate} (h:upG g=0):checkG g=0:=by
 unfold upG at h
 by_cases c:checkG g=0
 ·exact c
 ·rw [if_neg c] at h; exact absurd h c
theorem hearG_ok {g:Gate} {m:Message} (h:(hearG g m).2=0):checkG g=0∧(0≤m.unit∧m.unit<g.voted.length∧1≤m.n∧m.n≤8)∧hearG g m=(hearsG g m,0):=by
 unfold hearG at h ⊢
 by_cases c:hearGE g m=0
 ·rw [if_pos c]
  unfold hearGE at c
  by_cases c1:checkG g=0
  ·rw [if_pos c1] at c
   by_cases c2:m.unit<0∨(g.voted.length:Int)≤m.unit∨m.n<1∨8<m.n
   ·rw [if_pos c2] at c; cases c
   ·exact ⟨c1,by omega,rfl⟩
  ·rw [if_neg c1] at c; exact absurd c c1
 ·rw [if_neg c] at h; exact absurd h c
theorem hearG_mk {g:Gate} {m:Message} (h:checkG g=0) (h1:0≤m.unit∧m.unit<g.voted.length∧1≤m.n∧m.n≤8):hearG g m=(hearsG g m,0):=by
 unfold hearG hearGE
 rw [if_pos (by rw [if_pos h,if_neg (by omega)])]
theorem readG_ok {g:Gate} (h:checkG g=0):readG g=(ofG g.f,0):=by unfold readG; rw [if_pos h]
theorem giveG_ok {g:Gate} (h:(giveG g).2=0):checkG g=0∧(ofG g.f).n≠0∧(ofG g.f).commit=false∧(ofG g.f).abort=false∧giveG g=((noteG g [3,(ofG g.f).n]).1,0):=by
 unfold giveG at h ⊢
 by_cases c:giveE g=0
 ·rw [if_pos c]
  unfold giveE upG at c
  by_cases c1:checkG g=0
  ·rw [if_pos c1] at c
   by_cases c2:g.up=true
   ·rw [if_pos c2,if_pos rfl] at c
    by_cases c3:(ofG g.f).n=0∨(ofG g.f).commit=true∨(ofG g.f).abort=true
    ·rw [if_pos c3] at c; cases c
    ·simp only [not_or,Bool.not_eq_true] at c3
     exact ⟨c1,c3.1,c3.2.1,c3.2.2,rfl⟩
   ·rw [if_neg c2,if_neg (by decide)] at c; cases c
  ·rw [if_neg c1,if_neg c1] at c; exact absurd c c1
 ·rw [if_neg c] at h; exact absurd h c
theorem bootG_ok {g:Gate} (h:checkG g=0):bootG g=(⟨⟨g.f.words,-1⟩,true,g.t,zeros g.voted.length false,zeros g.did.length false⟩,0):=by unfold bootG; rw [if_pos h]
theorem checkLog_free {f:Flash} (h:checkLog f=0):checkLog ⟨f.words,-1⟩=0:=by
 obtain ⟨k1,k2,k3,k4⟩:=checkLog_ok h
 obtain ⟨c1,_,_,c4⟩:=checkFlash_ok k1
 exact checkLog_mk c1 (by simp) (by simp) c4 k2 k3 k4
theorem ofG_free {f:Flash} (h:checkLog f=0):ofG ⟨f.words,-1⟩=ofG f:=by rw [ofG_W h,ofG_W (checkLog_free h)]
end Vm
end Go.Proofs.YtlbppjmekiemiacGreatDoor

/- Plain laws: what is due. No condition. -/
namespace Go.Proofs.YtlbppjmekiemiacGreatDoor
namespace Vm

theorem indexB_neg (x:Bool):∀ (l:List Bool) (k:Nat),¬ 0≤indexB x k l→∀ y∈l,y≠x
 | [],_,_,y,hy=>by simp at hy
 | z::l,k,h,y,hy=>by
  simp only [indexB] at h
  by_cases c:z=x
  ·rw [if_pos c] at h; omega
  ·rw [if_neg c] at h
   rcases List.mem_cons.1 hy with rfl | hy
   ·exact c
   ·exact indexB_neg x l (k+1) h y hy
theorem voted_all {vo:List Bool} {u:Int} (h:hasB false (setAt vo u.toNat true)=false) (hu:0≤u) (i:Nat) (hi:i<vo.length) (hne:(i:Int)≠u):nth vo i (Ty.dflt Ty.bool)=true:=by
 have h1:=indexB_neg false _ 0 (of_decide_eq_false h) (vo[i]) (by
  have:(setAt vo u.toNat true)[i]? = some vo[i]:=by
   simp only [setAt]
   rw [List.getElem?_set_ne (by omega),List.getElem?_eq_getElem hi]
  exact List.mem_of_getElem? this)
 have:nth vo i (Ty.dflt Ty.bool)=vo[i]:=by simp [nth,List.getD_eq_getElem?_getD,hi]
 rw [this]
 simpa using h1
theorem dueG_ok {g:Gate} {c:Campaign} {u:Int} (h:(dueG g c u).2=0):checkG g=0∧(ofG g.f).n≠0∧(ofG g.f).ended=false∧0≤u∧u<g.voted.length∧c.n=(ofG g.f).n∧u<c.images.length∧u<c.r.targets.length∧dueG g c u=duesG g (ofG g.f) c u:=by
 unfold dueG at h ⊢
 by_cases e:dueE g c u=0
 ·rw [if_pos e]
  unfold dueE at e
  by_cases e1:upG g=0
  ·rw [if_pos e1] at e
   by_cases e2:(ofG g.f).n=0∨(ofG g.f).ended=true
   ·rw [if_pos e2] at e; cases e
   ·rw [if_neg e2] at e
    by_cases e3:u<0∨(g.voted.length:Int)≤u∨c.n≠(ofG g.f).n∨(c.images.length:Int)≤u∨(c.r.targets.length:Int)≤u
    ·rw [if_pos e3] at e; cases e
    ·simp only [not_or,Bool.not_eq_true] at e2
     exact ⟨upG_check e1,e2.1,e2.2,by omega,by omega,by omega,by omega,by omega,rfl⟩
  ·rw [if_neg e1] at e; exact absurd e e1
 ·rw [if_neg e] at h; exact absurd h e
end Vm
end Go.Proofs.YtlbppjmekiemiacGreatDoor

/- Plain answers: the document's unit. No condition. -/

/- Plain laws: the factory's unit, the document's. No condition. -/
namespace Go.Proofs.YtlbppjmekiemiacGreatDoor
namespace Vm

def Says (m:Message) (l:List Message):Prop:=l=[]∨l=doneM m∨∃ y,l=voteM m y
theorem ite_says {m:Message} {c:Prop} [Decidable c] {x y:UnitD × List Message} (hx:Says m x.2) (hy:Says m y.2):Says m (if c then x else y).2:=by
 split
 ·exact hx
 ·exact hy
theorem hears_says' {b:List (List UInt8)} {u:UnitD} {m:Message}:Says m (hearsU b u m).2:=by
 have h0:∀ x:UnitD,Says m (x,([]:List Message)).2:=fun _=>.inl rfl
 have h1:∀ x:UnitD,Says m (x,doneM m).2:=fun _=>.inr (.inl rfl)
 have h2:∀ (x:UnitD) (y:Bool),Says m (x,voteM m y).2:=fun _ y=>.inr (.inr ⟨y,rfl⟩)
 have hg:∀ x:UnitD,Says m (goneU x m).2:=fun x=>ite_says (h1 _) (h1 _)
 have hs:∀ (x:UnitD) (s:UState) (w:List Int),Says m (sealedU x s m w).2:=fun x s w=>ite_says (ite_says (h2 _ _) (h0 _)) (h2 _ _)
 exact ite_says (ite_says (h0 _) (ite_says (ite_says (h1 _) (ite_says (h2 _ _) (ite_says (h2 _ _) (ite_says (ite_says (ite_says (hs _ _ _) (h0 _)) (h2 _ _)) (h2 _ _))))) (ite_says (ite_says (ite_says (h1 _) (ite_says (ite_says (h1 _) (h0 _)) (h0 _))) (ite_says (h0 _) (ite_says (ite_says (hg _) (h0 _)) (hg _)))) (h0 _)))) (h0 _)
end Vm
end Go.Proofs.YtlbppjmekiemiacGreatDoor

/- Plain laws: the gateway, as the document has it. No condition. -/
namespace Go.Proofs.YtlbppjmekiemiacGreatDoor
namespace Vm

theorem takeT_right {b:List (List UInt8)} {l:List Signed} {t:Trust} {o:Offer} {now units:Int} (h:(takeT b l t o now units).2=0):checkTrust (takeT b l t o now units).1=0:=by
 obtain ⟨h1,_,_,h4,h5,h6⟩:=takeT_ok h
 obtain ⟨_,_,q3,_⟩:=rootsT_ok o.roots o.rootSigs _ h1 h4
 obtain ⟨r1,_⟩:=relE_ok h5
 obtain ⟨s1,s2,_⟩:=checkRelease_ok r1
 rw [h6]
 unfold checkTrust
 simp only
 rw [if_neg (by omega)]
 exact (checkTrust_ok q3).2.2
theorem beginG_right {b:List (List UInt8)} {l:List Signed} {g:Gate} {o:Offer} {now:Int}:checkG (beginG b l g o now).1=0∨(beginG b l g o now).1=noGate:=by
 unfold beginG
 by_cases c:beginE b l g o now=0
 ·rw [if_pos c]
  unfold beginE at c
  obtain ⟨hu,c⟩:=ifz.1 c
  have hg:=upG_check hu
  have ht:(takeT b l g.t o now g.voted.length).2=0:=by
   by_cases c1:0<(ofG g.f).n∧(ofG g.f).ended=false
   ·rw [if_pos c1] at c; cases c
   ·rw [if_neg c1] at c
    by_cases c2:(ofG g.f).n=8
    ·rw [if_pos c2] at c; cases c
    ·rw [if_neg c2] at c; exact c
  left
  simp only
  obtain ⟨k1,k2,k3,k4,k5⟩:=checkG_ok hg
  unfold begunG
  split
  ·refine checkG_mk ?_ ?_ ?_ ?_ ?_
   ·exact (note_allG (g:=g) (r:=[1,(ofG g.f).n+1,o.r.version]) k1).1
   ·simp only [zeros,List.length_replicate]; omega
   ·simp only [zeros,List.length_replicate]; omega
   ·simp only [zeros,List.length_replicate]; omega
   ·exact takeT_right ht
  ·exact checkG_note hg
 ·rw [if_neg c]; exact .inr rfl
end Vm
end Go.Proofs.YtlbppjmekiemiacGreatDoor

/- Plain answers: a vehicle. No condition. -/
namespace Go.Proofs.YtlbppjmekiemiacGreatDoor
namespace Vm

def checkImages:List (List Int)→Int
 | []=>0
 | w::l=>if checkImage w=0 then checkImages l else checkImage w
def checkC (c:Campaign) (n:Int) (units:Nat):Int :=
 if c.n≠n∨c.images.length≠units∨c.r.targets.length≠units then 4
 else if checkImages c.images=0 then checkRelease c.r.version c.r.til c.r.targets else checkImages c.images
def checkUnits:List UnitD→Int
 | []=>0
 | u::l=>if checkU u=0 then checkUnits l else checkU u
def checkCs (units:Nat):Int→List Campaign→Int
 | _,[]=>0
 | n,c::l=>if checkC c n units=0 then checkCs units (n+1) l else checkC c n units
def checkMs (units:Nat):List Message→Int
 | []=>0
 | m::l=>if checkM m=0 then (if (units:Int)≤m.unit then 5 else checkMs units l) else checkM m
def checkV (v:Vehicle):Int :=
 if checkBook v.b=0 then (if checkSigned v.s=0 then (if checkG v.g=0 then
  (if v.units.length=v.g.voted.length then (if checkUnits v.units=0 then
   (if 8<v.campaigns.length∨24<v.net.length then 2 else if checkCs v.units.length 1 v.campaigns=0 then
    (if checkMs v.units.length v.net=0 then (if v.now<0∨100000<v.now then 3 else 0) else checkMs v.units.length v.net)
   else checkCs v.units.length 1 v.campaigns) else checkUnits v.units) else 4) else checkG v.g) else checkSigned v.s) else checkBook v.b
def noVehicle:Vehicle:=⟨[],[],noGate,[],[],[],0⟩
def sendM (net l:List Message):List Message:=net++l.take (24-net.length)
def sendV (v:Vehicle) (l:List Message):Vehicle:=⟨v.b,v.s,v.g,v.units,v.campaigns,sendM v.net l,v.now⟩
def beginV (v:Vehicle) (o:Offer):Gate × Int × Int:=beginG v.b v.s v.g o v.now
def campaignsV (cs:List Campaign) (n:Int) (o:Offer):List Campaign:=if 0<n then cs.take (n-1).toNat++[⟨n,o.r,o.images⟩] else cs
def proposeV (v:Vehicle) (o:Offer):Vehicle × Int :=
 if (beginV v o).2.2=0 then (⟨v.b,v.s,(beginV v o).1,v.units,campaignsV v.campaigns (beginV v o).2.1 o,v.net,v.now⟩,0) else (v,(beginV v o).2.2)
def dropM (v:Vehicle) (k:Nat):Vehicle:=⟨v.b,v.s,v.g,v.units,v.campaigns,v.net.eraseIdx k,v.now⟩
def noMsg:Message:=⟨0,0,0,0,0,[],false⟩
def toGate (m:Message):Bool:=decide (m.kind=3) || decide (m.kind=6) || decide (m.kind=7)
def arrivedG (v:Vehicle) (m:Message):Vehicle :=
 if (hearG v.g m).2=0 then sendV ⟨v.b,v.s,(hearG v.g m).1.1,v.units,v.campaigns,v.net,v.now⟩ (hearG v.g m).1.2 else v
def unitAt (v:Vehicle) (k:Int):UnitD:=v.units.getD k.toNat noUnit
def setU (v:Vehicle) (k:Int) (u:UnitD):Vehicle:=⟨v.b,v.s,v.g,v.units.set k.toNat u,v.campaigns,v.net,v.now⟩
def arrivedU (v:Vehicle) (m:Message):Vehicle :=
 if (hearU v.b (unitAt v m.unit) m).2=0 then sendV (setU v m.unit (hearU v.b (unitAt v m.unit) m).1.1) (hearU v.b (unitAt v m.unit) m).1.2 else v
def arriveV (v:Vehicle) (k:Nat):Vehicle :=
 if toGate (v.net.getD k noMsg)=true then arrivedG (dropM v k) (v.net.getD k noMsg) else arrivedU (dropM v k) (v.net.getD k noMsg)
def fuelG (v:Vehicle) (k:Int):Vehicle:=⟨v.b,v.s,⟨⟨v.g.f.words,k⟩,v.g.up,v.g.t,v.g.voted,v.g.did⟩,v.units,v.campaigns,v.net,v.now⟩
def fuelU (u:UnitD) (k:Int):UnitD:=⟨⟨u.f.words,k⟩,u.up,u.n,u.got⟩
def bootsG (v:Vehicle):Vehicle:=⟨v.b,v.s,(bootG v.g).1,v.units,v.campaigns,v.net,v.now⟩
def powerV (v:Vehicle) (kind unit k:Int):Vehicle × Int :=
 if unit < -1∨(v.units.length:Int)≤unit then (v,5) else if kind=6∧(k<0∨100000<k) then (v,3)
 else if kind=6 then (if unit<0 then (fuelG v k,0) else (setU v unit (fuelU (unitAt v unit) k),0))
 else if unit<0 then (bootsG v,0) else (setU v unit (bootU (unitAt v unit)).1,0)
def askM (k n:Int):List Message:=[⟨7,k,n,0,0,[],false⟩]
def asksV (v:Vehicle) (k:Int):Vehicle × Int :=
 if (unitAt v k).up=true then (if (readU (unitAt v k)).1.ready<1∨8<(readU (unitAt v k)).1.ready then (v,12) else (sendV v (askM k (readU (unitAt v k)).1.ready),0)) else (v,7)
def noCampaign:Campaign:=⟨0,⟨0,0,[]⟩,[]⟩
def campaignOf (v:Vehicle):Campaign:=if 0<(readG v.g).1.n then v.campaigns.getD ((readG v.g).1.n-1).toNat noCampaign else noCampaign
def pokeV (v:Vehicle) (k:Int):Vehicle × Int :=
 if (v.campaigns.length:Int)<(readG v.g).1.n then (v,5)
 else if (dueG v.g (campaignOf v) k).2=0 then (sendV v (dueG v.g (campaignOf v) k).1,0) else (v,(dueG v.g (campaignOf v) k).2)
def netV (v:Vehicle) (kind k:Int):Vehicle × Int :=
 if k<0∨(v.net.length:Int)≤k then (v,5)
 else if kind=3 then (arriveV v k.toNat,0) else if kind=4 then (dropM v k.toNat,0)
 else if kind=5 then (if v.net.length=24 then (v,8) else (sendV v [v.net.getD k.toNat noMsg],0)) else (v,0)
def gaveV (v:Vehicle):Vehicle × Int:=if (giveG v.g).2=0 then (⟨v.b,v.s,(giveG v.g).1,v.units,v.campaigns,v.net,v.now⟩,0) else (v,(giveG v.g).2)
def tickV (v:Vehicle):Vehicle × Int:=if v.now=100000 then (v,8) else (⟨v.b,v.s,v.g,v.units,v.campaigns,v.net,v.now+1⟩,0)
def stepV (v:Vehicle) (x:Happening):Vehicle × Int :=
 if x.kind=1 then proposeV v x.o
 else if x.kind=3∨x.kind=4∨x.kind=5 then netV v x.kind x.k
 else if x.kind=6∨x.kind=7 then powerV v x.kind x.unit x.k
 else if x.kind=8 then gaveV v
 else if x.kind=2∨x.kind=9 then (if x.unit<0∨(v.units.length:Int)≤x.unit then (v,5) else if x.kind=2 then pokeV v x.unit else asksV v x.unit)
 else if x.kind=10 then tickV v else (v,4)
def doV (v:Vehicle) (x:Happening):Vehicle × Int :=
 if checkV v=0 then (if (stepV v x).2=0 then ((stepV v x).1,0) else (noVehicle,(stepV v x).2)) else (noVehicle,checkV v)
def runsV:Vehicle→List Happening→Vehicle × List Int
 | v,[]=>(v,[])
 | v,x::l=>((runsV (if (stepV v x).2=0 then (stepV v x).1 else v) l).1,(stepV v x).2::(runsV (if (stepV v x).2=0 then (stepV v x).1 else v) l).2)
def runV (v:Vehicle) (l:List Happening):Vehicle × List Int × Int :=
 if checkV v=0 then (if 160<l.length then (noVehicle,[],2) else ((runsV v l).1,(runsV v l).2,0)) else (noVehicle,[],checkV v)
def madeU (b:List (List UInt8)):List (List Int)→List UnitD × Int
 | []=>([],0)
 | w::l =>
  if (imageName b w).2=0 then (if (imageName b w).1=0 then ([],5)
   else if (newU w (imageName b w).1).2=0 then (if (madeU b l).2=0 then ((newU w (imageName b w).1).1::(madeU b l).1,0) else ([],(madeU b l).2)) else ([],(newU w (imageName b w).1).2))
  else ([],(imageName b w).2)
def newV (b:List (List UInt8)) (s:List Signed) (r:Root) (images:List (List Int)):Vehicle × Int :=
 if checkBook b=0 then (if checkSigned s=0 then (if (newG r images.length).2=0 then
  (if (madeU b images).2=0 then (⟨b,s,(newG r images.length).1,(madeU b images).1,[],[],0⟩,0) else (noVehicle,(madeU b images).2))
  else (noVehicle,(newG r images.length).2)) else (noVehicle,checkSigned s)) else (noVehicle,checkBook b)
def smW (l:List (List Int)):Bool:=l.all fun w=>decide (w.length≤1000)
def smMW (l:List Message):Bool:=l.all fun m=>decide (m.words.length≤1000)
end Vm
end Go.Proofs.YtlbppjmekiemiacGreatDoor

/- Plain laws: a vehicle that is one. No condition. -/
namespace Go.Proofs.YtlbppjmekiemiacGreatDoor
namespace Vm

theorem setAt_self {α:Type} {l:List α} {k:Nat} (h:k<l.length) (d:α):setAt l k (nth l k d)=l:=by
 unfold setAt nth
 rw [List.getD_eq_getElem?_getD,List.getElem?_eq_getElem h]
 exact List.set_getElem_self h
theorem nth_mem {α:Type} {l:List α} {k:Nat} (h:k<l.length) (d:α):nth l k d∈l:=by
 have:nth l k d=l[k]:=by simp [nth,List.getD_eq_getElem?_getD,h]
 rw [this]; exact List.getElem_mem h
theorem checkUnits_all:∀ {l:List UnitD},checkUnits l=0→∀ u∈l,checkU u=0
 | [],_,u,hu=>by cases hu
 | x::l,h,u,hu=>by
  obtain ⟨h1,h2⟩:=ifz.1 h
  rcases List.mem_cons.1 hu with rfl | hu
  ·exact h1
  ·exact checkUnits_all h2 u hu
theorem checkUnits_mk:∀ {l:List UnitD},(∀ u∈l,checkU u=0)→checkUnits l=0
 | [],_=>rfl
 | x::l,h=>ifz.2 ⟨h x (by simp),checkUnits_mk fun u hu=>h u (by simp [hu])⟩
theorem checkImages_all:∀ {l:List (List Int)},checkImages l=0→∀ w∈l,checkImage w=0
 | [],_,u,hu=>by cases hu
 | x::l,h,u,hu=>by
  obtain ⟨h1,h2⟩:=ifz.1 h
  rcases List.mem_cons.1 hu with rfl | hu
  ·exact h1
  ·exact checkImages_all h2 u hu
theorem checkImages_mk:∀ {l:List (List Int)},(∀ w∈l,checkImage w=0)→checkImages l=0
 | [],_=>rfl
 | x::l,h=>ifz.2 ⟨h x (by simp),checkImages_mk fun u hu=>h u (by simp [hu])⟩
theorem checkMs_all {n:Nat}:∀ {l:List Message},checkMs n l=0→∀ m∈l,checkM m=0∧m.unit<n
 | [],_,u,hu=>by cases hu
 | x::l,h,u,hu=>by
  obtain ⟨h1,h2⟩:=ifz.1 h
  by_cases c:(n:Int)≤x.unit
  ·rw [if_pos c] at h2; cases h2
  ·rw [if_neg c] at h2
   rcases List.mem_cons.1 hu with rfl | hu
   ·exact ⟨h1,by omega⟩
   ·exact checkMs_all h2 u hu
theorem checkMs_mk {n:Nat}:∀ {l:List Message},(∀ m∈l,checkM m=0∧m.unit<n)→checkMs n l=0
 | [],_=>rfl
 | x::l,h=>ifz.2 ⟨(h x (by simp)).1,by rw [if_neg (by have:=(h x (by simp)).2; omega)]; exact checkMs_mk fun u hu=>h u (by simp [hu])⟩
theorem checkC_ok {c:Campaign} {n:Int} {k:Nat} (h:checkC c n k=0):c.n=n∧c.images.length=k∧c.r.targets.length=k∧(∀ w∈c.images,checkImage w=0)∧checkRelease c.r.version c.r.til c.r.targets=0:=by
 unfold checkC at h
 by_cases a:c.n≠n∨c.images.length≠k∨c.r.targets.length≠k
 ·rw [if_pos a] at h; cases h
 ·rw [if_neg a] at h
  obtain ⟨h1,h2⟩:=ifz.1 h
  simp only [not_or,Decidable.not_not,ne_eq] at a
  exact ⟨a.1,a.2.1,a.2.2,checkImages_all h1,h2⟩
theorem checkCs_all {k:Nat}:∀ {l:List Campaign} {n:Int},checkCs k n l=0→∀ i,i<l.length→∀ d,checkC (nth l i d) (n+i) k=0
 | [],_,_,i,hi,_=>by simp at hi
 | x::l,n,h,i,hi,d=>by
  obtain ⟨h1,h2⟩:=ifz.1 h
  cases i with
  | zero=>simp only [nth,List.getD_cons_zero]; rw [show n+((0:Nat):Int)=n by omega]; exact h1
  | succ i =>
   have:=checkCs_all h2 i (by simpa using hi) d
   rw [show n+1+(i:Int)=n+((i+1:Nat):Int) by omega] at this
   simpa [nth] using this
theorem checkCs_mk {k:Nat}:∀ {l:List Campaign} {n:Int},(∀ i,i<l.length→∀ d,checkC (nth l i d) (n+i) k=0)→checkCs k n l=0
 | [],_,_=>rfl
 | x::l,n,h=>by
  refine ifz.2 ⟨?_,checkCs_mk fun i hi d=>?_⟩
  ·have:=h 0 (by simp) x
   rw [show n+((0:Nat):Int)=n by omega] at this
   exact this
  ·have:=h (i+1) (by simpa using hi) d
   rw [show n+((i+1:Nat):Int)=n+1+(i:Int) by omega] at this
   simpa [nth] using this
structure OkV (v:Vehicle):Prop where
 b:checkBook v.b=0
 s:checkSigned v.s=0
 g:checkG v.g=0
 n:v.units.length=v.g.voted.length
 u:∀ u∈v.units,checkU u=0
 c8:v.campaigns.length≤8
 n24:v.net.length≤24
 c:checkCs v.units.length 1 v.campaigns=0
 m:∀ m∈v.net,checkM m=0∧m.unit<v.units.length
 t0:0≤v.now
 t1:v.now≤100000
theorem checkV_ok {v:Vehicle} (h:checkV v=0):OkV v:=by
 unfold checkV at h
 obtain ⟨h1,h⟩:=ifz.1 h
 obtain ⟨h2,h⟩:=ifz.1 h
 obtain ⟨h3,h⟩:=ifz.1 h
 by_cases c1:v.units.length=v.g.voted.length
 ·rw [if_pos c1] at h
  obtain ⟨h4,h⟩:=ifz.1 h
  by_cases c2:8<v.campaigns.length∨24<v.net.length
  ·rw [if_pos c2] at h; cases h
  ·rw [if_neg c2] at h
   obtain ⟨h5,h⟩:=ifz.1 h
   obtain ⟨h6,h⟩:=ifz.1 h
   by_cases c3:v.now<0∨100000<v.now
   ·rw [if_pos c3] at h; cases h
   ·exact ⟨h1,h2,h3,c1,checkUnits_all h4,by omega,by omega,h5,checkMs_all h6,by omega,by omega⟩
 ·rw [if_neg c1] at h; cases h
theorem checkV_mk {v:Vehicle} (h:OkV v):checkV v=0:=by
 unfold checkV
 rw [if_pos h.b,if_pos h.s,if_pos h.g,if_pos h.n,if_pos (checkUnits_mk h.u),if_neg (by have:=h.c8; have:=h.n24; omega),if_pos h.c,if_pos (checkMs_mk h.m),if_neg (by have:=h.t0; have:=h.t1; omega)]
theorem OkV.units4 {v:Vehicle} (h:OkV v):1≤v.units.length∧v.units.length≤4:=by
 obtain ⟨_,a,b,_⟩:=checkG_ok h.g
 rw [h.n]; exact ⟨a,b⟩
theorem smW_of {l:List (List Int)} (h:∀ w∈l,checkImage w=0):smW l=true:=List.all_eq_true.2 fun w hw=>by
 have:=(checkImage_ok (h w hw)).2.1
 exact decide_eq_true (by omega)
theorem smMW_of {l:List Message} (h:∀ m∈l,m.words.length≤8):smMW l=true:=List.all_eq_true.2 fun m hm=>by
 have:=h m hm
 exact decide_eq_true (by omega)
theorem sendM_nil (net:List Message):sendM net []=net:=by simp [sendM]
theorem sendM_cons (net:List Message) (m:Message) (l:List Message):sendM net (m::l)=if net.length<24 then sendM (net++[m]) l else sendM net l:=by
 unfold sendM
 by_cases c:net.length<24
 ·rw [if_pos c,show 24-net.length=(24-(net++[m]).length)+1 by simp; omega,List.take_succ_cons]
  simp
 ·rw [if_neg c,show 24-net.length=0 by omega]; simp
end Vm
end Go.Proofs.YtlbppjmekiemiacGreatDoor

/- Plain laws: what begins a campaign; what a vehicle's steps keep. No condition. -/
namespace Go.Proofs.YtlbppjmekiemiacGreatDoor
namespace Vm

theorem okImages_all {b:List (List UInt8)}:∀ {ts:List Target} {ws:List (List Int)},okImages b ts ws=true→ts.length=ws.length→∀ w∈ws,checkImage w=0
 | [],[],_,_,w,hw=>by cases hw
 | [],_::_,_,h,_,_=>by simp at h
 | _::_,[],_,h,_,_=>by simp at h
 | t::ts,x::ws,h,hl,w,hw=>by
  simp only [okImages,List.headD_cons,List.tail_cons,Bool.and_eq_true] at h
  rcases List.mem_cons.1 hw with rfl | hw
  ·have:=h.1
   simp only [okImage,Bool.and_eq_true,decide_eq_true_eq] at this
   have h2:=this.1.1
   unfold imageName at h2
   by_cases c:checkImage w=0
   ·exact c
   ·rw [if_neg c] at h2; exact absurd h2 c
  ·exact okImages_all h.2 (by simpa using hl) w hw
theorem beginG_ok {b:List (List UInt8)} {l:List Signed} {g:Gate} {o:Offer} {now:Int} (h:(beginG b l g o now).2.2=0) :
  checkG g=0∧g.up=true∧¬ (0<(ofG g.f).n∧(ofG g.f).ended=false)∧(ofG g.f).n≠8∧(takeT b l g.t o now g.voted.length).2=0 ∧
  beginG b l g o now=((begunG g (ofG g.f) (takeT b l g.t o now g.voted.length).1 o.r.version).1,(begunG g (ofG g.f) (takeT b l g.t o now g.voted.length).1 o.r.version).2,0):=by
 unfold beginG at h ⊢
 by_cases c:beginE b l g o now=0
 ·rw [if_pos c]
  unfold beginE at c
  obtain ⟨hu,c⟩:=ifz.1 c
  have hup:g.up=true:=by
   unfold upG at hu
   rw [if_pos (upG_check hu)] at hu
   by_cases d:g.up=true
   ·exact d
   ·rw [if_neg d] at hu; cases hu
  by_cases c1:0<(ofG g.f).n∧(ofG g.f).ended=false
  ·rw [if_pos c1] at c; cases c
  ·rw [if_neg c1] at c
   by_cases c2:(ofG g.f).n=8
   ·rw [if_pos c2] at c; cases c
   ·rw [if_neg c2] at c
    exact ⟨upG_check hu,hup,c1,c2,c,rfl⟩
 ·rw [if_neg c] at h; exact absurd h c
theorem begunG_n {g:Gate} {s:GState} {t:Trust} {v:Int}:(begunG g s t v).2=0∨((begunG g s t v).2=s.n+1∧(noteG g [1,s.n+1,v]).2=true):=by
 unfold begunG
 split
 ·rename_i h; exact .inr ⟨rfl,h⟩
 ·exact .inl rfl
theorem takeT_more {b:List (List UInt8)} {l:List Signed} {t:Trust} {o:Offer} {now units:Int} (h:(takeT b l t o now units).2=0) :
  checkRelease o.r.version o.r.til o.r.targets=0∧(o.r.targets.length:Int)=units∧(o.images.length:Int)=units∧(∀ w∈o.images,checkImage w=0)∧now≤o.r.til∧(takeT b l t o now units).1.version=o.r.version∧t.version<o.r.version:=by
 obtain ⟨h1,_,_,h4,h5,h6⟩:=takeT_ok h
 obtain ⟨q1,_,_,_⟩:=rootsT_ok o.roots o.rootSigs _ h1 h4
 obtain ⟨r1,_,_,r4,r5,r6,r7,r8⟩:=relE_ok h5
 exact ⟨r1,r6,r7,okImages_all r8 (by omega),r5,by rw [h6],by omega⟩
theorem take_min {α:Type} (l:List α) (k:Nat):l.take (min k l.length)=l.take k:=by
 by_cases h:k≤l.length
 ·rw [Nat.min_eq_left h]
 ·rw [Nat.min_eq_right (by omega),List.take_length,List.take_of_length_le (by omega)]
theorem beginV_n {v:Vehicle} {o:Offer} (h:(beginV v o).2.2=0):(beginV v o).2.1=0∨((beginV v o).2.1=(ofG v.g.f).n+1∧1≤(beginV v o).2.1∧(beginV v o).2.1≤8):=by
 unfold beginV at h ⊢
 obtain ⟨_,_,_,h4,_,h6⟩:=beginG_ok h
 rw [h6]
 obtain ⟨a,b,_⟩:=ofG_ok v.g.f
 rcases begunG_n (g:=v.g) (s:=ofG v.g.f) (t:=(takeT v.b v.s v.g.t o v.now v.g.voted.length).1) (v:=o.r.version) with h | ⟨h,_⟩
 ·exact .inl h
 ·exact .inr ⟨h,by simp only; omega,by simp only; omega⟩
theorem hearG_says (g:Gate) (m:Message):(hearG g m).1.2=[]∨∃ k,(hearG g m).1.2=[⟨k,m.unit,m.n,0,0,[],false⟩]:=by
 unfold hearG
 by_cases c:hearGE g m=0
 ·rw [if_pos c]
  unfold hearsG
  split
  ·unfold hearsS
   split
   ·split
    ·exact .inl rfl
    ·exact .inl rfl
   ·split
    ·split
     ·exact .inl rfl
     ·exact .inl rfl
    ·split
     ·split
      ·exact .inr ⟨_,rfl⟩
      ·exact .inl rfl
     ·exact .inl rfl
  ·exact .inl rfl
 ·rw [if_neg c]; exact .inl rfl
theorem hearU_says (b:List (List UInt8)) (u:UnitD) (m:Message):(hearU b u m).1.2=[]∨∃ k y,(hearU b u m).1.2=[⟨k,m.unit,m.n,0,0,[],y⟩]:=by
 unfold hearU
 by_cases c:hearE b u m=0
 ·rw [if_pos c]
  rcases hears_says' (b:=b) (u:=u) (m:=m) with h | h | ⟨y,h⟩
  ·exact .inl h
  ·exact .inr ⟨_,_,h⟩
  ·exact .inr ⟨_,_,h⟩
 ·rw [if_neg c]; exact .inl rfl
theorem small_one {l:List Message} {k u n:Int} {y:Bool} (h:l=[]∨l=[⟨k,u,n,0,0,[],y⟩]):l.length≤1000∧smMW l=true:=by
 rcases h with h | h
 ·subst h; exact ⟨by simp,rfl⟩
 ·subst h; exact ⟨by simp,by simp [smMW]⟩
theorem hearG_small (g:Gate) (m:Message):(hearG g m).1.2.length≤1000∧smMW (hearG g m).1.2=true:=by
 rcases hearG_says g m with h | ⟨k,h⟩
 ·exact small_one (k:=0) (u:=0) (n:=0) (y:=false) (.inl h)
 ·exact small_one (.inr h)
theorem hearU_small (b:List (List UInt8)) (u:UnitD) (m:Message):(hearU b u m).1.2.length≤1000∧smMW (hearU b u m).1.2=true:=by
 rcases hearU_says b u m with h | ⟨k,y,h⟩
 ·exact small_one (k:=0) (u:=0) (n:=0) (y:=false) (.inl h)
 ·exact small_one (.inr h)
theorem piecesM_small (u n:Int) (w:List Int):∀ (d k:Nat),(piecesM u n w d k).length≤d∧∀ m∈piecesM u n w d k,m.words.length≤8
 | 0,_=>⟨by simp [piecesM],fun m hm=>by simp [piecesM] at hm⟩
 | d+1,k=>by
  unfold piecesM
  obtain ⟨h1,h2⟩:=piecesM_small u n w d (k+8)
  split
  ·refine ⟨by simp only [List.length_cons]; omega,fun m hm=>?_⟩
   rcases List.mem_cons.1 hm with rfl | hm
   ·simp only [pieceM,slc,List.length_drop,List.length_take]; omega
   ·exact h2 m hm
  ·exact ⟨by simp,fun m hm=>by simp at hm⟩
theorem dueG_small (g:Gate) (c:Campaign) (u:Int):(dueG g c u).1.length≤1000∧smMW (dueG g c u).1=true:=by
 have none:([]:List Message).length≤1000∧smMW []=true:=⟨by simp,rfl⟩
 unfold dueG
 split
 ·unfold duesG
  split
  ·split
   ·exact none
   ·exact ⟨by simp,rfl⟩
  ·split
   ·exact none
   ·unfold imageM
    split
    ·exact none
    ·obtain ⟨h1,h2⟩:=piecesM_small u (ofG g.f).n (nth c.images u.toNat []) 6 0
     refine ⟨by simp only [List.length_append,List.length_cons,List.length_nil]; omega,smMW_of fun m hm=>?_⟩
     rcases List.mem_append.1 hm with hm | hm
     ·exact h2 m hm
     ·simp only [List.mem_singleton] at hm; subst hm; simp
 ·exact none
theorem readG_n (g:Gate):0≤(readG g).1.n∧(readG g).1.n≤8:=by
 unfold readG
 split
 ·exact ⟨(ofG_ok g.f).n0,(ofG_ok g.f).n8⟩
 ·simp [noState]
end Vm
end Go.Proofs.YtlbppjmekiemiacGreatDoor

/- Plain answers: vehicles compared; the rest of the vehicle's laws. No condition. -/
namespace Go.Proofs.YtlbppjmekiemiacGreatDoor
namespace Vm

theorem newG_units {r:Root} {n:Int} (h:(newG r n).2=0):1≤n∧n≤4:=by
 unfold newG at h
 split at h
 ·cases h
 ·omega
def nameIn (b:List (List UInt8)) (s:List UInt8):List (List UInt8) × Int:=if 0≤indexS s b then (b,indexS s b+1) else (b++[s],(b.length:Int)+1)
def imgF (v k:Int):List Int:=zeros (3+9*k+v).toNat (100*v+k)
structure Fab where
 b:List (List UInt8)
 first:List (List Int)
 ts:List Vm.Target
 ims:List (List Int)
def fabK (v k:Int) (f:Fab):Fab :=
 ⟨(nameIn f.b (imageTextE (imgF v k)).1).1,if v=0 then f.first++[imgF v k] else f.first,f.ts++[⟨k,(nameIn f.b (imageTextE (imgF v k)).1).2,((imgF v k).length:Int)⟩],f.ims++[imgF v k]⟩
def fabKs (v:Int):Nat→Int→Fab→Fab
 | 0,_,f=>f
 | n+1,k,f=>fabKs v n (k+1) (fabK v k f)
structure Fac where
 b:List (List UInt8)
 l:List Signed
 first:List (List Int)
 offers:List Offer
def relOf (v til:Int) (f:Fab):Release:=⟨max v 1,til,f.ts⟩
def textOf (v til:Int) (f:Fab):List UInt8:=(releaseTextE (max v 1) til f.ts).1
def facEnd (til v:Int) (a:Fac) (f:Fab):Fac :=
 if v=0 then ⟨f.b,a.l,f.first,a.offers⟩
 else ⟨(nameIn f.b (textOf v til f)).1,(if v=3 then a.l else a.l++[⟨3,(nameIn f.b (textOf v til f)).2⟩])++[⟨5,(nameIn f.b (textOf v til f)).2⟩],f.first,a.offers++[⟨[],[],relOf v til f,[3,5],f.ims⟩]⟩
def fab0 (a:Fac):Fab:=⟨a.b,a.first,[],[]⟩
def facV (units:Nat) (til v:Int) (a:Fac):Fac:=facEnd til v a (fabKs v units 0 (fab0 a))
theorem nameIn_len (b:List (List UInt8)) (s:List UInt8):(nameIn b s).1.length≤b.length+1:=by
 unfold nameIn
 split
 ·exact Nat.le_succ _
 ·simp
def imgOk (units:Nat):Bool:=(List.range 4).all fun v=>(List.range units).all fun k=>eqi (imageTextE (imgF v k)).2 0
def facOk1 (units:Nat) (til v:Int) (a:Fac):Bool:=eqi (releaseTextE (max v 1) til (fabKs v units 0 (fab0 a)).ts).2 0
def fac1 (units:Nat) (til:Int):Fac:=facV units til 0 ⟨[],[],[],[]⟩
def fac2 (units:Nat) (til:Int):Fac:=facV units til 1 (fac1 units til)
def fac3 (units:Nat) (til:Int):Fac:=facV units til 2 (fac2 units til)
def facR (units:Nat) (til:Int):Fac:=facV units til 3 (fac3 units til)
def facO (units:Nat) (til:Int):List Offer:=(facR units til).offers
def facRoot:Root:=⟨1,[3,4,5],2⟩
def facN (units:Nat) (til:Int):Vehicle × Int:=newV (facR units til).b (facR units til).l facRoot (facR units til).first
def facOk (units:Nat) (til:Int):Bool:=imgOk units && (facOk1 units til 1 (fac1 units til) && (facOk1 units til 2 (fac2 units til) && (facOk1 units til 3 (fac3 units til) && (eqi (facN units til).2 0 && eqi ((facN units til).1.units.length:Int) units))))
end Vm
end Go.Proofs.YtlbppjmekiemiacGreatDoor

/- Plain laws: the vehicle's net. No condition. -/
namespace Go.Proofs.YtlbppjmekiemiacGreatDoor
namespace Vm

theorem mem_nth {α:Type} {l:List α} {x:α} (h:x∈l) (d:α):∃ i,i<l.length∧nth l i d=x:=by
 obtain ⟨i,hi,e⟩:=List.getElem_of_mem h
 exact ⟨i,hi,by simp [nth,List.getD_eq_getElem?_getD,hi,e]⟩
theorem OkV.camp {v:Vehicle} (H:OkV v):∀ c∈v.campaigns,c.images.length=v.units.length∧c.r.targets.length=v.units.length∧(∀ w∈c.images,checkImage w=0)∧checkRelease c.r.version c.r.til c.r.targets=0:=fun c hc=>by
 obtain ⟨i,hi,e⟩:=mem_nth hc noCampaign
 have:=checkC_ok (checkCs_all H.c i hi noCampaign)
 rw [e] at this
 exact this.2
end Vm
end Go.Proofs.YtlbppjmekiemiacGreatDoor

/- Plain answers: offers in a script; the tour. No condition. -/
namespace Go.Proofs.YtlbppjmekiemiacGreatDoor
namespace Vm

def offerX (os:List Offer) (x:Happening):Happening:=if x.kind=1∧0<os.length then ⟨x.kind,x.unit,x.k,nth os (x.k % (os.length:Int)).toNat (Ty.dflt .offer)⟩ else x
def offersV (os:List Offer) (l:List Happening):List Happening:=(l.take 160).map (offerX os)
def doneV (v:Vehicle) (x:Happening):Vehicle:=if (doV v x).2=0 then (doV v x).1 else v
theorem setU_units (v:Vehicle) (k:Int) (u:UnitD):(setU v k u).units.length=v.units.length:=List.length_set
theorem step_units (v:Vehicle) (x:Happening):(stepV v x).1.units.length=v.units.length:=by
 have hs:∀ (w:Vehicle) (l:List Message),(sendV w l).units=w.units:=fun _ _=>rfl
 unfold stepV
 split
 ·unfold proposeV; split<;>rfl
 split
 ·unfold netV
  split
  ·rfl
  split
  ·unfold arriveV
   split
   ·unfold arrivedG; split<;>rfl
   ·unfold arrivedU
    split
    ·rw [hs]; exact setU_units _ _ _
    ·rfl
  split
  ·rfl
  split
  ·split<;>rfl
  ·rfl
 split
 ·unfold powerV
  split
  ·rfl
  split
  ·rfl
  split
  ·split
   ·rfl
   ·exact setU_units _ _ _
  split
  ·rfl
  ·exact setU_units _ _ _
 split
 ·unfold gaveV; split<;>rfl
 split
 ·split
  ·rfl
  split
  ·unfold pokeV
   split
   ·rfl
   split<;>rfl
  ·unfold asksV
   split
   ·split<;>rfl
   ·rfl
 split
 ·unfold tickV; split<;>rfl
 ·rfl
theorem done_units (v:Vehicle) (x:Happening):(doneV v x).units.length=v.units.length:=by
 unfold doneV doV
 by_cases h:checkV v=0
 ·by_cases h2:(stepV v x).2=0
  ·rw [if_pos h,if_pos h2,if_pos rfl]; exact step_units v x
  ·rw [if_pos h,if_neg h2,if_neg h2]
 ·rw [if_neg h,if_neg h]
end Vm
end Go.Proofs.YtlbppjmekiemiacGreatDoor

/- Plain laws: what each step of a vehicle keeps. No condition. -/
namespace Go.Proofs.YtlbppjmekiemiacGreatDoor
namespace Vm

def cutM (m:Message):Message:=⟨m.kind,m.unit,m.n,m.at_,0,m.words,m.yes⟩
def msgOk (n:Nat) (m:Message):Bool:=decide (checkM (cutM m)=0) && decide (m.unit<(n:Int))
def campOk (n:Nat) (c:Campaign):Bool:=decide (c.images.length=n) && (decide (c.r.targets.length=n) && ((c.images.all fun w=>decide (checkImage w=0)) && decide (checkRelease c.r.version c.r.til c.r.targets=0)))
structure OkW (v:Vehicle):Prop where
 b:checkBook v.b=0
 s:checkSigned v.s=0
 g:checkG v.g=0
 n:v.units.length=v.g.voted.length
 u:∀ u∈v.units,checkU u=0
 c8:v.campaigns.length≤8
 n24:v.net.length≤24
 c:v.campaigns.all (campOk v.units.length)=true
 m:v.net.all (msgOk v.units.length)=true
 t0:0≤v.now
 t1:v.now≤100000
def okW (v:Vehicle):Bool:=decide (checkBook v.b=0) && (decide (checkSigned v.s=0) && (decide (checkG v.g=0) && (decide (v.units.length=v.g.voted.length) && ((v.units.all fun u=>decide (checkU u=0)) && (decide (v.campaigns.length≤8) && (decide (v.net.length≤24) && (v.campaigns.all (campOk v.units.length) && (v.net.all (msgOk v.units.length) && (decide (0≤v.now) && decide (v.now≤100000))))))))))
theorem okW_iff {v:Vehicle}:okW v=true↔OkW v:=by
 simp only [okW,Bool.and_eq_true,decide_eq_true_eq,List.all_eq_true (p:=fun u=>decide (checkU u=0))]
 exact ⟨fun ⟨a,b,c,d,e,f,g,h,i,j,k⟩=>⟨a,b,c,d,e,f,g,h,i,j,k⟩,fun ⟨a,b,c,d,e,f,g,h,i,j,k⟩=>⟨a,b,c,d,e,f,g,h,i,j,k⟩⟩
theorem OkW.camp {v:Vehicle} (H:OkW v):∀ c∈v.campaigns,c.images.length=v.units.length∧c.r.targets.length=v.units.length∧(∀ w∈c.images,checkImage w=0)∧checkRelease c.r.version c.r.til c.r.targets=0:=fun c hc=>by
 have:=List.all_eq_true.1 H.c c hc
 simpa only [campOk,Bool.and_eq_true,decide_eq_true_eq,List.all_eq_true] using this
theorem OkW.msg {v:Vehicle} (H:OkW v):∀ m∈v.net,checkM (cutM m)=0∧m.unit<(v.units.length:Int):=fun m hm=>by
 have:=List.all_eq_true.1 H.m m hm
 simpa only [msgOk,Bool.and_eq_true,decide_eq_true_eq] using this
theorem checkM_cut {m:Message} (h:checkM m=0):checkM (cutM m)=0:=by
 obtain ⟨h1,h2,h3,h4,h5,h6,h7,h8,h9,h10,h11,h12⟩:=checkM_ok h
 unfold checkM cutM
 simp only
 rw [if_neg (by omega),if_pos h12]
theorem okV_w {v:Vehicle} (H:OkV v):OkW v :=
 ⟨H.b,H.s,H.g,H.n,H.u,H.c8,H.n24,List.all_eq_true.2 fun c hc=>by
  obtain ⟨a1,a2,a3,a4⟩:=H.camp c hc
  simp only [campOk,Bool.and_eq_true,decide_eq_true_eq]
  exact ⟨a1,a2,List.all_eq_true.2 fun w hw=>decide_eq_true (a3 w hw),a4⟩,List.all_eq_true.2 fun m hm=>by
  obtain ⟨a1,a2⟩:=H.m m hm
  simp only [msgOk,Bool.and_eq_true,decide_eq_true_eq]
  exact ⟨checkM_cut a1,a2⟩,H.t0,H.t1⟩
theorem OkW.units4 {v:Vehicle} (h:OkW v):1≤v.units.length∧v.units.length≤4:=by
 obtain ⟨_,a,b,_⟩:=checkG_ok h.g
 rw [h.n]; exact ⟨a,b⟩
theorem OkW.gate {v:Vehicle} (H:OkW v) {g:Gate} (h1:checkG g=0) (h2:g.voted.length=v.g.voted.length):OkW ⟨v.b,v.s,g,v.units,v.campaigns,v.net,v.now⟩ :=
 ⟨H.b,H.s,h1,H.n.trans h2.symm,H.u,H.c8,H.n24,H.c,H.m,H.t0,H.t1⟩
theorem OkW.unit {v:Vehicle} (H:OkW v) {u:UnitD} {k:Int} (h1:checkU u=0):OkW (setU v k u):=by
 have e:=setU_units v k u
 refine ⟨H.b,H.s,H.g,e.trans H.n,fun x hx=>?_,H.c8,H.n24,by rw [e]; exact H.c,by rw [e]; exact H.m,H.t0,H.t1⟩
 rcases List.mem_or_eq_of_mem_set hx with q | q
 ·exact H.u x q
 ·rw [q]; exact h1
theorem OkW.send {v:Vehicle} (H:OkW v) {l:List Message} (h:∀ m∈l,msgOk v.units.length m=true):OkW (sendV v l):=by
 have n24:=H.n24
 refine ⟨H.b,H.s,H.g,H.n,H.u,H.c8,?_,H.c,List.all_eq_true.2 fun m hm=>?_,H.t0,H.t1⟩
 ·show (v.net++l.take (24-v.net.length)).length≤24
  simp; omega
 ·rcases List.mem_append.1 (show m∈v.net++l.take (24-v.net.length) from hm) with q | q
  ·exact List.all_eq_true.1 H.m m q
  ·exact h m (List.mem_of_mem_take q)
theorem OkW.drop {v:Vehicle} (H:OkW v) (k:Nat):OkW (dropM v k):=by
 have n24:=H.n24
 refine ⟨H.b,H.s,H.g,H.n,H.u,H.c8,?_,H.c,List.all_eq_true.2 fun m hm=>?_,H.t0,H.t1⟩
 ·exact Nat.le_trans (List.length_eraseIdx_le v.net k) n24
 ·exact List.all_eq_true.1 H.m m (List.mem_of_mem_eraseIdx hm)
theorem msg_mk {n:Nat} {k u q:Int} {y:Bool} (h1:1≤k∧k≤7) (h2:0≤u∧u<(n:Int)) (h3:n≤4) (h4:1≤q∧q≤8):msgOk n ⟨k,u,q,0,0,[],y⟩=true:=by
 have:checkM (cutM ⟨k,u,q,0,0,[],y⟩)=0:=by
  unfold checkM cutM
  simp only [List.length_nil]
  rw [if_neg (by omega)]; rfl
 simp only [msgOk,this,Bool.and_eq_true,decide_eq_true_eq]
 exact ⟨trivial,h2.2⟩
theorem hearG_w {v:Vehicle} (H:OkW v) {m:Message} (h:(hearG v.g m).2=0):OkW (sendV ⟨v.b,v.s,(hearG v.g m).1.1,v.units,v.campaigns,v.net,v.now⟩ (hearG v.g m).1.2):=by
 obtain ⟨u1,u4⟩:=H.units4
 obtain ⟨h1,⟨m1,m2,m3,m4⟩,h3⟩:=hearG_ok h
 rw [h3]
 have hn:=H.n
 refine (H.gate (hearsG_all h1 m3).1 (hearsG_len h1).1).send fun y hy=>?_
 have key:∀ s:GState,msgOk v.units.length (decisionM s m.unit m.n)=true:=fun s=>by
  refine msg_mk ?_ ⟨m1,by omega⟩ u4 ⟨m3,m4⟩
  unfold kindG
  split<;>omega
 have hy:y∈(hearsG v.g m).2:=hy
 unfold hearsG at hy
 split at hy
 ·unfold hearsS at hy
  split at hy
  ·split at hy<;>simp at hy
  split at hy
  ·split at hy<;>simp at hy
  split at hy
  ·split at hy
   ·rw [List.mem_singleton.1 hy]; exact key _
   ·simp at hy
  ·simp at hy
 ·simp at hy
theorem hearU_w {v:Vehicle} (H:OkW v) {m:Message} (hm:m.unit<(v.units.length:Int)) (h:(hearU v.b (unitAt v m.unit) m).2=0):OkW (sendV (setU v m.unit (hearU v.b (unitAt v m.unit) m).1.1) (hearU v.b (unitAt v m.unit) m).1.2):=by
 obtain ⟨u1,u4⟩:=H.units4
 obtain ⟨h1,h2⟩:=hearU_ok h
 unfold hearE at h1
 obtain ⟨_,h1⟩:=ifz.1 h1
 obtain ⟨hu,h1⟩:=ifz.1 h1
 obtain ⟨_,_,m3,_,m5,m6,_⟩:=checkM_ok h1
 rw [h2]
 refine (H.unit (hears_right hu h1)).send fun y hy=>?_
 rw [setU_units]
 have hy:y∈(hearsU v.b (unitAt v m.unit) m).2:=hy
 rcases hears_says' (b:=v.b) (u:=unitAt v m.unit) (m:=m) with e | e | ⟨q,e⟩
 ·rw [e] at hy; simp at hy
 ·rw [e] at hy
  rw [List.mem_singleton.1 hy]
  exact msg_mk (by omega) ⟨m3,hm⟩ u4 ⟨m5,m6⟩
 ·rw [e] at hy
  rw [List.mem_singleton.1 hy]
  exact msg_mk (by omega) ⟨m3,hm⟩ u4 ⟨m5,m6⟩
theorem arrive_w {v:Vehicle} (H:OkW v) {k:Nat} (hk:k<v.net.length):OkW (arriveV v k):=by
 have hm:=List.all_eq_true.1 H.m _ (nth_mem hk noMsg)
 simp only [msgOk,Bool.and_eq_true,decide_eq_true_eq] at hm
 have hm:(v.net.getD k noMsg).unit<(v.units.length:Int):=hm.2
 have D:=H.drop k
 unfold arriveV
 split
 ·unfold arrivedG
  split
  ·rename_i h; exact hearG_w D h
  ·exact D
 ·unfold arrivedU
  split
  ·rename_i h; exact hearU_w D hm h
  ·exact D
theorem unitAt_ok {v:Vehicle} (H:OkW v) {k:Int} (h0:0≤k) (h1:k<(v.units.length:Int)):checkU (unitAt v k)=0:=H.u _ (nth_mem (by omega) noUnit)
theorem net_w {v:Vehicle} (H:OkW v) (kind k:Int):OkW (netV v kind k).1:=by
 unfold netV
 split
 ·exact H
 rename_i c
 split
 ·exact arrive_w H (by omega)
 split
 ·exact H.drop _
 split
 ·split
  ·exact H
  ·exact H.send fun m hm=>by
    rw [List.mem_singleton.1 hm]
    exact List.all_eq_true.1 H.m _ (nth_mem (by omega) noMsg)
 ·exact H
theorem checkFlash_fuel {f:Flash} {k:Int} (h:checkFlash f=0) (h0:-1≤k) (h1:k≤100000):checkFlash ⟨f.words,k⟩=0:=by
 obtain ⟨a,_,_,d⟩:=checkFlash_ok h
 unfold checkFlash
 rw [if_pos a,if_pos (by simp [h0,h1,d])]
theorem checkLog_fuel {f:Flash} {k:Int} (h:checkLog f=0) (h0:-1≤k) (h1:k≤100000):checkLog ⟨f.words,k⟩=0:=by
 obtain ⟨a,b,c,d⟩:=checkLog_ok h
 have e:checkFlash ⟨f.words,k⟩=0:=checkFlash_fuel a h0 h1
 unfold checkLog
 rw [if_pos e,if_pos (show 64≤f.words.length from b),if_pos ⟨c,d⟩]
theorem checkU_fuel {u:UnitD} {k:Int} (h:checkU u=0) (h0:-1≤k) (h1:k≤100000):checkU (fuelU u k)=0:=by
 obtain ⟨a,b,c⟩:=checkU_ok h
 have e:checkLog ⟨u.f.words,k⟩=0:=checkLog_fuel a h0 h1
 unfold checkU fuelU
 simp only
 rw [if_pos e,if_pos b,if_neg (by omega)]
theorem bootU_w {u:UnitD} (h:checkU u=0):checkU (bootU u).1=0:=by
 rw [bootU_ok h]
 obtain ⟨a,b,c⟩:=checkU_ok h
 have e:checkLog ⟨u.f.words,-1⟩=0:=checkLog_fuel a (by omega) (by omega)
 unfold checkU
 simp only
 rw [if_pos e,if_pos b,if_neg (by omega)]
theorem zeros_len {α:Type} (n:Nat) (x:α):(zeros n x).length=n:=by simp [zeros]
theorem power_w {v:Vehicle} (H:OkW v) (kind unit k:Int):OkW (powerV v kind unit k).1:=by
 obtain ⟨g1,g2,g3,g4,g5⟩:=checkG_ok H.g
 unfold powerV
 split
 ·exact H
 rename_i c1
 split
 ·exact H
 rename_i c2
 split
 ·split
  ·refine H.gate (checkG_mk (checkLog_fuel g1 (by omega) (by omega)) g2 g3 g4 g5) rfl
  ·exact H.unit (checkU_fuel (unitAt_ok H (by omega) (by omega)) (by omega) (by omega))
 split
 ·unfold bootsG
  rw [bootG_ok H.g]
  refine H.gate (checkG_mk (checkLog_free g1) ?_ ?_ ?_ g5) ?_<;>simp only [zeros_len]<;>omega
 ·exact H.unit (bootU_w (unitAt_ok H (by omega) (by omega)))
theorem gave_w {v:Vehicle} (H:OkW v):OkW (gaveV v).1:=by
 unfold gaveV
 split
 ·rename_i h
  obtain ⟨h1,_,_,_,h5⟩:=giveG_ok h
  rw [h5]
  refine H.gate (checkG_note h1) ?_
  obtain ⟨_,_,n3,_⟩:=note_allG (r:=[3,(ofG v.g.f).n]) (checkG_ok h1).1
  exact n3
 ·exact H
theorem tick_w {v:Vehicle} (H:OkW v):OkW (tickV v).1:=by
 unfold tickV
 split
 ·exact H
 ·exact ⟨H.b,H.s,H.g,H.n,H.u,H.c8,H.n24,H.c,H.m,by have:=H.t0; show 0≤v.now+1; omega,by have:=H.t1; show v.now+1≤100000; omega⟩
theorem asks_w {v:Vehicle} (H:OkW v) {k:Int} (h0:0≤k) (h1:k<(v.units.length:Int)):OkW (asksV v k).1:=by
 unfold asksV
 split
 ·split
  ·exact H
  ·rename_i c
   exact H.send fun m hm=>by
    unfold askM at hm
    rw [List.mem_singleton.1 hm]
    exact msg_mk (by omega) ⟨h0,h1⟩ H.units4.2 ⟨by omega,by omega⟩
 ·exact H
theorem campOk_iff {n:Nat} {c:Campaign}:campOk n c=true↔c.images.length=n∧c.r.targets.length=n∧(∀ w∈c.images,checkImage w=0)∧checkRelease c.r.version c.r.til c.r.targets=0:=by
 simp only [campOk,Bool.and_eq_true,decide_eq_true_eq,List.all_eq_true]
theorem piecesM_ok {n:Nat} {u q:Int} {w:List Int} (hw:checkImage w=0) (hu:0≤u∧u<(n:Int)) (hn:n≤4) (hq:1≤q∧q≤8):∀ (d k:Nat),∀ m∈piecesM u q w d k,msgOk n m=true
 | 0,_,m,hm=>by simp [piecesM] at hm
 | d+1,k,m,hm=>by
  obtain ⟨_,w2,w3⟩:=checkImage_ok hw
  unfold piecesM at hm
  split at hm
  ·rename_i hk
   rcases List.mem_cons.1 hm with rfl | hm
   ·have hl:(slc w k (min (k+8) w.length)).length≤8:=by simp only [slc,List.length_drop,List.length_take]; omega
    have ho:okWords (slc w k (min (k+8) w.length))=true:=slc_ok w3 _ _
    have:checkM (cutM (pieceM u q w k))=0:=by
     unfold checkM cutM pieceM
     simp only
     rw [if_neg (by omega),if_pos ho]
    simp only [msgOk,this,Bool.and_eq_true,decide_eq_true_eq]
    exact ⟨trivial,hu.2⟩
   ·exact piecesM_ok hw hu hn hq d (k+8) m hm
  ·simp at hm
theorem poke_w {v:Vehicle} (H:OkW v) {k:Int}:OkW (pokeV v k).1:=by
 unfold pokeV
 split
 ·exact H
 rename_i hlen
 split
 ·rename_i h
  obtain ⟨d1,d2,d3,d4,d5,d6,d7,d8,d9⟩:=dueG_ok h
  rw [d9]
  have hn:=H.n
  obtain ⟨u1,u4⟩:=H.units4
  have hs:=ofG_ok v.g.f
  have n0:=hs.n0
  have n8:=hs.n8
  have hk:0≤k∧k<(v.units.length:Int):=⟨d4,by omega⟩
  have hq:1≤(ofG v.g.f).n∧(ofG v.g.f).n≤8:=by omega
  refine H.send fun m hm=>?_
  have hm:m∈(duesG v.g (ofG v.g.f) (campaignOf v) k).1:=hm
  have hc:campaignOf v=v.campaigns.getD ((ofG v.g.f).n-1).toNat noCampaign:=by
   unfold campaignOf
   rw [readG_ok d1,if_pos (show 0<(ofG v.g.f).n by omega)]
  rw [readG_ok d1] at hlen
  have hlen:¬ (v.campaigns.length:Int)<(ofG v.g.f).n:=hlen
  have hmem:campaignOf v∈v.campaigns:=by rw [hc]; exact nth_mem (by omega) noCampaign
  obtain ⟨c1,c2,c3,c4⟩:=campOk_iff.1 (List.all_eq_true.1 H.c _ hmem)
  generalize campaignOf v=c at *
  unfold duesG at hm
  split at hm
  ·split at hm
   ·simp at hm
   ·rw [List.mem_singleton.1 hm]
    refine msg_mk ?_ hk u4 hq
    unfold kindG
    split<;>omega
  ·split at hm
   ·simp at hm
   ·have hw:checkImage (nth c.images k.toNat [])=0:=c3 _ (nth_mem (by omega) [])
    unfold imageM at hm
    split at hm
    ·simp at hm
    ·rename_i hl
     rcases List.mem_append.1 hm with hm | hm
     ·exact piecesM_ok hw hk u4 hq _ _ m hm
     ·rw [List.mem_singleton.1 hm]
      have:checkM (cutM ⟨2,k,(ofG v.g.f).n,((nth c.images k.toNat []).length:Int),(nth c.r.targets k.toNat ⟨0,0,0⟩).image,[],false⟩)=0:=by
       unfold checkM cutM
       simp only [List.length_nil]
       rw [if_neg (by omega)]; rfl
      simp only [msgOk,this,Bool.and_eq_true,decide_eq_true_eq]
      exact ⟨trivial,hk.2⟩
 ·exact H
theorem propose_w {v:Vehicle} (H:OkW v) (o:Offer) (h:(proposeV v o).2=0):OkW (proposeV v o).1:=by
 unfold proposeV at h ⊢
 by_cases c:(beginV v o).2.2=0
 ·rw [if_pos c]
  have hN:=beginV_n c
  unfold beginV at c hN ⊢
  have hG:=beginG_right (b:=v.b) (l:=v.s) (g:=v.g) (o:=o) (now:=v.now)
  obtain ⟨g1,g2,g3,g4,g5,g6⟩:=beginG_ok c
  obtain ⟨r1,r2,r3,r4,r5,r6,r7⟩:=takeT_more g5
  obtain ⟨_,v1,v4,_⟩:=checkG_ok g1
  have hvl:(beginG v.b v.s v.g o v.now).1.voted.length=v.g.voted.length:=by
   rw [g6]
   show (begunG v.g (ofG v.g.f) (takeT v.b v.s v.g.t o v.now v.g.voted.length).1 o.r.version).1.voted.length=_
   unfold begunG
   split
   ·exact zeros_len _ _
   ·obtain ⟨_,_,n3,_⟩:=note_allG (r:=[1,(ofG v.g.f).n+1,o.r.version]) (checkG_ok g1).1
    exact n3
  have hck:checkG (beginG v.b v.s v.g o v.now).1=0:=by
   rcases hG with q | q
   ·exact q
   ·rw [q] at hvl
    have:(noGate.voted.length)=0:=rfl
    omega
  have hn:=H.n
  have c8:=H.c8
  have X:=H.gate hck hvl
  refine ⟨H.b,H.s,hck,H.n.trans hvl.symm,H.u,?_,H.n24,?_,H.m,H.t0,H.t1⟩
  ·show (campaignsV v.campaigns (beginG v.b v.s v.g o v.now).2.1 o).length≤8
   unfold campaignsV
   split
   ·simp; omega
   ·exact c8
  ·show (campaignsV v.campaigns (beginG v.b v.s v.g o v.now).2.1 o).all (campOk v.units.length)=true
   unfold campaignsV
   split
   ·refine List.all_eq_true.2 fun x hx=>?_
    rcases List.mem_append.1 hx with q | q
    ·exact List.all_eq_true.1 H.c x (List.mem_of_mem_take q)
    ·rw [List.mem_singleton.1 q]
     exact campOk_iff.2 ⟨by show o.images.length=_; omega,by show o.r.targets.length=_; omega,r4,r1⟩
   ·exact H.c
 ·rw [if_neg c] at h; exact absurd h c
theorem step_w {v:Vehicle} (H:OkW v) {x:Happening} (h:(stepV v x).2=0):OkW (stepV v x).1:=by
 unfold stepV at h ⊢
 by_cases c1:x.kind=1
 ·rw [if_pos c1] at h ⊢; exact propose_w H x.o h
 rw [if_neg c1] at h ⊢
 by_cases c2:x.kind=3∨x.kind=4∨x.kind=5
 ·rw [if_pos c2]; exact net_w H _ _
 rw [if_neg c2] at h ⊢
 by_cases c3:x.kind=6∨x.kind=7
 ·rw [if_pos c3]; exact power_w H _ _ _
 rw [if_neg c3] at h ⊢
 by_cases c4:x.kind=8
 ·rw [if_pos c4]; exact gave_w H
 rw [if_neg c4] at h ⊢
 by_cases c5:x.kind=2∨x.kind=9
 ·rw [if_pos c5] at h ⊢
  by_cases c6:x.unit<0∨(v.units.length:Int)≤x.unit
  ·rw [if_pos c6]; exact H
  ·rw [if_neg c6]
   by_cases c7:x.kind=2
   ·rw [if_pos c7]; exact poke_w H
   ·rw [if_neg c7]; exact asks_w H (by omega) (by omega)
 rw [if_neg c5] at h ⊢
 by_cases c6:x.kind=10
 ·rw [if_pos c6]; exact tick_w H
 ·rw [if_neg c6]; exact H
end Vm
end Go.Proofs.YtlbppjmekiemiacGreatDoor

/- Plain laws: a campaign begins only by a proposal; how many records a log holds. No condition. -/

/- Plain laws for VehicleTakes: what stays along a script; the third release is never taken up. No condition. -/
namespace Go.Proofs.YtlbppjmekiemiacGreatDoor
namespace Vm

theorem four_units {P:Nat→Prop} (h1:P 1) (h2:P 2) (h3:P 3) (h4:P 4) (units:Int):P (Int.toNat (w64 ((1:Int)+units % 4))):=by
 have h:units % 4=0∨units % 4=1∨units % 4=2∨units % 4=3:=by omega
 rcases h with h | h | h | h<;>rw [h]
 ·exact h1
 ·exact h2
 ·exact h3
 ·exact h4
theorem four_w (units:Int):(1:Int)≤w64 ((1:Int)+units % 4)∧w64 ((1:Int)+units % 4)≤4:=by
 rw [w64_id (by omega) (by omega)]
 omega
def offOk (til:Int) (b:List (List UInt8)) (s:List Signed) (o:Offer):Bool :=
 decide (o.roots=[]) && (decide (o.rootSigs=[]) && (decide (o.r.til=til) && (decide (o.r.version≠3) || decide (enough s facRoot o.sigs (indexS (releaseText o.r.version o.r.til o.r.targets) b+1)≠0))))
def facTakes (n:Nat) (til:Int):Bool :=
 facOk n til && (okW (facN n til).1 && (decide ((facN n til).1.g.t.r.version=1) && (decide ((facN n til).1.g.t.r.keys=[3,4,5]) && (decide ((facN n til).1.g.t.r.thr=2) && (decide ((facO n til).length=3) && (facO n til).all (offOk til (facN n til).1.b (facN n til).1.s))))))
theorem facTakes_1:facTakes 1 50=true:=by kernel_rfl
theorem facTakes_2:facTakes 2 50=true:=by kernel_rfl
theorem facTakes_3:facTakes 3 50=true:=by kernel_rfl
theorem facTakes_4:facTakes 4 50=true:=by kernel_rfl
theorem facTakes_n (units:Int):facTakes (Int.toNat (w64 ((1:Int)+units % 4))) 50=true:=four_units (P:=fun n=>facTakes n 50=true) facTakes_1 facTakes_2 facTakes_3 facTakes_4 units
structure TakeI (b:List (List UInt8)) (s:List Signed) (v:Vehicle):Prop where
 w:OkW v
 b:v.b=b
 s:v.s=s
 r:v.g.t.r=facRoot
theorem facTakes_I {n:Nat} (h:facTakes n 50=true):facOk n 50=true∧TakeI (facN n 50).1.b (facN n 50).1.s (facN n 50).1∧(facO n 50).length=3∧∀ o∈facO n 50,offOk 50 (facN n 50).1.b (facN n 50).1.s o=true:=by
 unfold facTakes at h
 simp only [Bool.and_eq_true,decide_eq_true_eq,List.all_eq_true] at h
 obtain ⟨h1,h2,h3,h4,h5,h6,h7⟩:=h
 refine ⟨h1,⟨okW_iff.1 h2,rfl,rfl,?_⟩,h6,h7⟩
 unfold facRoot
 rw [← h3,← h4,← h5]
theorem do_ok {v:Vehicle} {x:Happening} (h:(doV v x).2=0):checkV v=0∧(stepV v x).2=0∧doV v x=((stepV v x).1,0):=by
 unfold doV at h ⊢
 by_cases c:checkV v=0
 ·rw [if_pos c] at h ⊢
  by_cases d:(stepV v x).2=0
  ·rw [if_pos d]; exact ⟨c,d,rfl⟩
  ·rw [if_neg d] at h; exact absurd h d
 ·rw [if_neg c] at h; exact absurd h c
end Vm
end Go.Proofs.YtlbppjmekiemiacGreatDoor

/- Plain laws: a note in a log, in full: what fails leaves what was; with power it is there; generations rise by one at most. What a unit's hearing comes to, case by case. No condition. -/
namespace Go.Proofs.YtlbppjmekiemiacGreatDoor
namespace Vm

theorem append_false {f:Flash} {r:List Int} {keep:List (List Int)} (h:(appendF f r keep).2=7):recsOf (appendF f r keep).1.words=recsOf f.words:=by
 obtain ⟨cs,hE,hC,e⟩:=appendF_inv (.inr h)
 obtain ⟨_,_,_,_,q5⟩:=append_recs (ws:=f.words) (fu:=f.fuel) hE hC
 rw [e] at h ⊢
 by_cases c0:f.fuel<0
 ·exact absurd h (by unfold doCh; rw [if_pos c0]; show ¬ (powerE true:Int)=7; decide)
 by_cases c:(cs.length:Int)≤f.fuel
 ·exact absurd h (by unfold doCh; rw [if_neg c0,if_pos c]; show ¬ (powerE true:Int)=7; decide)
 have e2:=doCh_short (ws:=f.words) c (by omega)
 show recsOf (doCh ⟨f.words,f.fuel⟩ cs).1.words=_
 rw [e2]
 exact (q5 f.fuel.toNat (by omega)).2.2.1 (by omega)
theorem append_gen {f:Flash} {r:List Int} {keep:List (List Int)} (h:(appendF f r keep).2=0∨(appendF f r keep).2=7):liveG (appendF f r keep).1.words≤liveG f.words+1:=by
 obtain ⟨cs,hE,hC,e⟩:=appendF_inv h
 obtain ⟨_,_,_,_,q5⟩:=append_recs (ws:=f.words) (fu:=f.fuel) hE hC
 obtain ⟨k,h1,h2,_⟩:=doCh_take f cs
 rw [e]
 show liveG (doCh f cs).1.words≤_
 rw [h2]
 exact (q5 k h1).2.1.2
theorem noteU_false {u:UnitD} {r:List Int} (hu:OkF u.f) (hc:OkC u) (h:(noteU u r).2=false):ofU (noteU u r).1.f=ofU u.f:=by
 have hn:=(note_all (r:=r) hu hc).1
 rw [ofU_W hn.1,ofU_W hu.1]
 unfold stW
 unfold noteU at h ⊢
 obtain ⟨x,hx⟩:∃ x,appendF u.f r (keepS (ofU u.f).by_ (ofU u.f).slot (ofU u.f).ready)=x:=⟨_,rfl⟩
 have ha:=append_false (f:=u.f) (r:=r) (keep:=keepS (ofU u.f).by_ (ofU u.f).slot (ofU u.f).ready)
 rw [hx] at h ha ⊢
 unfold changeU at h ⊢
 by_cases c:x.2=0
 ·rw [if_pos c] at h; cases h
 ·rw [if_neg c]
  by_cases c2:x.2=7
  ·rw [if_pos c2]; show stateR (recsOf x.1.words)=_; rw [ha c2]
  ·rw [if_neg c2]
theorem noteU_gen {u:UnitD} {r:List Int}:liveG (noteU u r).1.f.words≤liveG u.f.words+1:=by
 unfold noteU
 have ha:=append_gen (f:=u.f) (r:=r) (keep:=keepS (ofU u.f).by_ (ofU u.f).slot (ofU u.f).ready)
 obtain ⟨x,hx⟩:∃ x,appendF u.f r (keepS (ofU u.f).by_ (ofU u.f).slot (ofU u.f).ready)=x:=⟨_,rfl⟩
 rw [hx] at ha ⊢
 unfold changeU
 by_cases c:x.2=0
 ·rw [if_pos c]; exact ha (.inl c)
 ·rw [if_neg c]
  by_cases c2:x.2=7
  ·rw [if_pos c2]; exact ha (.inr c2)
  ·rw [if_neg c2]; show liveG u.f.words≤_; omega
theorem noteG_false {g:Gate} {r:List Int} (hu:checkLog g.f=0) (h:(noteG g r).2=false):ofG (noteG g r).1.f=ofG g.f:=by
 have hn:=(note_allG (r:=r) hu).1
 rw [ofG_W hn,ofG_W hu]
 unfold noteG at h ⊢
 obtain ⟨x,hx⟩:∃ x,appendF g.f r (keepG (ofG g.f))=x:=⟨_,rfl⟩
 have ha:=append_false (f:=g.f) (r:=r) (keep:=keepG (ofG g.f))
 rw [hx] at h ha ⊢
 unfold changeG at h ⊢
 by_cases c:x.2=0
 ·rw [if_pos c] at h; cases h
 ·rw [if_neg c]
  by_cases c2:x.2=7
  ·rw [if_pos c2]; show stateG (recsOf x.1.words)=_; rw [ha c2]
  ·rw [if_neg c2]
theorem noteG_gen {g:Gate} {r:List Int}:liveG (noteG g r).1.f.words≤liveG g.f.words+1:=by
 unfold noteG
 have ha:=append_gen (f:=g.f) (r:=r) (keep:=keepG (ofG g.f))
 obtain ⟨x,hx⟩:∃ x,appendF g.f r (keepG (ofG g.f))=x:=⟨_,rfl⟩
 rw [hx] at ha ⊢
 unfold changeG
 by_cases c:x.2=0
 ·rw [if_pos c]; exact ha (.inl c)
 ·rw [if_neg c]
  by_cases c2:x.2=7
  ·rw [if_pos c2]; exact ha (.inr c2)
  ·rw [if_neg c2]; show liveG g.f.words≤_; omega
theorem noteG_mind {g:Gate} {r:List Int}:((noteG g r).1.voted=g.voted∧(noteG g r).1.did=g.did∧(noteG g r).1.up=g.up)∨((noteG g r).1.voted=zeros g.voted.length false∧(noteG g r).1.did=zeros g.did.length false∧(noteG g r).2=false):=by
 unfold noteG changeG
 split
 ·exact .inl ⟨rfl,rfl,rfl⟩
 ·split
  ·exact .inr ⟨rfl,rfl,rfl⟩
  ·exact .inl ⟨rfl,rfl,rfl⟩
structure Near (u x:UnitD):Prop where
 f:OkF x.f
 c:OkC x
 pow:u.up=true→u.f.fuel=-1→x.up=true∧x.f.fuel=-1
 gen:liveG x.f.words≤liveG u.f.words+1
theorem near_refl {u:UnitD} (hu:OkF u.f) (hc:OkC u):Near u u:=⟨hu,hc,fun h1 h2=>⟨h1,h2⟩,by omega⟩
theorem beside_gen {o:Nat} {g f:Flash} (h:Beside o g f) (hf:OkF f):liveG g.words=liveG f.words:=(log_alike (xs:=g.words) (ws:=f.words) (h.1.2.trans hf.2.symm) fun i hi=>h.2.1 i (by omega)).2.1
theorem changeU_pow {o:Nat} {u:UnitD} {g:Flash} {e:Int} (hu:OkF u.f) (hc:OkC u) (h:(e=0∨e=7)→Beside o g u.f∧Fine e u.f) (h1:u.up=true) (h2:u.f.fuel=-1):(changeU u g e).1.up=true∧(changeU u g e).1.f.fuel=-1:=by
 obtain ⟨q1,_,q3⟩:=changeU_beside hu hc h
 by_cases c:(changeU u g e).2=true
 ·rw [(changeU_true c).2] at q1 ⊢
  exact ⟨h1,q1.2.2 h2⟩
 ·rw [q3 h2 (by simpa using c)]; exact ⟨h1,h2⟩
theorem fillU_pow {o:Nat} {u:UnitD} {s:UState} {m:Message} (hu:OkF u.f) (hc:OkC u) (ho:o≤1) (hs:1-s.slot=(o:Int)) (h1:u.up=true) (h2:u.f.fuel=-1):(fillU u s m).up=true∧(fillU u s m).f.fuel=-1:=by
 unfold fillU
 split
 ·exact ⟨h1,h2⟩
 ·have q:(fillC u s m).1.up=true∧(fillC u s m).1.f.fuel=-1:=by
   unfold fillC
   rw [hs]
   exact changeU_pow hu hc (fun he=>fill_beside hu ho he) h1 h2
  split<;>exact q
theorem pieceU_pow {o:Nat} {u:UnitD} {s:UState} {m:Message} (hu:OkF u.f) (hc:OkC u) (hm:1≤m.n∧m.n≤8) (ho:o≤1) (hs:1-s.slot=(o:Int)) (h1:u.up=true) (h2:u.f.fuel=-1):(pieceU u s m).up=true∧(pieceU u s m).f.fuel=-1:=by
 unfold pieceU
 split
 ·exact ⟨h1,h2⟩
 split
 ·have q:(clearC u s).1.up=true∧(clearC u s).1.f.fuel=-1:=by
   unfold clearC
   rw [hs]
   exact changeU_pow hu hc (fun he=>clear_beside hu ho he) h1 h2
  have b:OkF (clearC u s).1.f:=by
   unfold clearC
   rw [hs]
   exact (changeU_beside (o:=o) hu hc (fun he=>clear_beside hu ho he)).1.1
  split
  ·exact fillU_pow (u:=⟨(clearC u s).1.f,(clearC u s).1.up,m.n,0⟩) b ⟨⟨by simp only; omega,hm.2⟩,by simp,by simp⟩ ho hs q.1 q.2
  ·exact q
 ·exact fillU_pow hu hc ho hs h1 h2
theorem near_beside {o:Nat} {u x:UnitD} (hu:OkF u.f) (h:Beside o x.f u.f) (hc:OkC x) (hp:u.up=true→u.f.fuel=-1→x.up=true):Near u x:=⟨h.1,hc,fun h1 h2=>⟨hp h1 h2,h.2.2 h2⟩,by rw [beside_gen h hu]; omega⟩
theorem near_note {u:UnitD} {r:List Int} (hu:OkF u.f) (hc:OkC u):Near u (noteU u r).1:=by
 obtain ⟨n1,n2,_,_,n5,n6⟩:=note_all (r:=r) hu hc
 refine ⟨n1,n2,fun h1 h2=>⟨?_,(n6 h2).1⟩,noteU_gen⟩
 by_cases c:(noteU u r).2=true
 ·rw [(n5 c).2]; exact h1
 ·rw [(n6 h2).2 (by simpa using c)]; exact h1
theorem near_gone {u x:UnitD} {m:Message} (h:Near u x):Near u (goneU x m).1:=by
 have e:=goneU_f x m
 exact ⟨by rw [e]; exact h.f,goneU_c h.c m,fun h1 h2=>⟨(gone_up x m).trans (h.pow h1 h2).1,by rw [e]; exact (h.pow h1 h2).2⟩,by rw [e]; exact h.gen⟩
structure SameU (u x:UnitD):Prop where
 st:ofU x.f=ofU u.f
 run:∀ i,64+64*(ofU u.f).slot.toNat≤i→i<128+64*(ofU u.f).slot.toNat→x.f.words.getD i 0=u.f.words.getD i 0
 oth:0<(ofU u.f).ready→∀ i,64≤i→x.f.words.getD i 0=u.f.words.getD i 0
theorem same_refl (u:UnitD):SameU u u:=⟨rfl,fun _ _ _=>rfl,fun _ _ _=>rfl⟩
inductive Heard4 (b:List (List UInt8)) (u:UnitD) (m:Message) (x:UnitD) (out:List Message):Prop
 | stay (h:SameU u x) (ho:out=[]∨out=voteM m false∨(m.kind=2∧m.n≤(ofU u.f).by_∧out=doneM m)∨(m.kind=2∧(ofU u.f).ready=m.n∧(ofU u.f).by_<m.n∧out=voteM m true)∨(m.kind=4∧(ofU u.f).by_=m.n∧out=doneM m)∨(m.kind=5∧(ofU u.f).by_<m.n∧(ofU u.f).ready≠m.n∧out=doneM m))
 | ready (hk:m.kind=2) (hr:(ofU u.f).ready=0) (hb:(ofU u.f).by_<m.n) (hs:ofU x.f=⟨(ofU u.f).slot,(ofU u.f).by_,m.n⟩)
   (run:∀ i,64+64*(ofU u.f).slot.toNat≤i→i<128+64*(ofU u.f).slot.toNat→x.f.words.getD i 0=u.f.words.getD i 0)
   (img:∃ body,imageS x.f (1-(ofU u.f).slot)=(body,m.image,0)∧imageName b body=(m.image,0)) (hm:m.image≠0) (ho:out=voteM m true)
 | runs (hk:m.kind=4) (hr:(ofU u.f).ready=m.n) (hb:(ofU u.f).by_≠m.n) (hs:ofU x.f=⟨1-(ofU u.f).slot,m.n,0⟩) (all:∀ i,64≤i→x.f.words.getD i 0=u.f.words.getD i 0) (ho:out=doneM m)
 | drops (hk:m.kind=5) (hr:(ofU u.f).ready=m.n) (hb:(ofU u.f).by_<m.n) (hs:ofU x.f=⟨(ofU u.f).slot,(ofU u.f).by_,0⟩) (all:∀ i,64≤i→x.f.words.getD i 0=u.f.words.getD i 0) (ho:out=doneM m)
theorem same_beside {u x:UnitD} {o:Nat} (hu:OkF u.f) (hs:(ofU u.f).slot=((1-o:Nat):Int)) (ho:o≤1) (h:Beside o x.f u.f) (hr:¬ 0<(ofU u.f).ready):SameU u x :=
 ⟨beside_st h hu,fun i h1 h2=>h.2.1 i (by rw [hs] at h1 h2; omega),fun h=>absurd h hr⟩
theorem hears_cases {b:List (List UInt8)} {u:UnitD} {m:Message} (hu:OkF u.f) (hc:OkC u) (hm:1≤m.n∧m.n≤8) :
  Near u (hearsU b u m).1∧Heard4 b u m (hearsU b u m).1 (hearsU b u m).2:=by
 have hk:=near_refl hu hc
 have hq:∀ {out},(out=[]∨out=voteM m false∨_)→Heard4 b u m u out:=fun h=>.stay (same_refl u) h
 obtain ⟨o,ho,hs,hs'⟩:=other_slot (ofU_ok u.f)
 by_cases hup:u.up=true
 case neg=>rw [hears_down (by simpa using hup)]; exact ⟨hk,hq (.inl rfl)⟩
 unfold hearsU
 rw [if_pos hup]
 by_cases k1:m.kind=1
 ·rw [if_pos k1]
  by_cases c:0<(ofU u.f).ready
  ·have e:pieceU u (ofU u.f) m=u:=if_pos (.inl c)
   rw [e]
   exact ⟨hk,hq (.inl rfl)⟩
  ·obtain ⟨p1,p2⟩:=pieceU_beside (u:=u) (s:=ofU u.f) (m:=m) hu hc hm ho hs
   exact ⟨near_beside hu p1 p2 fun h1 h2=>(pieceU_pow hu hc hm ho hs h1 h2).1,.stay (same_beside hu hs' ho p1 c) (.inl rfl)⟩
 rw [if_neg k1]
 by_cases k2:m.kind=2
 ·rw [if_pos k2]
  unfold prepareU
  by_cases c1:m.n≤(ofU u.f).by_
  ·rw [if_pos c1]; exact ⟨hk,hq (.inr (.inr (.inl ⟨k2,c1,rfl⟩)))⟩
  rw [if_neg c1]
  by_cases c2:(ofU u.f).ready=m.n
  ·rw [if_pos c2]; exact ⟨hk,hq (.inr (.inr (.inr (.inl ⟨k2,c2,by omega,rfl⟩))))⟩
  rw [if_neg c2]
  by_cases c3:0<(ofU u.f).ready
  ·rw [if_pos c3]; exact ⟨hk,hq (.inr (.inl rfl))⟩
  rw [if_neg c3]
  split
  case isFalse=>exact ⟨hk,hq (.inr (.inl rfl))⟩
  split
  case isFalse=>exact ⟨hk,hq (.inr (.inl rfl))⟩
  rename_i _ c5
  have hcb:(sealS u.f (1-(ofU u.f).slot) m.at_ m.image).2=0∨(sealS u.f (1-(ofU u.f).slot) m.at_ m.image).2=7→Beside o (sealS u.f (1-(ofU u.f).slot) m.at_ m.image).1 u.f∧Fine (sealS u.f (1-(ofU u.f).slot) m.at_ m.image).2 u.f:=fun he=>by rw [hs] at he ⊢; exact seal_beside hu ho he
  have hb:=changeU_beside (o:=o) (u:=u) (g:=(sealS u.f (1-(ofU u.f).slot) m.at_ m.image).1) (e:=(sealS u.f (1-(ofU u.f).slot) m.at_ m.image).2) hu hc hcb
  have hpw:u.up=true→u.f.fuel=-1→(sealC u (ofU u.f) m).1.up=true∧(sealC u (ofU u.f) m).1.f.fuel=-1:=fun h1 h2=>changeU_pow hu hc hcb h1 h2
  have hb1:Beside o (sealC u (ofU u.f) m).1.f u.f:=hb.1
  have hb2:OkC (sealC u (ofU u.f) m).1:=hb.2.1
  split
  case isFalse=>exact ⟨near_beside hu hb1 hb2 fun h1 h2=>(hpw h1 h2).1,.stay (same_beside hu hs' ho hb1 c3) (.inl rfl)⟩
  obtain ⟨y,hy⟩:∃ y:UnitD,y=⟨(sealC u (ofU u.f) m).1.f,(sealC u (ofU u.f) m).1.up,0,0⟩:=⟨_,rfl⟩
  have yf:y.f=(sealC u (ofU u.f) m).1.f:=by rw [hy]
  have yb:Beside o y.f u.f:=by rw [yf]; exact hb1
  have yc:OkC y:=by rw [hy]; exact ⟨by simp,by simp⟩
  have yn:Near u y:=near_beside hu yb yc fun h1 h2=>by rw [hy]; exact (hpw h1 h2).1
  have ys:SameU u y:=same_beside hu hs' ho yb c3
  rw [← hy]
  unfold sealedU
  split
  case isFalse=>exact ⟨yn,.stay ys (.inr (.inl rfl))⟩
  rename_i c8
  obtain ⟨n1,n2,n3,n4,n5,n6⟩:=note_all (u:=y) (r:=[2,m.n]) yn.f yc
  have nn:Near u (noteU y [2,m.n]).1:=⟨n1,n2,fun h1 h2=>(near_note yn.f yc).pow (yn.pow h1 h2).1 (yn.pow h1 h2).2,by have:=noteU_gen (u:=y) (r:=[2,m.n]); rw [beside_gen yb hu] at this; exact this⟩
  have nr:∀ i,64+64*(ofU u.f).slot.toNat≤i→i<128+64*(ofU u.f).slot.toNat→(noteU y [2,m.n]).1.f.words.getD i 0=u.f.words.getD i 0:=fun i h1 h2=>(n3 i (by omega)).trans (ys.run i h1 h2)
  split
  ·rename_i c9
   refine ⟨nn,.ready k2 (by have:=(ofU_ok u.f).2.2.1; omega) (by omega) ?_ nr ⟨(bodyS u.f (1-(ofU u.f).slot) m.at_).1,?_,?_⟩ (by omega) rfl⟩
   ·rw [(n5 c9).1,step_ready,ys.st]
   ·rw [image_same n1 yn.f (by have:=(ofU_ok u.f).1; omega) (fun i h1 _=>n3 i (by omega))]
    obtain ⟨a1,a2,a3⟩:=c8
    rw [← a2,← a3,← a1]
   ·obtain ⟨a1,_,a3⟩:=c5
    rw [← a3,← a1]
  ·rename_i c9
   exact ⟨nn,.stay ⟨(noteU_false yn.f yc (by simpa using c9)).trans ys.st,nr,fun h=>absurd h c3⟩ (.inl rfl)⟩
 rw [if_neg k2]
 by_cases k4:m.kind=4∨m.kind=5
 case neg=>rw [if_neg k4]; exact ⟨hk,hq (.inl rfl)⟩
 rw [if_pos k4]
 have note:=fun r=>note_all (u:=u) (r:=r) hu hc
 have stay:∀ r,(noteU u r).2=false→SameU u (noteU u r).1:=fun r h=>⟨noteU_false hu hc h,fun i h1 _=>(note r).2.2.1 i (by omega),fun _ i h1=>(note r).2.2.1 i h1⟩
 unfold decidedU
 by_cases c4:m.kind=4
 ·rw [if_pos c4]
  by_cases c1:(ofU u.f).by_=m.n
  ·rw [if_pos c1]; exact ⟨hk,hq (.inr (.inr (.inr (.inr (.inl ⟨c4,c1,rfl⟩)))))⟩
  rw [if_neg c1]
  by_cases c2:(ofU u.f).ready=m.n
  case neg=>rw [if_neg c2]; exact ⟨hk,hq (.inl rfl)⟩
  rw [if_pos c2]
  split
  ·rename_i c9
   refine ⟨near_note hu hc,.runs c4 c2 c1 ?_ (note _).2.2.1 rfl⟩
   rw [((note _).2.2.2.2.1 c9).1,step_runs _ (by have:=(ofU_ok u.f).1; omega)]
  ·rename_i c9
   exact ⟨near_note hu hc,.stay (stay _ (by simpa using c9)) (.inl rfl)⟩
 ·rw [if_neg c4]
  have c5:m.kind=5:=by omega
  by_cases c1:m.n≤(ofU u.f).by_
  ·rw [if_pos c1]; exact ⟨hk,hq (.inl rfl)⟩
  rw [if_neg c1]
  by_cases c2:(ofU u.f).ready=m.n
  ·rw [if_pos c2]
   split
   ·rename_i c9
    refine ⟨near_gone (near_note hu hc),.drops c5 c2 (by omega) ?_ (fun i hi=>?_) (gone_says _ _)⟩
    ·rw [goneU_f,((note _).2.2.2.2.1 c9).1,step_not]
    ·rw [goneU_f]; exact (note _).2.2.1 i hi
   ·rename_i c9
    exact ⟨near_note hu hc,.stay (stay _ (by simpa using c9)) (.inl rfl)⟩
  ·rw [if_neg c2]
   exact ⟨near_gone hk,.stay ⟨by rw [goneU_f],fun i _ _=>by rw [goneU_f],fun _ i _=>by rw [goneU_f]⟩ (.inr (.inr (.inr (.inr (.inr ⟨c5,by omega,c2,gone_says _ _⟩)))))⟩
end Vm
end Go.Proofs.YtlbppjmekiemiacGreatDoor

/- Plain laws: unlike numbers, lists of numbers and images have unlike texts; an image's name is its own. No condition. -/
namespace Go.Proofs.YtlbppjmekiemiacGreatDoor
namespace Vm

def valT (l:List UInt8):Nat:=l.foldl (fun a d=>a*10+(d.toNat-48)) 0
theorem digs_val:∀ (f u:Nat),0<f→u<10 ^ f→valT (digs f u)=u
 | 0,_,h,_=>absurd h (by omega)
 | f+1,u,_,hu=>by
  unfold digs
  by_cases c:u<10
  ·rw [if_pos c]
   have:(UInt8.ofNat (48+u)).toNat=48+u:=by simp; omega
   show 0*10+((UInt8.ofNat (48+u)).toNat-48)=u
   rw [this]; omega
  ·rw [if_neg c]
   have h1:u / 10<10 ^ f:=by
    rw [Nat.pow_succ] at hu
    exact Nat.div_lt_of_lt_mul (by omega)
   have h2:0<f:=by
    cases f with
    | zero=>simp at h1; omega
    | succ f=>omega
   have ih:=digs_val f (u / 10) h2 h1
   have:(UInt8.ofNat (48+u % 10)).toNat=48+u % 10:=by simp; omega
   unfold valT at ih ⊢
   rw [List.foldl_append,ih]
   simp only [List.foldl_cons,List.foldl_nil,this]
   omega
theorem digs_digit:∀ (f u:Nat),∀ d∈digs f u,48≤d.toNat∧d.toNat≤57
 | 0,_,d,hd=>by cases hd
 | f+1,u,d,hd=>by
  unfold digs at hd
  by_cases c:u<10
  ·rw [if_pos c] at hd
   rw [List.mem_singleton.1 hd]
   have:(UInt8.ofNat (48+u)).toNat=48+u:=by simp; omega
   omega
  ·rw [if_neg c] at hd
   rcases List.mem_append.1 hd with h | h
   ·exact digs_digit f _ d h
   ·rw [List.mem_singleton.1 h]
    have:(UInt8.ofNat (48+u % 10)).toNat=48+u % 10:=by simp; omega
    omega
theorem numT_inj {n k:Int} (h0:0≤n) (h1:n≤9223372036854775807) (k0:0≤k) (k1:k≤9223372036854775807) (h:numT n=numT k):n=k:=by
 unfold numT at h
 have a:=digs_val 20 n.toNat (by omega) (by omega)
 have b:=digs_val 20 k.toNat (by omega) (by omega)
 rw [h,b] at a
 omega
theorem numT_ne (n:Int):numT n≠[]:=by
 unfold numT digs
 split<;>simp
theorem numT_no (n:Int):(32:UInt8)∉numT n:=fun h=>by
 have:=(digs_digit _ _ _ h).1
 exact absurd this (by decide)
theorem upto_sep {s:UInt8}:∀ {a b r q:List UInt8},s∉a→s∉b→(r=[]∨∃ t,r=s::t)→(q=[]∨∃ t,q=s::t)→a++r=b++q→a=b∧r=q
 | [],[],r,q,_,_,_,_,h=>⟨rfl,h⟩
 | [],y::b,r,q,_,hb,hr,_,h=>by
  rcases hr with rfl | ⟨t,rfl⟩
  ·simp at h
  ·simp only [List.nil_append,List.cons_append,List.cons.injEq] at h
   exact absurd (List.mem_cons_self ..) (h.1 ▸ hb)
 | x::a,[],r,q,ha,_,_,hq,h=>by
  rcases hq with rfl | ⟨t,rfl⟩
  ·simp at h
  ·simp only [List.nil_append,List.cons_append,List.cons.injEq] at h
   exact absurd (List.mem_cons_self ..) (h.1 ▸ ha)
 | x::a,y::b,r,q,ha,hb,hr,hq,h=>by
  simp only [List.cons_append,List.cons.injEq] at h
  obtain ⟨e1,e2⟩:=upto_sep (fun m=>ha (List.mem_cons_of_mem _ m)) (fun m=>hb (List.mem_cons_of_mem _ m)) hr hq h.2
  exact ⟨by rw [h.1,e1],e2⟩
theorem listT_inj:∀ {a b:List Int},nums a=true→nums b=true→listT a=listT b→a=b
 | [],[],_,_,_=>rfl
 | [],y::b,_,_,h=>by
  unfold listT at h
  rw [List.map_cons,joinT_flat] at h
  exact absurd (List.append_eq_nil_iff.1 h.symm).1 (numT_ne y)
 | x::a,[],_,_,h=>by
  unfold listT at h
  rw [List.map_cons,joinT_flat] at h
  exact absurd (List.append_eq_nil_iff.1 h).1 (numT_ne x)
 | x::a,y::b,ha,hb,h=>by
  have step:∀ (z:Int) (l:List Int),listT (z::l)=numT z++(if l=[] then [] else 32::listT l):=fun z l=>by
   cases l with
   | nil=>simp [listT,joinT]
   | cons w l=>simp [listT,joinT]
  rw [step,step] at h
  simp only [nums,List.all_cons,Bool.and_eq_true,decide_eq_true_eq] at ha hb
  have tail:∀ l:List Int,(if l=[] then ([]:List UInt8) else 32::listT l)=[]∨∃ t,(if l=[] then ([]:List UInt8) else 32::listT l)=32::t:=fun l=>by
   by_cases c:l=[]
   ·rw [if_pos c]; exact .inl rfl
   ·rw [if_neg c]; exact .inr ⟨_,rfl⟩
  obtain ⟨e1,e2⟩:=upto_sep (numT_no x) (numT_no y) (tail a) (tail b) h
  have exy:x=y:=numT_inj ha.1.1 ha.1.2 hb.1.1 hb.1.2 e1
  by_cases ca:a=[]
  ·by_cases cb:b=[]
   ·rw [exy,ca,cb]
   ·rw [if_pos ca,if_neg cb] at e2; cases e2
  ·by_cases cb:b=[]
   ·rw [if_neg ca,if_pos cb] at e2; cases e2
   ·rw [if_neg ca,if_neg cb] at e2
    rw [exy,listT_inj (a:=a) (b:=b) ha.2 hb.2 (List.cons.inj e2).2]
theorem imageText_inj {w v:List Int} (hw:okWords w=true) (hv:okWords v=true) (h:imageText w=imageText v):w=v:=by
 unfold imageText at h
 exact listT_inj (nums_of_words hw) (nums_of_words hv) (List.append_cancel_left h)
theorem imageName_inj {b:List (List UInt8)} {w v:List Int} {n:Int} (hw:imageName b w=(n,0)) (hv:imageName b v=(n,0)) (hn:n≠0):w=v:=by
 have key:∀ {x:List Int},imageName b x=(n,0)→okWords x=true∧nth b (n-1).toNat []=imageText x:=fun {x} hx=>by
  obtain ⟨k1,k2,_⟩:=imageName_range (b:=b) (w:=x) (by rw [hx]) (by rw [hx]; exact hn)
  rw [hx] at k2
  refine ⟨(checkImage_ok k1).2.2,?_⟩
  unfold imageName at hx
  rw [if_pos k1] at hx
  unfold nameB at hx
  split at hx
  ·have e:indexS (imageText x) b+1=n:=congrArg Prod.fst hx
   have:=indexS_at (imageText x) b (by simp only at k2; omega)
   rw [show n-1=indexS (imageText x) b by omega]
   exact this
  ·rename_i c
   exact absurd (congrArg Prod.snd hx) c
 obtain ⟨a1,a2⟩:=key hw
 obtain ⟨b1,b2⟩:=key hv
 exact imageText_inj a1 b1 (a2.symm.trans b2)
end Vm
end Go.Proofs.YtlbppjmekiemiacGreatDoor

/- Plain laws: what lasts of a vehicle, whatever happens: units. No condition. -/
namespace Go.Proofs.YtlbppjmekiemiacGreatDoor
namespace Vm

def VoteI (s:GState) (x:UState):Prop:=s.abort=false→x.by_=s.n∨x.ready=s.n
def DoneI (s:GState) (x:UState):Prop:=(s.commit=true∨s.abort=true)∧(s.commit=true→x.by_=s.n)
structure UnitI (s:GState) (c:Int) (x:UState):Prop where
 by_:x.by_=c∨(s.commit=true∧x.by_=s.n)
 rdy:x.ready=0∨(x.by_<x.ready∧x.ready≤s.n)
 com:s.commit=true→x.by_=s.n∨x.ready=s.n
 fin:s.commit=true→s.ended=true→x.by_=s.n
structure MsgI (s:GState) (c:Int) (x:UState) (tg:Int) (m:Message):Prop where
 ok:checkM m=0
 n:m.n≤s.n
 vote:m.kind=3→m.yes=true→m.n=s.n→VoteI s x
 done:m.kind=6→m.n=s.n→DoneI s x
 com:m.kind=4→(m.n=s.n∧s.commit=true)∨m.n≤c
 abo:m.kind=5→m.n=s.n→s.abort=true
 prep:m.kind=2→m.image=tg
def BaseI (s:GState) (c:Int):Prop:=0≤c∧(c<s.n∨(c=0∧s.n=0))
inductive StepU (s:GState) (c:Int) (x:UState):UState→Prop
 | same:StepU s c x x
 | ready (n:Int) (hr:x.ready=0) (hb:x.by_<n) (h1:1≤n) (hn:n≤s.n):StepU s c x ⟨x.slot,x.by_,n⟩
 | runs (n:Int) (hr:x.ready=n) (hb:x.by_≠n) (h1:1≤n) (hc:(n=s.n∧s.commit=true)∨n≤c):StepU s c x ⟨1-x.slot,n,0⟩
 | drops (n:Int) (hr:x.ready=n) (hb:x.by_<n) (h1:1≤n) (ha:n=s.n→s.abort=true):StepU s c x ⟨x.slot,x.by_,0⟩
theorem stepU_keep {s:GState} {c:Int} {x y:UState} (hs:OkG s) (hg:BaseI s c) (hu:UnitI s c x) (h:StepU s c x y):UnitI s c y∧x.by_≤y.by_∧(VoteI s x→VoteI s y)∧(DoneI s x→DoneI s y):=by
 obtain ⟨u1,u2,u3,u4⟩:=hu
 obtain ⟨g0,g1⟩:=hg
 cases h with
 | same=>exact ⟨⟨u1,u2,u3,u4⟩,Int.le_refl _,id,id⟩
 | ready n hr hb h1 hn =>
  refine ⟨⟨u1,.inr ⟨hb,hn⟩,fun hc=>?_,u4⟩,Int.le_refl _,fun hv ha=>?_,fun hd=>⟨hd.1,hd.2⟩⟩
  ·rcases u3 hc with q | q
   ·exact .inl q
   ·exact absurd q (by omega)
  ·rcases hv ha with q | q
   ·exact .inl q
   ·exact absurd q (by omega)
 | runs n hr hb h1 hc =>
  have hlt:x.by_<n:=by
   rcases u2 with q | q
   ·omega
   ·omega
  have hc':n=s.n∧s.commit=true:=by
   rcases hc with q | q
   ·exact q
   ·rcases u1 with p | p
    ·omega
    ·omega
  refine ⟨⟨.inr ⟨hc'.2,hc'.1⟩,.inl rfl,fun _=>.inl hc'.1,fun _ _=>hc'.1⟩,by simp only; omega,fun _ _=>.inl hc'.1,fun hd=>⟨hd.1,fun _=>hc'.1⟩⟩
 | drops n hr hb h1 ha =>
  refine ⟨⟨u1,.inl rfl,fun hc=>?_,u4⟩,Int.le_refl _,fun hv hb2=>?_,fun hd=>⟨hd.1,hd.2⟩⟩
  ·rcases u3 hc with q | q
   ·exact .inl q
   ·exact absurd hc (fun hc=>hs.one hc (ha (by omega)))
  ·rcases hv hb2 with q | q
   ·exact .inl q
   ·have:=ha (by omega)
    rw [hb2] at this; cases this
theorem msg_unit {s:GState} {c:Int} {x y:UState} {tg:Int} {m:Message} (hv:VoteI s x→VoteI s y) (hd:DoneI s x→DoneI s y) (h:MsgI s c x tg m):MsgI s c y tg m :=
 ⟨h.ok,h.n,fun a b d=>hv (h.vote a b d),fun a b=>hd (h.done a b),h.com,h.abo,h.prep⟩
theorem mk_vote {s:GState} {c:Int} {x:UState} {tg:Int} {m:Message} {y:Bool} (hm:checkM m=0) (hn:m.n≤s.n) (h:y=true→m.n=s.n→VoteI s x):∀ z∈voteM m y,z.unit=m.unit∧MsgI s c x tg z:=fun z hz=>by
 obtain ⟨_,_,m3,m4,m5,m6,_⟩:=checkM_ok hm
 rw [List.mem_singleton.1 hz]
 exact ⟨rfl,checkM_mk (by omega) ⟨m3,m4⟩ ⟨m5,m6⟩,hn,fun _ b d=>h b d,fun a=>by simp at a,fun a=>by simp at a,fun a=>by simp at a,fun a=>by simp at a⟩
theorem mk_done {s:GState} {c:Int} {x:UState} {tg:Int} {m:Message} (hm:checkM m=0) (hn:m.n≤s.n) (h:m.n=s.n→DoneI s x):∀ z∈doneM m,z.unit=m.unit∧MsgI s c x tg z:=fun z hz=>by
 obtain ⟨_,_,m3,m4,m5,m6,_⟩:=checkM_ok hm
 rw [List.mem_singleton.1 hz]
 exact ⟨rfl,checkM_mk (by omega) ⟨m3,m4⟩ ⟨m5,m6⟩,hn,fun a=>by simp at a,fun _ d=>h d,fun a=>by simp at a,fun a=>by simp at a,fun a=>by simp at a⟩
theorem by_commit {s:GState} {c:Int} {x:UState} (hg:BaseI s c) (hu:UnitI s c x) (h1:1≤s.n) (h:s.n≤x.by_):DoneI s x:=by
 obtain ⟨g0,g1⟩:=hg
 rcases hu.by_ with q | q
 ·omega
 ·exact ⟨.inl q.1,fun _=>q.2⟩
theorem heard_step {b:List (List UInt8)} {u x:UnitD} {m:Message} {out:List Message} {s:GState} {c tg:Int} (hs:OkG s) (hg:BaseI s c) (hu:UnitI s c (ofU u.f)) (hm:MsgI s c (ofU u.f) tg m) (h:Heard4 b u m x out) :
  StepU s c (ofU u.f) (ofU x.f)∧∀ tg',∀ z∈out,z.unit=m.unit∧MsgI s c (ofU x.f) tg' z:=by
 obtain ⟨_,_,m3,m4,m5,m6,_⟩:=checkM_ok hm.ok
 have hn:=hm.n
 cases h with
 | stay h ho =>
  rw [h.st]
  refine ⟨.same,fun tg' z hz=>?_⟩
  rcases ho with e | e | ⟨_,k2,e⟩ | ⟨_,k2,k3,e⟩ | ⟨_,k2,e⟩ | ⟨k,k2,k3,e⟩
  ·rw [e] at hz; cases hz
  ·rw [e] at hz; exact mk_vote hm.ok hn (fun h=>by cases h) z hz
  ·rw [e] at hz; exact mk_done hm.ok hn (fun h=>by_commit hg hu (by omega) (by omega)) z hz
  ·rw [e] at hz; exact mk_vote hm.ok hn (fun _ h _=>.inr (by omega)) z hz
  ·rw [e] at hz; exact mk_done hm.ok hn (fun h=>by_commit hg hu (by omega) (by omega)) z hz
  ·rw [e] at hz; exact mk_done hm.ok hn (fun h=>⟨.inr (hm.abo k h),fun hc=>(hs.one hc (hm.abo k h)).elim⟩) z hz
 | ready hk hr hb hst _ _ _ ho =>
  rw [hst,ho]
  exact ⟨.ready m.n hr hb m5 hn,fun tg'=>mk_vote hm.ok hn fun _ h _=>.inr h⟩
 | runs hk hr hb hst _ ho =>
  rw [hst,ho]
  refine ⟨.runs m.n hr hb m5 (hm.com hk),fun tg'=>mk_done hm.ok hn fun h=>⟨?_,fun _=>h⟩⟩
  rcases hm.com hk with q | q
  ·exact .inl q.2
  ·obtain ⟨g0,g1⟩:=hg
   omega
 | drops hk hr hb hst _ ho =>
  rw [hst,ho]
  exact ⟨.drops m.n hr hb m5 (hm.abo hk),fun tg'=>mk_done hm.ok hn fun h=>⟨.inr (hm.abo hk h),fun hc=>(hs.one hc (hm.abo hk h)).elim⟩⟩
def imgOf (cs:List Campaign) (n:Int) (k:Nat):List Int:=nth (cs.getD (n-1).toNat noCampaign).images k []
def runsI (first:List (List Int)) (cs:List Campaign) (n:Int) (k:Nat):List Int:=if n=0 then nth first k [] else imgOf cs n k
structure ContI (first:List (List Int)) (cs:List Campaign) (k:Nat) (u:UnitD):Prop where
 run:(imageS u.f (ofU u.f).slot).1=runsI first cs (ofU u.f).by_ k∧(imageS u.f (ofU u.f).slot).2.2=0
 oth:0<(ofU u.f).ready→(imageS u.f (1-(ofU u.f).slot)).1=imgOf cs (ofU u.f).ready k∧(imageS u.f (1-(ofU u.f).slot)).2.2=0
def tgOf (cs:List Campaign) (m:Message):Int:=(nth (cs.getD (m.n-1).toNat noCampaign).r.targets m.unit.toNat ⟨0,0,0⟩).image
structure CampI (b:List (List UInt8)) (units i:Nat) (x:Campaign):Prop where
 n:x.n=(i:Int)+1
 img:∀ k,k<units→imageName b (nth x.images k [])=((nth x.r.targets k ⟨0,0,0⟩).image,0)∧1≤(nth x.r.targets k ⟨0,0,0⟩).image∧(nth x.r.targets k ⟨0,0,0⟩).image≤60
theorem cont_same {first:List (List Int)} {cs:List Campaign} {k:Nat} {u x:UnitD} (hu:OkF u.f) (hx:OkF x.f) (h:SameU u x) (I:ContI first cs k u):ContI first cs k x:=by
 obtain ⟨⟨s0,s1⟩,_⟩:=ofU_ok u.f
 refine ⟨?_,fun hr=>?_⟩
 ·rw [h.st,image_same hx hu ⟨s0,s1⟩ h.run]; exact I.run
 ·rw [h.st] at hr ⊢
  rw [image_same hx hu (by omega) (fun i h1 _=>h.oth hr i (by omega))]; exact I.oth hr
theorem heard_cont {b:List (List UInt8)} {first:List (List Int)} {cs:List Campaign} {N:Nat} {u x:UnitD} {m:Message} {out:List Message} {s:GState} {c:Int} (hu:OkF u.f) (hx:OkF x.f) (hm:MsgI s c (ofU u.f) (tgOf cs m) m) (hl:(cs.length:Int)=s.n) (hcs:∀ i,i<cs.length→CampI b N i (cs.getD i noCampaign)) (hk:m.unit.toNat<N)
  (h:Heard4 b u m x out) (I:ContI first cs m.unit.toNat u):ContI first cs m.unit.toNat x:=by
 obtain ⟨⟨s0,s1⟩,⟨b0,b1⟩,_⟩:=ofU_ok u.f
 obtain ⟨_,_,m3,m4,m5,m6,_⟩:=checkM_ok hm.ok
 cases h with
 | stay h _=>exact cont_same hu hx h I
 | ready k2 hr hb hst run img hi _ =>
  obtain ⟨body,e1,e2⟩:=img
  refine ⟨?_,fun _=>?_⟩
  ·rw [hst]; rw [image_same hx hu ⟨s0,s1⟩ run]; exact I.run
  ·rw [hst,e1]
   refine ⟨?_,rfl⟩
   have hn:=hm.n
   have C:=(hcs (m.n-1).toNat (by omega)).img m.unit.toNat hk
   exact imageName_inj e2 (C.1.trans (by rw [show (nth (cs.getD (m.n-1).toNat noCampaign).r.targets m.unit.toNat ⟨0,0,0⟩).image=tgOf cs m from rfl,← hm.prep k2])) hi
 | runs k4 hr hb hst all _ =>
  have o:=I.oth (by omega)
  rw [hr] at o
  refine ⟨?_,fun h=>?_⟩
  ·rw [hst]
   simp only
   rw [image_same hx hu (by omega) (fun i h1 _=>all i (by omega))]
   unfold runsI
   rw [if_neg (by omega)]
   exact o
  ·rw [hst] at h; exact absurd h (by simp)
 | drops k5 hr hb hst all _ =>
  refine ⟨?_,fun h=>?_⟩
  ·rw [hst]
   simp only
   rw [image_same hx hu ⟨s0,s1⟩ (fun i h1 _=>all i (by omega))]
   exact I.run
  ·rw [hst] at h; exact absurd h (by simp)
end Vm
end Go.Proofs.YtlbppjmekiemiacGreatDoor

/- Plain laws: what lasts of a vehicle, whatever happens. No condition. -/
namespace Go.Proofs.YtlbppjmekiemiacGreatDoor
namespace Vm

def UU (v:Vehicle) (k:Nat):UnitD:=v.units.getD k noUnit
def TT (v:Vehicle) (k:Nat):UState:=ofU (UU v k).f
structure VI (first:List (List Int)) (c:Int) (v:Vehicle):Prop where
 w:OkW v
 len:(v.campaigns.length:Int)=(ofG v.g.f).n
 cam:∀ i,i<v.campaigns.length→CampI v.b v.units.length i (v.campaigns.getD i noCampaign)
 base:BaseI (ofG v.g.f) c
 unit:∀ k,k<v.units.length→UnitI (ofG v.g.f) c (TT v k)
 net:∀ m∈v.net,MsgI (ofG v.g.f) c (TT v m.unit.toNat) (tgOf v.campaigns m) m
 vot:∀ k,k<v.units.length→v.g.voted.getD k false=true→VoteI (ofG v.g.f) (TT v k)
 did:∀ k,k<v.units.length→v.g.did.getD k false=true→DoneI (ofG v.g.f) (TT v k)
 cont:∀ k,k<v.units.length→ContI first v.campaigns k (UU v k)
variable {first:List (List Int)} {c:Int} {v:Vehicle}
theorem getD_set {α:Type} (l:List α) (i k:Nat) (x d:α) (hi:i<l.length):(l.set i x).getD k d=if k=i then x else l.getD k d:=by
 simp only [List.getD_eq_getElem?_getD]
 by_cases c:k=i
 ·rw [if_pos c,c,List.getElem?_set_self hi]; rfl
 ·rw [if_neg c,List.getElem?_set_ne (by omega)]
theorem zeros_getD (n k:Nat):(zeros n false).getD k false=false:=by
 unfold zeros
 simp only [List.getD_eq_getElem?_getD,List.getElem?_replicate]
 split<;>rfl
theorem VI.ug (I:VI first c v):(∀ k,k<v.units.length→checkU (UU v k)=0):=fun k hk=>I.w.u _ (nth_mem hk noUnit)
theorem VI.sub (I:VI first c v) {net:List Message} (h:∀ m∈net,m∈v.net) (hl:net.length≤24):VI first c ⟨v.b,v.s,v.g,v.units,v.campaigns,net,v.now⟩ :=
 ⟨⟨I.w.b,I.w.s,I.w.g,I.w.n,I.w.u,I.w.c8,hl,I.w.c,List.all_eq_true.2 fun m hm=>List.all_eq_true.1 I.w.m m (h m hm),I.w.t0,I.w.t1⟩,I.len,I.cam,I.base,I.unit,fun m hm=>I.net m (h m hm),I.vot,I.did,I.cont⟩
theorem VI.drop (I:VI first c v) (k:Nat):VI first c (dropM v k):=I.sub (fun _ hm=>List.mem_of_mem_eraseIdx hm) (Nat.le_trans (List.length_eraseIdx_le v.net k) I.w.n24)
theorem msgOk_of {n:Nat} {m:Message} (h:checkM m=0) (hu:m.unit<(n:Int)):msgOk n m=true:=by
 unfold msgOk
 simp only [Bool.and_eq_true,decide_eq_true_eq]
 exact ⟨checkM_cut h,hu⟩
theorem VI.send (I:VI first c v) {out:List Message} (h:∀ z∈out,z.unit<(v.units.length:Int)∧MsgI (ofG v.g.f) c (TT v z.unit.toNat) (tgOf v.campaigns z) z):VI first c (sendV v out):=by
 refine ⟨I.w.send fun m hm=>msgOk_of (h m hm).2.ok (h m hm).1,I.len,I.cam,I.base,I.unit,fun m hm=>?_,I.vot,I.did,I.cont⟩
 rcases List.mem_append.1 (show m∈v.net++out.take (24-v.net.length) from hm) with q | q
 ·exact I.net m q
 ·exact (h m (List.mem_of_mem_take q)).2
theorem setU_T {k:Nat} (hk:k<v.units.length) (x:UnitD) (j:Nat):UU (setU v k x) j=if j=k then x else UU v j:=by
 unfold UU setU
 exact getD_set _ _ _ _ _ (by simpa using hk)
theorem VI.setU (I:VI first c v) {k:Nat} (hk:k<v.units.length) {x:UnitD} (hx:checkU x=0) (hst:StepU (ofG v.g.f) c (TT v k) (ofU x.f)) (hc:ContI first v.campaigns k x) :
  VI first c (setU v k x)∧∀ j,(TT v j).by_≤(TT (setU v k x) j).by_:=by
 obtain ⟨k1,k2,k3,k4⟩:=stepU_keep (ofG_ok _) I.base (I.unit k hk) hst
 have e:=setU_T hk x
 have eT:∀ j,TT (Vm.setU v k x) j=if j=k then ofU x.f else TT v j:=fun j=>by
  unfold TT; rw [e]; split<;>rfl
 have el:(Vm.setU v k x).units.length=v.units.length:=setU_units v k x
 refine ⟨⟨I.w.unit hx,I.len,fun i hi=>?_,I.base,fun j hj=>?_,fun m hm=>?_,fun j hj h=>?_,fun j hj h=>?_,fun j hj=>?_⟩,fun j=>?_⟩
 ·rw [el]; exact I.cam i hi
 ·rw [el] at hj; rw [eT]; split
  ·exact k1
  ·exact I.unit j hj
 ·rw [eT]; split
  ·rename_i q
   have:=I.net m hm
   rw [q] at this
   exact msg_unit k3 k4 this
  ·exact I.net m hm
 ·rw [el] at hj; rw [eT]
  have:=I.vot j hj h
  split
  ·rename_i q; rw [q] at this; exact k3 this
  ·exact this
 ·rw [el] at hj; rw [eT]
  have:=I.did j hj h
  split
  ·rename_i q; rw [q] at this; exact k4 this
  ·exact this
 ·rw [el] at hj; rw [e]; split
  ·rename_i q; rw [q]; exact hc
  ·exact I.cont j hj
 ·rw [eT]; split
  ·rename_i q; rw [q]; exact k2
  ·exact Int.le_refl _
theorem VI.gate (I:VI first c v) {g:Gate} (hg:checkG g=0) (hl:g.voted.length=v.g.voted.length) (hn:(ofG g.f).n=(ofG v.g.f).n) (hu:∀ k,k<v.units.length→UnitI (ofG g.f) c (TT v k)) (hm:∀ m∈v.net,MsgI (ofG g.f) c (TT v m.unit.toNat) (tgOf v.campaigns m) m)
  (hv:∀ k,k<v.units.length→g.voted.getD k false=true→VoteI (ofG g.f) (TT v k)) (hd:∀ k,k<v.units.length→g.did.getD k false=true→DoneI (ofG g.f) (TT v k)):VI first c ⟨v.b,v.s,g,v.units,v.campaigns,v.net,v.now⟩:=by
 have hb:=I.base
 unfold BaseI at hb
 exact ⟨I.w.gate hg hl,I.len.trans hn.symm,I.cam,by unfold BaseI; show 0≤c∧(c<(ofG g.f).n∨(c=0∧(ofG g.f).n=0)); rw [hn]; exact hb,hu,hm,hv,hd,I.cont⟩
theorem VI.same (I:VI first c v) {g:Gate} (hg:checkG g=0) (hl:g.voted.length=v.g.voted.length) (hs:ofG g.f=ofG v.g.f) (hv:∀ k,g.voted.getD k false=true→v.g.voted.getD k false=true) (hd:∀ k,g.did.getD k false=true→v.g.did.getD k false=true):VI first c ⟨v.b,v.s,g,v.units,v.campaigns,v.net,v.now⟩ :=
 I.gate hg hl (by rw [hs]) (by rw [hs]; exact I.unit) (by rw [hs]; exact I.net) (fun k hk h=>by rw [hs]; exact I.vot k hk (hv k h)) (fun k hk h=>by rw [hs]; exact I.did k hk (hd k h))
theorem mind_less {g:Gate} {r:List Int}:(∀ k,(noteG g r).1.voted.getD k false=true→g.voted.getD k false=true)∧(∀ k,(noteG g r).1.did.getD k false=true→g.did.getD k false=true):=by
 rcases noteG_mind (g:=g) (r:=r) with ⟨a,b,_⟩ | ⟨a,b,_⟩
 ·rw [a,b]; exact ⟨fun _=>id,fun _=>id⟩
 ·rw [a,b]
  exact ⟨fun k h=>(by rw [zeros_getD] at h; cases h),fun k h=>(by rw [zeros_getD] at h; cases h)⟩
theorem VI.commit (I:VI first c v) {g:Gate} (hg:checkG g=0) (hl:g.voted.length=v.g.voted.length) (hc:(ofG v.g.f).commit=false) (ha:(ofG v.g.f).abort=false) (he:(ofG v.g.f).ended=false) (hall:∀ k,k<v.units.length→VoteI (ofG v.g.f) (TT v k))
  (hs:ofG g.f=⟨(ofG v.g.f).n,(ofG v.g.f).version,true,(ofG v.g.f).abort,(ofG v.g.f).ended⟩) (hd:∀ k,g.did.getD k false=true→v.g.did.getD k false=true):VI first c ⟨v.b,v.s,g,v.units,v.campaigns,v.net,v.now⟩:=by
 have no:∀ x,DoneI (ofG v.g.f) x→False:=fun x h=>by
  rcases h.1 with q | q
  ·rw [hc] at q; cases q
  ·rw [ha] at q; cases q
 refine I.gate hg hl (by rw [hs]) (fun k hk=>?_) (fun m hm=>?_) (fun k hk _=>?_) (fun k hk h=>(no _ (I.did k hk (hd k h))).elim)
 ·have u:=I.unit k hk
  rw [hs]
  refine ⟨?_,u.rdy,fun _=>hall k hk ha,fun _ h=>?_⟩
  ·rcases u.by_ with q | q
   ·exact .inl q
   ·rw [hc] at q; cases q.1
  ·have h:(ofG v.g.f).ended=true:=h
   rw [he] at h; cases h
 ·have x:=I.net m hm
  rw [hs]
  refine ⟨x.ok,x.n,x.vote,fun a b=>(no _ (x.done a b)).elim,fun a=>?_,x.abo,x.prep⟩
  rcases x.com a with q | q
  ·rw [hc] at q; cases q.2
  ·exact .inr q
 ·rw [hs]; exact hall k hk
theorem VI.abort (I:VI first c v) {g:Gate} (hg:checkG g=0) (hl:g.voted.length=v.g.voted.length) (hc:(ofG v.g.f).commit=false) (ha:(ofG v.g.f).abort=false)
  (hs:ofG g.f=⟨(ofG v.g.f).n,(ofG v.g.f).version,(ofG v.g.f).commit,true,(ofG v.g.f).ended⟩) (hd:∀ k,g.did.getD k false=true→v.g.did.getD k false=true):VI first c ⟨v.b,v.s,g,v.units,v.campaigns,v.net,v.now⟩:=by
 have no:∀ x,DoneI (ofG v.g.f) x→False:=fun x h=>by
  rcases h.1 with q | q
  ·rw [hc] at q; cases q
  ·rw [ha] at q; cases q
 refine I.gate hg hl (by rw [hs]) (fun k hk=>?_) (fun m hm=>?_) (fun k hk _=>?_) (fun k hk h=>(no _ (I.did k hk (hd k h))).elim)
 ·have u:=I.unit k hk
  rw [hs]; exact ⟨u.by_,u.rdy,u.com,u.fin⟩
 ·have x:=I.net m hm
  rw [hs]
  exact ⟨x.ok,x.n,fun _ _ _ h=>(by cases h),fun a b=>(no _ (x.done a b)).elim,x.com,fun _ _=>rfl,x.prep⟩
 ·rw [hs]; intro h; cases h
theorem VI.ended (I:VI first c v) {g:Gate} (hg:checkG g=0) (hl:g.voted.length=v.g.voted.length) (hall:(ofG v.g.f).commit=true→∀ k,k<v.units.length→(TT v k).by_=(ofG v.g.f).n)
  (hs:ofG g.f=⟨(ofG v.g.f).n,(ofG v.g.f).version,(ofG v.g.f).commit,(ofG v.g.f).abort,true⟩) (hv:∀ k,k<v.units.length→g.voted.getD k false=true→VoteI (ofG v.g.f) (TT v k)) (hd:∀ k,k<v.units.length→g.did.getD k false=true→DoneI (ofG v.g.f) (TT v k)):VI first c ⟨v.b,v.s,g,v.units,v.campaigns,v.net,v.now⟩:=by
 refine I.gate hg hl (by rw [hs]) (fun k hk=>?_) (fun m hm=>?_) (fun k hk h=>?_) (fun k hk h=>?_)
 ·have u:=I.unit k hk
  rw [hs]; exact ⟨u.by_,u.rdy,u.com,fun hc _=>hall hc k hk⟩
 ·have x:=I.net m hm
  rw [hs]; exact ⟨x.ok,x.n,x.vote,x.done,x.com,x.abo,x.prep⟩
 ·rw [hs]; exact hv k hk h
 ·rw [hs]; exact hd k hk h
theorem set_true {l:List Bool} {u k:Nat} (h:(setAt l u true).getD k false=true):k=u∨l.getD k false=true:=by
 by_cases c:k=u
 ·exact .inl c
 ·refine .inr ?_
  unfold setAt at h
  simp only [List.getD_eq_getElem?_getD] at h ⊢
  rw [List.getElem?_set_ne (by omega)] at h
  exact h
theorem all_of {l:List Bool} {u:Int} (h:hasB false (setAt l u.toNat true)=false) (hu:0≤u) (i:Nat) (hi:i<l.length):i=u.toNat∨l.getD i false=true:=by
 by_cases c:i=u.toNat
 ·exact .inl c
 ·exact .inr (voted_all h hu i hi (by omega))
theorem VI.hearG (I:VI first c v) {m:Message} (hm:MsgI (ofG v.g.f) c (TT v m.unit.toNat) (tgOf v.campaigns m) m) (hu:m.unit<(v.units.length:Int)) :
  VI first c ⟨v.b,v.s,(hearsG v.g m).1,v.units,v.campaigns,v.net,v.now⟩∧∀ z∈(hearsG v.g m).2,z.unit=m.unit∧∀ x tg,MsgI (ofG (hearsG v.g m).1.f) c x tg z:=by
 obtain ⟨_,_,m3,m4,m5,m6,_⟩:=checkM_ok hm.ok
 have hN:=I.w.n
 have same:VI first c ⟨v.b,v.s,v.g,v.units,v.campaigns,v.net,v.now⟩:=I
 unfold hearsG
 by_cases cu:v.g.up=true
 case neg=>rw [if_neg cu]; exact ⟨same,fun z hz=>by cases hz⟩
 rw [if_pos cu]
 unfold hearsS
 by_cases k3:m.kind=3
 ·rw [if_pos k3]
  by_cases q:(ofG v.g.f).n≠m.n∨(ofG v.g.f).ended=true∨(ofG v.g.f).commit=true∨(ofG v.g.f).abort=true∨m.yes=false
  ·rw [if_pos q]; exact ⟨same,fun z hz=>by cases hz⟩
  rw [if_neg q]
  simp only [not_or,Bool.not_eq_true,ne_eq,Decidable.not_not,Bool.not_eq_false] at q
  obtain ⟨c1,c2,c3,c4,c5⟩:=q
  refine ⟨?_,fun z hz=>by cases hz⟩
  have vt:∀ k,k<v.units.length→(votedG v.g m.unit).voted.getD k false=true→VoteI (ofG v.g.f) (TT v k):=fun k hk h=>by
   rcases set_true h with e | e
   ·rw [e]; exact hm.vote k3 c5 c1.symm
   ·exact I.vot k hk e
  have hg1:=checkG_voted (u:=m.unit) I.w.g
  have hl1:(votedG v.g m.unit).voted.length=v.g.voted.length:=setAt_len _ _ _
  have I1:VI first c ⟨v.b,v.s,votedG v.g m.unit,v.units,v.campaigns,v.net,v.now⟩:=I.gate hg1 hl1 rfl I.unit I.net vt I.did
  show VI first c ⟨v.b,v.s,voteG v.g (ofG v.g.f) m.unit,v.units,v.campaigns,v.net,v.now⟩
  unfold voteG
  by_cases cb:hasB false (votedG v.g m.unit).voted=true
  ·rw [if_pos cb]; exact I1
  rw [if_neg cb]
  have hlog:=(checkG_ok hg1).1
  obtain ⟨_,_,l3,_,_,n6,_⟩:=note_allG (g:=votedG v.g m.unit) (r:=[2,(ofG v.g.f).n]) hlog
  have md:=mind_less (g:=votedG v.g m.unit) (r:=[2,(ofG v.g.f).n])
  by_cases ok:(noteG (votedG v.g m.unit) [2,(ofG v.g.f).n]).2=true
  ·have hs:=(n6 ok).1
   have hs':ofG (noteG (votedG v.g m.unit) [2,(ofG v.g.f).n]).1.f=⟨(ofG v.g.f).n,(ofG v.g.f).version,true,(ofG v.g.f).abort,(ofG v.g.f).ended⟩:=hs.trans (stepGt_commit (s:=ofG v.g.f) (by omega) c4)
   refine I.commit (checkG_note hg1) (l3.trans hl1) c3 c4 c2 (fun k hk=>?_) hs' (fun k h=>md.2 k h)
   rcases all_of (l:=v.g.voted) (Bool.eq_false_iff.2 cb) m3 k (by omega) with e | e
   ·rw [e]; exact hm.vote k3 c5 c1.symm
   ·exact I.vot k hk e
  ·have hs:=noteG_false hlog (Bool.eq_false_iff.2 ok)
   exact I1.same (checkG_note hg1) l3 hs md.1 md.2
 rw [if_neg k3]
 by_cases k6:m.kind=6
 ·rw [if_pos k6]
  by_cases q:(ofG v.g.f).n≠m.n∨(ofG v.g.f).ended=true∨((ofG v.g.f).commit=false∧(ofG v.g.f).abort=false)
  ·rw [if_pos q]; exact ⟨same,fun z hz=>by cases hz⟩
  rw [if_neg q]
  simp only [not_or,Bool.not_eq_true,ne_eq,Decidable.not_not] at q
  obtain ⟨c1,c2,c3⟩:=q
  refine ⟨?_,fun z hz=>by cases hz⟩
  have dd:=hm.done k6 c1.symm
  have dt:∀ k,k<v.units.length→(didG v.g m.unit).did.getD k false=true→DoneI (ofG v.g.f) (TT v k):=fun k hk h=>by
   rcases set_true h with e | e
   ·rw [e]; exact dd
   ·exact I.did k hk e
  have hg1:=checkG_did (u:=m.unit) I.w.g
  have I1:VI first c ⟨v.b,v.s,didG v.g m.unit,v.units,v.campaigns,v.net,v.now⟩:=I.gate hg1 rfl rfl I.unit I.net I.vot dt
  show VI first c ⟨v.b,v.s,doneG v.g (ofG v.g.f) m.unit,v.units,v.campaigns,v.net,v.now⟩
  unfold doneG
  by_cases cb:hasB false (didG v.g m.unit).did=true
  ·rw [if_pos cb]; exact I1
  rw [if_neg cb]
  have hlog:=(checkG_ok hg1).1
  obtain ⟨_,_,l3,_,_,n6,_⟩:=note_allG (g:=didG v.g m.unit) (r:=[4,(ofG v.g.f).n]) hlog
  have md:=mind_less (g:=didG v.g m.unit) (r:=[4,(ofG v.g.f).n])
  have hdl:=(checkG_ok I.w.g).2.2.2.1
  by_cases ok:(noteG (didG v.g m.unit) [4,(ofG v.g.f).n]).2=true
  ·have hs':ofG (noteG (didG v.g m.unit) [4,(ofG v.g.f).n]).1.f=⟨(ofG v.g.f).n,(ofG v.g.f).version,(ofG v.g.f).commit,(ofG v.g.f).abort,true⟩:=((n6 ok).1).trans (stepGt_ended (s:=ofG v.g.f) (by omega) dd.1)
   refine I.ended (checkG_note hg1) l3 (fun hc k hk=>?_) hs' (fun k hk h=>I.vot k hk (md.1 k h)) (fun k hk h=>dt k hk (md.2 k h))
   rcases all_of (l:=v.g.did) (Bool.eq_false_iff.2 cb) m3 k (by omega) with e | e
   ·rw [e]; exact dd.2 hc
   ·exact (I.did k hk e).2 hc
  ·have hs:=noteG_false hlog (Bool.eq_false_iff.2 ok)
   exact I1.same (checkG_note hg1) l3 hs md.1 md.2
 rw [if_neg k6]
 by_cases k7:m.kind=7
 case neg=>rw [if_neg k7]; exact ⟨same,fun z hz=>by cases hz⟩
 rw [if_pos k7]
 split
 case isFalse=>exact ⟨same,fun z hz=>by cases hz⟩
 rename_i q
 refine ⟨same,fun z hz=>?_⟩
 rw [List.mem_singleton.1 hz]
 refine ⟨rfl,fun x tg=>?_⟩
 have hkd:kindG (ofG v.g.f) m.n=4∨kindG (ofG v.g.f) m.n=5:=by unfold kindG; split<;>simp
 have fin:=(ofG_ok v.g.f).fin
 refine ⟨checkM_mk (by omega) ⟨m3,m4⟩ ⟨m5,m6⟩,hm.n,fun a=>?_,fun a=>?_,fun a=>?_,fun a b=>?_,fun a=>?_⟩
 ·have a:kindG (ofG v.g.f) m.n=3:=a
  omega
 ·have a:kindG (ofG v.g.f) m.n=6:=a
  omega
 ·have a:kindG (ofG v.g.f) m.n=4:=a
  unfold kindG at a
  by_cases d:(ofG v.g.f).commit=true∧(ofG v.g.f).n=m.n
  ·exact .inl ⟨d.2.symm,d.1⟩
  ·rw [if_neg d] at a; cases a
 ·have a:kindG (ofG v.g.f) m.n=5:=a
  have b:m.n=(ofG v.g.f).n:=b
  unfold kindG at a
  by_cases d:(ofG v.g.f).commit=true∧(ofG v.g.f).n=m.n
  ·rw [if_pos d] at a; cases a
  ·have hc:¬ (ofG v.g.f).commit=true:=fun h=>d ⟨h,b.symm⟩
   rcases q with q | q | q | q
   ·exact absurd b.symm q
   ·rcases fin q with p | p
    ·exact absurd p hc
    ·exact p
   ·exact absurd q hc
   ·exact q
 ·have a:kindG (ofG v.g.f) m.n=2:=a
  omega
end Vm
end Go.Proofs.YtlbppjmekiemiacGreatDoor

/- Plain laws: what lasts of a vehicle lasts through each happening. No condition. -/
namespace Go.Proofs.YtlbppjmekiemiacGreatDoor
namespace Vm

variable {first:List (List Int)} {c:Int} {v:Vehicle}
theorem VI.arrive (I:VI first c v) {k:Nat} (hk:k<v.net.length):VI first c (arriveV v k)∧∀ j,(TT v j).by_≤(TT (arriveV v k) j).by_:=by
 obtain ⟨m,hm⟩:∃ m,v.net.getD k noMsg=m:=⟨_,rfl⟩
 have hmem:m∈v.net:=by rw [← hm]; exact nth_mem hk noMsg
 have M:=I.net m hmem
 have hu:=(I.w.msg m hmem).2
 obtain ⟨_,_,m3,m4,m5,m6,_⟩:=checkM_ok M.ok
 have D:=I.drop k
 unfold arriveV
 rw [hm]
 split
 ·unfold arrivedG
  split
  case isFalse=>exact ⟨D,fun _=>Int.le_refl _⟩
  rename_i h
  obtain ⟨_,_,e⟩:=hearG_ok h
  rw [e]
  obtain ⟨x,y⟩:=D.hearG (m:=m) M hu
  refine ⟨x.send fun z hz=>?_,fun _=>Int.le_refl _⟩
  obtain ⟨z1,z2⟩:=y z hz
  exact ⟨by rw [z1]; exact hu,z2 _ _⟩
 ·unfold arrivedU
  split
  case isFalse=>exact ⟨D,fun _=>Int.le_refl _⟩
  rename_i h
  rw [(hearU_ok h).2]
  have hkN:m.unit.toNat<v.units.length:=by omega
  have cu:=I.ug m.unit.toNat hkN
  have eu:unitAt (dropM v k) m.unit=UU v m.unit.toNat:=rfl
  rw [eu]
  obtain ⟨N,H⟩:=hears_cases (b:=v.b) (okF_of cu) (okC_of cu) (m:=m) ⟨m5,m6⟩
  obtain ⟨s1,s2⟩:=heard_step (ofG_ok v.g.f) I.base (I.unit _ hkN) M H
  have ct:=heard_cont (okF_of cu) N.f M I.len I.cam hkN H (I.cont _ hkN)
  obtain ⟨q1,q2⟩:=D.setU (k:=m.unit.toNat) hkN (checkU_of N.f N.c) s1 ct
  have es:Vm.setU (dropM v k) ((m.unit.toNat:Nat):Int) (hearsU v.b (UU v m.unit.toNat) m).1=Vm.setU (dropM v k) m.unit (hearsU v.b (UU v m.unit.toNat) m).1:=by rw [show ((m.unit.toNat:Nat):Int)=m.unit by omega]
  rw [es] at q1 q2
  refine ⟨q1.send fun z hz=>?_,fun j=>q2 j⟩
  obtain ⟨z1,z2⟩:=s2 (tgOf v.campaigns z) z hz
  refine ⟨by rw [setU_units,z1]; exact hu,?_⟩
  have eT:TT (Vm.setU (dropM v k) m.unit (hearsU v.b (UU v m.unit.toNat) m).1) z.unit.toNat=ofU (hearsU v.b (UU v m.unit.toNat) m).1.f:=by
   rw [z1,← es]
   unfold TT
   rw [setU_T (v:=dropM v k) hkN,if_pos rfl]
  rw [eT]
  exact z2
theorem VI.netStep (I:VI first c v) (kind k:Int):VI first c (netV v kind k).1∧∀ j,(TT v j).by_≤(TT (netV v kind k).1 j).by_:=by
 have same:VI first c v∧∀ j,(TT v j).by_≤(TT v j).by_:=⟨I,fun _=>Int.le_refl _⟩
 unfold netV
 split
 ·exact same
 rename_i q
 split
 ·exact I.arrive (by omega)
 split
 ·exact ⟨I.drop _,fun _=>Int.le_refl _⟩
 split
 ·split
  ·exact same
  ·refine ⟨I.send fun z hz=>?_,fun _=>Int.le_refl _⟩
   rw [List.mem_singleton.1 hz]
   have hmem:v.net.getD k.toNat noMsg∈v.net:=nth_mem (by omega) noMsg
   exact ⟨(I.w.msg _ hmem).2,I.net _ hmem⟩
 ·exact same
theorem VI.power (I:VI first c v) (kind unit k:Int):VI first c (powerV v kind unit k).1∧∀ j,(TT v j).by_≤(TT (powerV v kind unit k).1 j).by_:=by
 have W:=power_w I.w kind unit k
 have same:VI first c v∧∀ j,(TT v j).by_≤(TT v j).by_:=⟨I,fun _=>Int.le_refl _⟩
 obtain ⟨g1,g2,g3,g4,g5⟩:=checkG_ok I.w.g
 unfold powerV at W ⊢
 split
 ·exact same
 rename_i c1
 rw [if_neg c1] at W
 split
 ·exact same
 rename_i c2
 rw [if_neg c2] at W
 have one:∀ (x:UnitD) (f:Int),0≤unit→-1≤f→f≤100000→checkU x=0→x.f=⟨(unitAt v unit).f.words,f⟩→VI first c (Vm.setU v unit x)∧∀ j,(TT v j).by_≤(TT (Vm.setU v unit x) j).by_:=fun x f h0 f1 f2 hx e=>by
  have hkN:unit.toNat<v.units.length:=by omega
  have cu:=I.ug _ hkN
  have eu:unitAt v unit=UU v unit.toNat:=rfl
  rw [eu] at e
  have es:ofU x.f=ofU (UU v unit.toNat).f:=by rw [e]; exact ofU_fuel (okF_of cu) f1 f2
  have ct:ContI first v.campaigns unit.toNat x:=cont_same (okF_of cu) (okF_of hx) ⟨es,fun _ _ _=>by rw [e],fun _ _ _=>by rw [e]⟩ (I.cont _ hkN)
  have q:=I.setU hkN hx (by rw [es]; exact .same) ct
  rw [show ((unit.toNat:Nat):Int)=unit by omega] at q
  exact q
 split
 ·rename_i c3
  split
  ·refine ⟨I.same (g:=⟨⟨v.g.f.words,k⟩,v.g.up,v.g.t,v.g.voted,v.g.did⟩) (checkG_mk (checkLog_fuel g1 (by omega) (by omega)) g2 g3 g4 g5) rfl ?_ (fun _=>id) (fun _=>id),fun _=>Int.le_refl _⟩
   show ofG ⟨v.g.f.words,k⟩=_
   rw [ofG_W (checkLog_fuel g1 (by omega) (by omega)),ofG_W g1]
  ·exact one _ k (by omega) (by omega) (by omega) (checkU_fuel (unitAt_ok I.w (by omega) (by omega)) (by omega) (by omega)) rfl
 split
 ·unfold bootsG
  rw [bootG_ok I.w.g]
  refine ⟨I.same (g:=⟨⟨v.g.f.words,-1⟩,true,v.g.t,zeros v.g.voted.length false,zeros v.g.did.length false⟩) (checkG_mk (checkLog_free g1) ?_ ?_ ?_ g5) (zeros_len _ _) (ofG_free g1) (fun k h=>by rw [zeros_getD] at h; cases h) (fun k h=>by rw [zeros_getD] at h; cases h),fun _=>Int.le_refl _⟩<;>simp only [zeros_len]<;>omega
 ·have hu:=unitAt_ok I.w (k:=unit) (by omega) (by omega)
  refine one _ (-1) (by omega) (by omega) (by omega) (bootU_w hu) ?_
  rw [bootU_ok hu]
theorem VI.gave (I:VI first c v):VI first c (gaveV v).1:=by
 unfold gaveV
 split
 case isFalse=>exact I
 rename_i h
 obtain ⟨h1,h2,h3,h4,h5⟩:=giveG_ok h
 rw [h5]
 have hlog:=(checkG_ok h1).1
 obtain ⟨_,_,l3,_,_,n6,_⟩:=note_allG (r:=[3,(ofG v.g.f).n]) hlog
 have md:=mind_less (g:=v.g) (r:=[3,(ofG v.g.f).n])
 by_cases ok:(noteG v.g [3,(ofG v.g.f).n]).2=true
 ·exact I.abort (checkG_note h1) l3 h3 h4 ((n6 ok).1.trans (stepGt_abort h2 h3)) md.2
 ·exact I.same (checkG_note h1) l3 (noteG_false hlog (Bool.eq_false_iff.2 ok)) md.1 md.2
theorem VI.tick (I:VI first c v):VI first c (tickV v).1:=by
 have W:=tick_w I.w
 unfold tickV at W ⊢
 split
 ·exact I
 ·rename_i q
  rw [if_neg q] at W
  exact ⟨W,I.len,I.cam,I.base,I.unit,I.net,I.vot,I.did,I.cont⟩
theorem VI.asks (I:VI first c v) {k:Int} (h0:0≤k) (h1:k<(v.units.length:Int)):VI first c (asksV v k).1:=by
 unfold asksV
 split
 case isFalse=>exact I
 split
 ·exact I
 rename_i q
 refine I.send fun z hz=>?_
 unfold askM at hz
 rw [List.mem_singleton.1 hz]
 have u4:=I.w.units4.2
 have hkN:k.toNat<v.units.length:=by omega
 have cu:=I.ug _ hkN
 have er:readU (unitAt v k)=(TT v k.toNat,0):=readU_ok cu
 rw [er] at q ⊢
 have ur:=(I.unit _ hkN).rdy
 refine ⟨h1,checkM_mk (by omega) (by omega) (by simp only at q ⊢; omega),?_,fun a=>by simp at a,fun a=>by simp at a,fun a=>by simp at a,fun a=>by simp at a,fun a=>by simp at a⟩
 show (TT v k.toNat).ready≤_
 simp only at q
 omega
theorem pieces_mem {u n:Int} {w:List Int}:∀ {d k:Nat} {m:Message},m∈piecesM u n w d k→∃ j,m=pieceM u n w j
 | 0,_,m,h=>by simp [piecesM] at h
 | d+1,k,m,h=>by
  unfold piecesM at h
  split at h
  ·rcases List.mem_cons.1 h with rfl | h
   ·exact ⟨k,rfl⟩
   ·exact pieces_mem h
  ·cases h
theorem checkM_at {n:Nat} {m:Message} (h:msgOk n m=true) (hi:0≤m.image∧m.image≤60):checkM m=0:=by
 unfold msgOk at h
 simp only [Bool.and_eq_true,decide_eq_true_eq] at h
 obtain ⟨h1,h2,h3,h4,h5,h6,h7,h8,h9,h10,h11,h12⟩:=checkM_ok h.1
 unfold cutM at h1 h2 h3 h4 h5 h6 h7 h8 h9 h10 h11 h12
 unfold checkM
 rw [if_neg (by simp only at *; omega),if_pos h12]
theorem VI.due (I:VI first c v) {k:Int} (h:(dueG v.g (campaignOf v) k).2=0) (hl:¬ (v.campaigns.length:Int)<(readG v.g).1.n):∀ z∈(dueG v.g (campaignOf v) k).1,z.unit<(v.units.length:Int)∧MsgI (ofG v.g.f) c (TT v z.unit.toNat) (tgOf v.campaigns z) z:=fun z hz=>by
 have P:=poke_w I.w (k:=k)
 unfold pokeV at P
 rw [if_neg hl,if_pos h] at P
 obtain ⟨d1,d2,d3,d4,d5,d6,d7,d8,d9⟩:=dueG_ok h
 have hn:=I.w.n
 obtain ⟨u1,u4⟩:=I.w.units4
 have hs:=ofG_ok v.g.f
 have n0:=hs.n0
 have n8:=hs.n8
 have hk:0≤k∧k<(v.units.length:Int):=⟨d4,by omega⟩
 have hkN:k.toNat<v.units.length:=by omega
 have hc:campaignOf v=v.campaigns.getD ((ofG v.g.f).n-1).toNat noCampaign:=by
  unfold campaignOf
  rw [readG_ok d1,if_pos (show 0<(ofG v.g.f).n by omega)]
 have len:=I.len
 have C:=I.cam ((ofG v.g.f).n-1).toNat (by omega)
 have hmem:campaignOf v∈v.campaigns:=by rw [hc]; exact nth_mem (by omega) noCampaign
 obtain ⟨e1,e2,e3,e4⟩:=campOk_iff.1 (List.all_eq_true.1 I.w.c _ hmem)
 rw [d9] at hz
 rw [← hc] at C
 have tg0:∀ (at_:Int) (im:Int),tgOf v.campaigns ⟨2,k,(ofG v.g.f).n,at_,im,[],false⟩=(nth (campaignOf v).r.targets k.toNat ⟨0,0,0⟩).image:=fun _ _=>by rw [hc]; rfl
 generalize campaignOf v=cc at *
 unfold duesG at hz
 split at hz
 ·rename_i dec
  split at hz
  ·cases hz
  ·rw [List.mem_singleton.1 hz]
   have hkd:kindG (ofG v.g.f) (ofG v.g.f).n=4∨kindG (ofG v.g.f) (ofG v.g.f).n=5:=by unfold kindG; split<;>simp
   refine ⟨hk.2,checkM_mk (by omega) (by omega) (by omega),Int.le_refl _,fun a=>?_,fun a=>?_,fun a=>?_,fun a _=>?_,fun a=>?_⟩
   ·have a:kindG (ofG v.g.f) (ofG v.g.f).n=3:=a
    omega
   ·have a:kindG (ofG v.g.f) (ofG v.g.f).n=6:=a
    omega
   ·have a:kindG (ofG v.g.f) (ofG v.g.f).n=4:=a
    unfold kindG at a
    by_cases d:(ofG v.g.f).commit=true∧(ofG v.g.f).n=(ofG v.g.f).n
    ·exact .inl ⟨rfl,d.1⟩
    ·rw [if_neg d] at a; cases a
   ·have a:kindG (ofG v.g.f) (ofG v.g.f).n=5:=a
    unfold kindG at a
    by_cases d:(ofG v.g.f).commit=true∧(ofG v.g.f).n=(ofG v.g.f).n
    ·rw [if_pos d] at a; cases a
    ·exact dec.resolve_left fun h=>d ⟨h,rfl⟩
   ·have a:kindG (ofG v.g.f) (ofG v.g.f).n=2:=a
    omega
 ·split at hz
  ·cases hz
  ·have hw:checkImage (nth cc.images k.toNat [])=0:=e3 _ (nth_mem (by omega) [])
   unfold imageM at hz
   split at hz
   ·cases hz
   rename_i hl40
   rcases List.mem_append.1 hz with hz | hz
   ·have ok:=piecesM_ok hw hk u4 (by omega) _ _ z hz
    obtain ⟨j,rfl⟩:=pieces_mem hz
    exact ⟨hk.2,checkM_at ok (by simp [pieceM]),Int.le_refl _,fun a=>by simp [pieceM] at a,fun a=>by simp [pieceM] at a,fun a=>by simp [pieceM] at a,fun a=>by simp [pieceM] at a,fun a=>by simp [pieceM] at a⟩
   ·rw [List.mem_singleton.1 hz]
    obtain ⟨_,t1,t60⟩:=C.img k.toNat hkN
    refine ⟨hk.2,?_,Int.le_refl _,fun a=>by simp at a,fun a=>by simp at a,fun a=>by simp at a,fun a=>by simp at a,fun _=>(tg0 _ _).symm⟩
    unfold checkM
    simp only [List.length_nil]
    rw [if_neg (by omega)]; rfl
theorem VI.poke (I:VI first c v) {k:Int}:VI first c (pokeV v k).1:=by
 unfold pokeV
 split
 ·exact I
 rename_i hl
 split
 ·rename_i h; exact I.send (I.due h hl)
 ·exact I
theorem getD_snoc {α:Type} (l:List α) (x d:α) (i:Nat) (hi:i<l.length):(l++[x]).getD i d=l.getD i d:=by
 simp only [List.getD_eq_getElem?_getD]
 rw [List.getElem?_append_left hi]
theorem getD_last {α:Type} (l:List α) (x d:α):(l++[x]).getD l.length d=x:=by
 simp [List.getD_eq_getElem?_getD]
theorem okImages_at {b:List (List UInt8)}:∀ {ts:List Target} {ws:List (List Int)},okImages b ts ws=true→∀ k,k<ts.length→imageName b (nth ws k [])=((nth ts k ⟨0,0,0⟩).image,0)
 | [],_,_,k,hk=>by simp at hk
 | t::ts,ws,h,k,hk=>by
  simp only [okImages,Bool.and_eq_true] at h
  cases k with
  | zero =>
   have:=h.1
   simp only [okImage,Bool.and_eq_true,decide_eq_true_eq] at this
   have e:nth ws 0 []=ws.headD []:=by cases ws<;>rfl
   show imageName b (nth ws 0 [])=(t.image,0)
   rw [e,← this.1.1,← this.1.2]
  | succ k =>
   have:=okImages_at h.2 k (by simpa using hk)
   have e:nth ws (k+1) []=nth ws.tail k []:=by cases ws<;>rfl
   rw [e,this]; rfl
theorem okTargets_img:∀ (ts:List Target) (i:Int),okTargets i ts=true→∀ k,k<ts.length→1≤(nth ts k ⟨0,0,0⟩).image∧(nth ts k ⟨0,0,0⟩).image≤60
 | [],_,_,k,hk=>by simp at hk
 | t::ts,i,h,k,hk=>by
  simp only [okTargets,okTarget,Bool.and_eq_true,decide_eq_true_eq] at h
  cases k with
  | zero=>exact ⟨h.1.1.1.1.2,h.1.1.1.2⟩
  | succ k=>exact okTargets_img ts _ h.2 k (by simpa using hk)
theorem checkRelease_targets {v u:Int} {ts:List Target} (h:checkRelease v u ts=0):okTargets 0 ts=true:=by
 unfold checkRelease at h
 by_cases c1:v<1∨1000<v∨u<0∨100000<u
 ·rw [if_pos c1] at h; cases h
 rw [if_neg c1] at h
 by_cases c2:ts.length=0∨4<ts.length
 ·rw [if_pos c2] at h; cases h
 rw [if_neg c2] at h
 by_cases c3:okTargets 0 ts=true
 ·exact c3
 ·rw [if_neg c3] at h; cases h
theorem VI.propose (I:VI first c v) {o:Offer} (h:(proposeV v o).2=0) :
  (∃ c',VI first c' (proposeV v o).1∧(c'=c∨(c'=(ofG v.g.f).n∧(ofG v.g.f).commit=true)))∧∀ j,TT (proposeV v o).1 j=TT v j:=by
 have W:=propose_w I.w o h
 unfold proposeV at h W ⊢
 by_cases q:(beginV v o).2.2=0
 case neg=>rw [if_neg q] at h; exact absurd h q
 rw [if_pos q] at W ⊢
 refine ⟨?_,fun _=>rfl⟩
 unfold beginV at q W ⊢
 obtain ⟨g1,g2,g3,g4,g5,g6⟩:=beginG_ok q
 rw [g6] at W ⊢
 have hs:=ofG_ok v.g.f
 have n0:=hs.n0
 have n8:=hs.n8
 have hlog:=(checkG_ok g1).1
 have len:=I.len
 obtain ⟨b0,b1⟩:=I.base
 obtain ⟨_,_,l3,_,_,n6,_⟩:=note_allG (r:=[1,(ofG v.g.f).n+1,o.r.version]) hlog
 unfold begunG at W ⊢
 by_cases ok:(noteG v.g [1,(ofG v.g.f).n+1,o.r.version]).2=true
 case neg =>
  rw [if_neg ok]
  have md:=mind_less (g:=v.g) (r:=[1,(ofG v.g.f).n+1,o.r.version])
  exact ⟨c,I.same (checkG_note g1) l3 (noteG_false hlog (Bool.eq_false_iff.2 ok)) md.1 md.2,.inl rfl⟩
 rw [if_pos ok] at W ⊢
 obtain ⟨r1,r2,r3,r4,r5,r6,r7⟩:=takeT_more g5
 have okI:okImages v.b o.r.targets o.images=true:=by
  obtain ⟨_,_,_,_,h5,_⟩:=takeT_ok g5
  exact (relE_ok h5).2.2.2.2.2.2.2
 have hs':ofG (noteG v.g [1,(ofG v.g.f).n+1,o.r.version]).1.f=⟨(ofG v.g.f).n+1,o.r.version,false,false,false⟩:=(n6 ok).1.trans (stepGt_begun (by omega) (by omega))
 have hcs:campaignsV v.campaigns ((ofG v.g.f).n+1) o=v.campaigns++[⟨(ofG v.g.f).n+1,o.r,o.images⟩]:=by
  unfold campaignsV
  rw [if_pos (by omega),List.take_of_length_le (by omega)]
 simp only [hcs] at W ⊢
 have he:(ofG v.g.f).n=0∨(ofG v.g.f).ended=true:=by
  by_cases e:(ofG v.g.f).ended=true
  ·exact .inr e
  ·refine .inl ?_
   have:¬ 0<(ofG v.g.f).n:=fun hn=>g3 ⟨hn,Bool.eq_false_iff.2 e⟩
   omega
 have hfin:(ofG v.g.f).commit=true→∀ k,k<v.units.length→(TT v k).by_=(ofG v.g.f).n:=fun hc k hk=>by
  rcases he with e | e
  ·have:=hs.none e
   rw [this] at hc; cases hc
  ·exact (I.unit k hk).fin hc e
 obtain ⟨c',hc',hcc⟩:∃ c',(c'=if (ofG v.g.f).commit=true then (ofG v.g.f).n else c)∧(c'=c∨(c'=(ofG v.g.f).n∧(ofG v.g.f).commit=true)):=by
  refine ⟨_,rfl,?_⟩
  by_cases e:(ofG v.g.f).commit=true
  ·rw [if_pos e]; exact .inr ⟨rfl,e⟩
  ·rw [if_neg e]; exact .inl rfl
 have cle:c≤c'∧c'≤(ofG v.g.f).n:=by
  rcases hcc with e | e
  ·omega
  ·omega
 refine ⟨c',⟨W,?_,fun i hi=>?_,?_,fun k hk=>?_,fun m hm=>?_,fun k _ h=>?_,fun k _ h=>?_,fun k hk=>?_⟩,hcc⟩
 ·show (((v.campaigns++[(⟨(ofG v.g.f).n+1,o.r,o.images⟩:Campaign)]).length:Nat):Int)=(ofG (noteG v.g [1,(ofG v.g.f).n+1,o.r.version]).1.f).n
  rw [hs',List.length_append]
  simp only [List.length_cons,List.length_nil]
  omega
 ·have hi:i<(v.campaigns++[(⟨(ofG v.g.f).n+1,o.r,o.images⟩:Campaign)]).length:=hi
  rw [List.length_append,List.length_singleton] at hi
  show CampI v.b v.units.length i ((v.campaigns++[(⟨(ofG v.g.f).n+1,o.r,o.images⟩:Campaign)]).getD i noCampaign)
  by_cases e:i<v.campaigns.length
  ·rw [getD_snoc _ _ _ _ e]; exact I.cam i e
  ·obtain rfl:i=v.campaigns.length:=by omega
   rw [getD_last]
   have hn:=I.w.n
   refine ⟨by show (ofG v.g.f).n+1=_; omega,fun k hk=>⟨okImages_at okI k (by omega),okTargets_img _ 0 (checkRelease_targets r1) k (by omega)⟩⟩
 ·show BaseI (ofG (noteG v.g [1,(ofG v.g.f).n+1,o.r.version]).1.f) c'
  rw [hs']
  exact ⟨by omega,.inl (by simp only; omega)⟩
 ·show UnitI (ofG (noteG v.g [1,(ofG v.g.f).n+1,o.r.version]).1.f) c' (TT v k)
  rw [hs']
  have u:=I.unit k hk
  refine ⟨.inl ?_,?_,(fun h=>by cases h),(fun h=>by cases h)⟩
  ·rw [hc']
   by_cases e:(ofG v.g.f).commit=true
   ·rw [if_pos e]; exact hfin e k hk
   ·rw [if_neg e]
    exact u.by_.resolve_right fun h=>e h.1
  ·rcases u.rdy with p | p
   ·exact .inl p
   ·exact .inr ⟨p.1,by simp only; omega⟩
 ·show MsgI (ofG (noteG v.g [1,(ofG v.g.f).n+1,o.r.version]).1.f) c' (TT v m.unit.toNat) (tgOf (v.campaigns++[(⟨(ofG v.g.f).n+1,o.r,o.images⟩:Campaign)]) m) m
  rw [hs']
  have M:=I.net m hm
  have mn:=M.n
  obtain ⟨_,_,m3,m4,m5,m6,_⟩:=checkM_ok M.ok
  have no:¬ m.n=(ofG v.g.f).n+1:=by omega
  refine ⟨M.ok,by simp only; omega,fun _ _ a=>absurd a no,fun _ a=>absurd a no,fun a=>.inr ?_,fun _ a=>absurd a no,fun a=>?_⟩
  ·rcases M.com a with p | p
   ·rw [hc',if_pos p.2]; omega
   ·omega
  ·unfold tgOf
   rw [getD_snoc _ _ _ _ (by omega)]
   exact M.prep a
 ·have h:(zeros v.g.voted.length false).getD k false=true:=h
  rw [zeros_getD] at h; cases h
 ·have h:(zeros v.g.did.length false).getD k false=true:=h
  rw [zeros_getD] at h; cases h
 ·have I0:=I.cont k hk
  have u:=I.unit k hk
  obtain ⟨_,⟨y0,_⟩,z0,_⟩:=ofU_ok (UU v k).f
  have img:∀ n,1≤n→n≤(ofG v.g.f).n→imgOf (v.campaigns++[(⟨(ofG v.g.f).n+1,o.r,o.images⟩:Campaign)]) n k=imgOf v.campaigns n k:=fun n h1 h2=>by
   unfold imgOf
   rw [getD_snoc _ _ _ _ (by omega)]
  have byn:(TT v k).by_≤(ofG v.g.f).n:=by
   rcases u.by_ with p | p
   ·omega
   ·omega
  refine ⟨?_,fun hr=>?_⟩
  ·refine ⟨I0.run.1.trans ?_,I0.run.2⟩
   show runsI first v.campaigns (TT v k).by_ k=runsI first (v.campaigns++[(⟨(ofG v.g.f).n+1,o.r,o.images⟩:Campaign)]) (TT v k).by_ k
   unfold runsI
   have y0:0≤(TT v k).by_:=y0
   by_cases e:(TT v k).by_=0
   ·rw [if_pos e,if_pos e]
   ·rw [if_neg e,if_neg e,img _ (by omega) byn]
  ·refine ⟨(I0.oth hr).1.trans (img _ (show 1≤(TT v k).ready by have hr:0<(TT v k).ready:=hr; omega) ?_).symm,(I0.oth hr).2⟩
   rcases u.rdy with p | p
   ·have hr:0<(TT v k).ready:=hr
    show (TT v k).ready≤_
    omega
   ·exact p.2
theorem T_of {a b:Vehicle} (h:b.units=a.units) (j:Nat):(TT a j).by_≤(TT b j).by_:=by
 unfold TT UU
 rw [h]
 exact Int.le_refl _
theorem poke_u (v:Vehicle) (k:Int):(pokeV v k).1.units=v.units:=by
 unfold pokeV
 split
 ·rfl
 ·split<;>rfl
theorem asks_u (v:Vehicle) (k:Int):(asksV v k).1.units=v.units:=by
 unfold asksV
 split
 ·split<;>rfl
 ·rfl
theorem gave_u (v:Vehicle):(gaveV v).1.units=v.units:=by
 unfold gaveV
 split<;>rfl
theorem tick_u (v:Vehicle):(tickV v).1.units=v.units:=by
 unfold tickV
 split<;>rfl
theorem VI.step (I:VI first c v) {x:Happening} (h:(stepV v x).2=0) :
  (∃ c',VI first c' (stepV v x).1∧(c'=c∨(c'=(ofG v.g.f).n∧(ofG v.g.f).commit=true)))∧∀ j,(TT v j).by_≤(TT (stepV v x).1 j).by_:=by
 have wrap:∀ {y:Vehicle},VI first c y∧(∀ j,(TT v j).by_≤(TT y j).by_)→(∃ c',VI first c' y∧(c'=c∨(c'=(ofG v.g.f).n∧(ofG v.g.f).commit=true)))∧∀ j,(TT v j).by_≤(TT y j).by_:=fun h=>⟨⟨c,h.1,.inl rfl⟩,h.2⟩
 unfold stepV at h ⊢
 by_cases c1:x.kind=1
 ·rw [if_pos c1] at h ⊢
  obtain ⟨q1,q2⟩:=I.propose h
  exact ⟨q1,fun j=>by rw [q2 j]; exact Int.le_refl _⟩
 rw [if_neg c1] at h ⊢
 by_cases c2:x.kind=3∨x.kind=4∨x.kind=5
 ·rw [if_pos c2]; exact wrap (I.netStep _ _)
 rw [if_neg c2] at h ⊢
 by_cases c3:x.kind=6∨x.kind=7
 ·rw [if_pos c3]; exact wrap (I.power _ _ _)
 rw [if_neg c3] at h ⊢
 by_cases c4:x.kind=8
 ·rw [if_pos c4]
  exact wrap ⟨I.gave,T_of (gave_u v)⟩
 rw [if_neg c4] at h ⊢
 by_cases c5:x.kind=2∨x.kind=9
 ·rw [if_pos c5] at h ⊢
  by_cases c6:x.unit<0∨(v.units.length:Int)≤x.unit
  ·rw [if_pos c6]; exact wrap ⟨I,fun _=>Int.le_refl _⟩
  ·rw [if_neg c6]
   by_cases c7:x.kind=2
   ·rw [if_pos c7]; exact wrap ⟨I.poke,T_of (poke_u v _)⟩
   ·rw [if_neg c7]; exact wrap ⟨I.asks (by omega) (by omega),T_of (asks_u v _)⟩
 rw [if_neg c5] at h ⊢
 by_cases c6:x.kind=10
 ·rw [if_pos c6]; exact wrap ⟨I.tick,T_of (tick_u v)⟩
 ·rw [if_neg c6]; exact wrap ⟨I,fun _=>Int.le_refl _⟩
end Vm
end Go.Proofs.YtlbppjmekiemiacGreatDoor

/- Plain laws for VehicleHolds: a vehicle in which what lasts holds is a right one; the factory's is one. No condition. -/
namespace Go.Proofs.YtlbppjmekiemiacGreatDoor
namespace Vm

variable {first:List (List Int)} {c:Int} {v:Vehicle}
theorem VI.okV (I:VI first c v):OkV v:=by
 refine ⟨I.w.b,I.w.s,I.w.g,I.w.n,I.w.u,I.w.c8,I.w.n24,checkCs_mk fun i hi d=>?_,fun m hm=>⟨(I.net m hm).ok,(I.w.msg m hm).2⟩,I.w.t0,I.w.t1⟩
 have e:nth v.campaigns i d=v.campaigns.getD i noCampaign:=by
  simp [nth,List.getD_eq_getElem?_getD,hi]
 have hmem:v.campaigns.getD i noCampaign∈v.campaigns:=nth_mem hi noCampaign
 obtain ⟨c1,c2,c3,c4⟩:=campOk_iff.1 (List.all_eq_true.1 I.w.c _ hmem)
 have C:=(I.cam i hi).n
 rw [e]
 unfold checkC
 rw [if_neg (by omega),if_pos (checkImages_mk c3)]
 exact c4
def zeroU (x:UState):Bool:=eqi x.by_ 0 && eqi x.ready 0
def facUnit (first:List (List Int)) (v:Vehicle) (k:Nat):Bool:=zeroU (TT v k) && (eqIs (imageS (UU v k).f (TT v k).slot).1 (nth first k []) && eqi (imageS (UU v k).f (TT v k).slot).2.2 0)
def facHolds (n:Nat) (til:Int):Bool :=
 eqi (ofG (facN n til).1.g.f).n 0 && (decide ((facN n til).1.campaigns.length=0) && (decide ((facN n til).1.net.length=0) && ((facN n til).1.g.did.all (fun b=>!b) && ((List.range (facN n til).1.units.length).all (facUnit (facR n til).first (facN n til).1) && decide ((facN n til).1.units.length=n)))))
theorem fac_VI {n:Nat} {til:Int} (hw:OkW (facN n til).1) (h:facHolds n til=true):VI (facR n til).first 0 (facN n til).1∧(facN n til).1.units.length=n∧∀ k,k<n→imageS (UU (facN n til).1 k).f (TT (facN n til).1 k).slot=(nth (facR n til).first k [],(imageS (UU (facN n til).1 k).f (TT (facN n til).1 k).slot).2.1,0):=by
 unfold facHolds at h
 simp only [Bool.and_eq_true,decide_eq_true_eq,List.all_eq_true,eqi] at h
 obtain ⟨h1,h2,h3,h4,h5,h6⟩:=h
 generalize (facN n til).1=v at *
 generalize (facR n til).first=first at *
 have hU:∀ k,k<v.units.length→(TT v k).by_=0∧(TT v k).ready=0∧(imageS (UU v k).f (TT v k).slot).1=nth first k []∧(imageS (UU v k).f (TT v k).slot).2.2=0:=fun k hk=>by
  have:=h5 k (List.mem_range.2 hk)
  unfold facUnit zeroU at this
  simpa only [Bool.and_eq_true,eqi,eqIs,decide_eq_true_eq,and_assoc] using this
 have hs:ofG v.g.f=noState:=(ofG_ok v.g.f).none h1
 have hc:v.campaigns=[]:=List.length_eq_zero_iff.1 h2
 have hn:v.net=[]:=List.length_eq_zero_iff.1 h3
 have nd:∀ k,¬ v.g.did.getD k false=true:=fun k hk=>by
  by_cases q:k<v.g.did.length
  ·have:=h4 _ (nth_mem q false)
   unfold nth at this
   rw [hk] at this; cases this
  ·rw [List.getD_eq_getElem?_getD,List.getElem?_eq_none (by omega)] at hk; cases hk
 refine ⟨⟨hw,by rw [hc,h1]; rfl,fun i hi=>by rw [hc] at hi; simp at hi,⟨Int.le_refl _,.inr ⟨rfl,h1⟩⟩,fun k hk=>?_,fun m hm=>(by rw [hn] at hm; cases hm),fun k hk _ _=>.inl ?_,fun k _ h=>absurd h (nd k),fun k hk=>?_⟩,h6,fun k hk=>?_⟩
 ·obtain ⟨a,b,_⟩:=hU k hk
  rw [hs]
  exact ⟨.inl a,.inl b,(fun h=>by cases h),(fun h=>by cases h)⟩
 ·rw [(hU k hk).1,h1]
 ·obtain ⟨a,b,c1,c2⟩:=hU k hk
  refine ⟨⟨?_,c2⟩,fun h=>?_⟩
  ·have e:runsI first v.campaigns (ofU (UU v k).f).by_ k=nth first k []:=if_pos a
   rw [e]; exact c1
  ·have h:0<(TT v k).ready:=h
   omega
 ·obtain ⟨_,_,c1,c2⟩:=hU k (by omega)
  rw [← c1,← c2]
theorem facHolds_1:facHolds 1 50=true:=by kernel_rfl
theorem facHolds_2:facHolds 2 50=true:=by kernel_rfl
theorem facHolds_3:facHolds 3 50=true:=by kernel_rfl
theorem facHolds_4:facHolds 4 50=true:=by kernel_rfl
theorem facHolds_n (units:Int):facHolds (Int.toNat (w64 ((1:Int)+units % 4))) 50=true:=four_units (P:=fun n=>facHolds n 50=true) facHolds_1 facHolds_2 facHolds_3 facHolds_4 units
structure HoldI (first:List (List Int)) (v:Vehicle) (cl:List Int):Prop where
 vi:∃ c,VI first c v∧(c=0∨hasI c cl=true)
 now:(ofG v.g.f).commit=true→hasI (ofG v.g.f).n cl=true
 small:cl.length≤1000
def commits (s:GState) (cl:List Int):List Int:=if s.commit=true∧hasI s.n cl=false then cl++[s.n] else cl
theorem commits_has (s:GState) (cl:List Int):(∀ n,hasI n cl=true→hasI n (commits s cl)=true)∧(s.commit=true→hasI s.n (commits s cl)=true):=by
 unfold commits
 split
 ·refine ⟨fun n h=>by rw [hasI_append,h]; rfl,fun _=>by rw [hasI_append]; simp [hasI]⟩
 ·rename_i q
  refine ⟨fun _ h=>h,fun h=>?_⟩
  cases e:hasI s.n cl
  ·exact absurd ⟨h,e⟩ q
  ·rfl
theorem HoldI.step {cl:List Int} {x:Happening} (H:HoldI first v cl) (h:(doV v x).2=0) :
  (∃ c,VI first c (doV v x).1∧(c=0∨hasI c (commits (ofG (doV v x).1.g.f) cl)=true))∧((ofG (doV v x).1.g.f).commit=true→hasI (ofG (doV v x).1.g.f).n (commits (ofG (doV v x).1.g.f) cl)=true)∧(∀ j,(TT v j).by_≤(TT (doV v x).1 j).by_):=by
 obtain ⟨_,h2,h3⟩:=do_ok h
 obtain ⟨c,I,hc⟩:=H.vi
 obtain ⟨⟨c',I',hc'⟩,hb⟩:=I.step h2
 rw [h3]
 obtain ⟨k1,k2⟩:=commits_has (ofG (stepV v x).1.g.f) cl
 refine ⟨⟨c',I',?_⟩,k2,hb⟩
 rcases hc' with e | ⟨e1,e2⟩
 ·rw [e]; exact hc.imp id (k1 c)
 ·exact .inr (k1 _ (by rw [e1]; exact H.now e2))
theorem VI.boots (I:VI first c v) {k:Nat} (hk:k<v.units.length) :
  bootU (UU v k)=(⟨⟨(UU v k).f.words,-1⟩,true,0,0⟩,0)∧readU (bootU (UU v k)).1=(TT v k,0)∧(runsU (bootU (UU v k)).1).2.2=0∧(runsU (bootU (UU v k)).1).1=runsI first v.campaigns (TT v k).by_ k:=by
 have cu:=I.ug k hk
 have e:=bootU_ok cu
 have cb:=bootU_w cu
 rw [e] at cb ⊢
 have hF:=okF_of cu
 have hB:=okF_of cb
 have es:ofU (⟨(UU v k).f.words,-1⟩:Flash)=TT v k:=ofU_fuel hF (by omega) (by omega)
 have R:=(I.cont k hk).run
 have im:imageS (⟨(UU v k).f.words,-1⟩:Flash) (TT v k).slot=imageS (UU v k).f (TT v k).slot:=image_same hB hF (ofU_ok _).1 (fun _ _ _=>rfl)
 refine ⟨rfl,(readU_ok cb).trans (by rw [es]),?_,?_⟩
 ·rw [runsU_ok cb,es,im]; exact R.2
 ·rw [runsU_ok cb,es,im]; exact R.1
theorem VI.reads (I:VI first c v) {k:Nat} (hk:k<v.units.length):readU (UU v k)=(TT v k,0):=readU_ok (I.ug k hk)
end Vm
end Go.Proofs.YtlbppjmekiemiacGreatDoor

/- Plain laws for the tour: all are up, and have power; a message comes. No condition. -/
namespace Go.Proofs.YtlbppjmekiemiacGreatDoor
namespace Vm

variable {first:List (List Int)} {c:Int} {v:Vehicle} {B:Int}
end Vm
end Go.Proofs.YtlbppjmekiemiacGreatDoor

/- Plain laws for the tour: a unit is asked, and told what is due. No condition. -/
namespace Go.Proofs.YtlbppjmekiemiacGreatDoor
namespace Vm

variable {first:List (List Int)} {c:Int} {v:Vehicle} {B:Int}
end Vm
end Go.Proofs.YtlbppjmekiemiacGreatDoor

/- Plain laws for the tour: a unit is told what is due; a visit. No condition. -/
namespace Go.Proofs.YtlbppjmekiemiacGreatDoor
namespace Vm

variable {first:List (List Int)} {c:Int} {v:Vehicle} {B:Int}
end Vm
end Go.Proofs.YtlbppjmekiemiacGreatDoor

/- Plain laws for the tour: rounds; the whole of it. No condition. -/
namespace Go.Proofs.YtlbppjmekiemiacGreatDoor
namespace Vm

variable {first:List (List Int)} {c:Int} {v:Vehicle} {B:Int}
def LowV (B:Int) (v:Vehicle):Prop:=liveG v.g.f.words≤B∧∀ k,k<v.units.length→liveG (UU v k).f.words≤B
end Vm
end Go.Proofs.YtlbppjmekiemiacGreatDoor

/- Plain laws for VehicleEnds: a script keeps what lasts; generations stay low; behind a tour all run the same. No condition. -/
namespace Go.Proofs.YtlbppjmekiemiacGreatDoor
namespace Vm

variable {first:List (List Int)} {c:Int} {v:Vehicle} {B:Int}
theorem hearsG_gen (g:Gate) (m:Message):liveG (hearsG g m).1.f.words≤liveG g.f.words+1:=by
 have same:liveG g.f.words≤liveG g.f.words+1:=by omega
 unfold hearsG
 split
 case isFalse=>exact same
 unfold hearsS
 split
 ·split
  ·exact same
  ·show liveG (voteG g (ofG g.f) m.unit).f.words≤_
   unfold voteG
   split
   ·exact same
   ·exact noteG_gen (g:=votedG g m.unit)
 split
 ·split
  ·exact same
  ·show liveG (doneG g (ofG g.f) m.unit).f.words≤_
   unfold doneG
   split
   ·exact same
   ·exact noteG_gen (g:=didG g m.unit)
 split
 ·split<;>exact same
 ·exact same
theorem low_mono {B':Int} (h:LowV B v) (hb:B≤B'):LowV B' v:=⟨by have:=h.1; omega,fun k hk=>by have:=h.2 k hk; omega⟩
theorem low_gate (L:LowV B v) {w:Vehicle} (hu:w.units=v.units) (hg:liveG w.g.f.words≤B+1):LowV (B+1) w:=⟨hg,fun k hk=>by
 have:UU w k=UU v k:=by unfold UU; rw [hu]
 rw [this]
 rw [hu] at hk
 have:=L.2 k hk
 omega⟩
theorem low_unit (L:LowV B v) {w:Vehicle} {k:Nat} (hk:k<v.units.length) {x:UnitD} (hu:w.units=v.units.set k x) (hg:w.g=v.g) (hx:liveG x.f.words≤B+1):LowV (B+1) w:=by
 refine ⟨by rw [hg]; have:=L.1; omega,fun j hj=>?_⟩
 have e:UU w j=if j=k then x else UU v j:=by
  unfold UU
  rw [hu]
  exact getD_set _ _ _ _ _ hk
 rw [e]
 split
 ·exact hx
 ·rw [hu,List.length_set] at hj
  have:=L.2 j hj
  omega
theorem VI.low (I:VI first c v) (L:LowV B v) {x:Happening} (h:(stepV v x).2=0):LowV (B+1) (stepV v x).1:=by
 have L1:LowV (B+1) v:=low_mono L (by omega)
 have gl:=L.1
 unfold stepV at h ⊢
 by_cases c1:x.kind=1
 ·rw [if_pos c1] at h ⊢
  unfold proposeV at h ⊢
  by_cases q:(beginV v x.o).2.2=0
  case neg=>rw [if_neg q]; exact L1
  rw [if_pos q]
  refine low_gate L rfl ?_
  unfold beginV at q ⊢
  obtain ⟨_,_,_,_,_,g6⟩:=beginG_ok q
  show liveG (beginG v.b v.s v.g x.o v.now).1.f.words≤_
  rw [g6]
  have:=noteG_gen (g:=v.g) (r:=[1,(ofG v.g.f).n+1,x.o.r.version])
  unfold begunG
  split
  ·show liveG (noteG v.g [1,(ofG v.g.f).n+1,x.o.r.version]).1.f.words≤_
   omega
  ·show liveG (noteG v.g [1,(ofG v.g.f).n+1,x.o.r.version]).1.f.words≤_
   omega
 rw [if_neg c1] at h ⊢
 by_cases c2:x.kind=3∨x.kind=4∨x.kind=5
 ·rw [if_pos c2]
  unfold netV
  split
  ·exact L1
  rename_i q
  split
  ·have hk:x.k.toNat<v.net.length:=by omega
   obtain ⟨m,hm⟩:∃ m,v.net.getD x.k.toNat noMsg=m:=⟨_,rfl⟩
   have hmem:m∈v.net:=by rw [← hm]; exact nth_mem hk noMsg
   have M:=I.net m hmem
   have hu:=(I.w.msg m hmem).2
   obtain ⟨_,_,m3,m4,m5,m6,_⟩:=checkM_ok M.ok
   show LowV (B+1) (arriveV v x.k.toNat)
   unfold arriveV
   rw [hm]
   split
   ·unfold arrivedG
    split
    case isFalse=>exact L1
    rename_i hh
    rw [(hearG_ok hh).2.2]
    refine low_gate L rfl ?_
    have:=hearsG_gen v.g m
    show liveG (hearsG v.g m).1.f.words≤_
    omega
   ·unfold arrivedU
    split
    case isFalse=>exact L1
    rename_i hh
    rw [(hearU_ok hh).2]
    have hkN:m.unit.toNat<v.units.length:=by omega
    have cu:=I.ug m.unit.toNat hkN
    have N:=(hears_cases (b:=v.b) (okF_of cu) (okC_of cu) (m:=m) ⟨m5,m6⟩).1
    refine low_unit L hkN (x:=(hearsU v.b (UU v m.unit.toNat) m).1) rfl rfl ?_
    have:=N.gen
    have:=L.2 _ hkN
    omega
  split
  ·exact low_gate L rfl (by show liveG v.g.f.words≤_; omega)
  split
  ·split
   ·exact L1
   ·exact low_gate L rfl (by show liveG v.g.f.words≤_; omega)
  ·exact L1
 rw [if_neg c2] at h ⊢
 by_cases c3:x.kind=6∨x.kind=7
 ·rw [if_pos c3]
  unfold powerV
  split
  ·exact L1
  rename_i q
  split
  ·exact L1
  split
  ·split
   ·exact low_gate L rfl (by show liveG v.g.f.words≤_; omega)
   ·have hkN:x.unit.toNat<v.units.length:=by omega
    have:=L.2 _ hkN
    exact low_unit L hkN (x:=fuelU (UU v x.unit.toNat) x.k) rfl rfl (by show liveG (UU v x.unit.toNat).f.words≤_; omega)
  split
  ·refine low_gate L rfl ?_
   show liveG (bootG v.g).1.f.words≤_
   rw [bootG_ok I.w.g]
   show liveG v.g.f.words≤_
   omega
  ·have hkN:x.unit.toNat<v.units.length:=by omega
   have:=L.2 _ hkN
   refine low_unit L hkN (x:=(bootU (UU v x.unit.toNat)).1) rfl rfl ?_
   rw [bootU_ok (I.ug _ hkN)]
   show liveG (UU v x.unit.toNat).f.words≤_
   omega
 rw [if_neg c3] at h ⊢
 by_cases c4:x.kind=8
 ·rw [if_pos c4]
  unfold gaveV
  split
  ·rename_i hh
   rw [(giveG_ok hh).2.2.2.2]
   refine low_gate L rfl ?_
   have:=noteG_gen (g:=v.g) (r:=[3,(ofG v.g.f).n])
   show liveG (noteG v.g [3,(ofG v.g.f).n]).1.f.words≤_
   omega
  ·exact L1
 rw [if_neg c4] at h ⊢
 by_cases c5:x.kind=2∨x.kind=9
 ·rw [if_pos c5]
  split
  ·exact L1
  split
  ·unfold pokeV
   split
   ·exact L1
   ·split
    ·exact low_gate L rfl (by show liveG v.g.f.words≤_; omega)
    ·exact L1
  ·unfold asksV
   split
   ·split
    ·exact L1
    ·exact low_gate L rfl (by show liveG v.g.f.words≤_; omega)
   ·exact L1
 rw [if_neg c5] at h ⊢
 by_cases c6:x.kind=10
 ·rw [if_pos c6]
  unfold tickV
  split
  ·exact L1
  ·exact low_gate L rfl (by show liveG v.g.f.words≤_; omega)
 ·rw [if_neg c6]; exact L1
theorem VI.runs {P:Vehicle→Prop}:∀ (l:List Happening) (v:Vehicle) (c B:Int),VI first c v→LowV B v→P v→(∀ u x,OkW u→P u→x∈l→(stepV u x).2=0→P (stepV u x).1) →
  ∃ c',VI first c' (runsV v l).1∧LowV (B+l.length) (runsV v l).1∧P (runsV v l).1∧(runsV v l).1.units.length=v.units.length
 | [],v,c,B,I,L,p,_=>⟨c,I,low_mono L (by simp),p,rfl⟩
 | x::l,v,c,B,I,L,p,hP=>by
  have el:((x::l).length:Int)=l.length+1:=by simp
  show ∃ c',VI first c' (runsV (if (stepV v x).2=0 then (stepV v x).1 else v) l).1∧LowV (B+((x::l).length:Int)) (runsV (if (stepV v x).2=0 then (stepV v x).1 else v) l).1∧P (runsV (if (stepV v x).2=0 then (stepV v x).1 else v) l).1∧(runsV (if (stepV v x).2=0 then (stepV v x).1 else v) l).1.units.length=v.units.length
  by_cases h:(stepV v x).2=0
  ·rw [if_pos h]
   obtain ⟨⟨c1,I1,_⟩,_⟩:=I.step h
   obtain ⟨c2,a,b,d,e⟩:=VI.runs l (stepV v x).1 c1 (B+1) I1 (I.low L h) (hP v x I.w p (List.mem_cons_self ..) h) (fun u y hu pu hy hh=>hP u y hu pu (List.mem_cons_of_mem _ hy) hh)
   exact ⟨c2,a,low_mono b (by omega),d,e.trans (step_units v x)⟩
  ·rw [if_neg h]
   obtain ⟨c2,a,b,d,e⟩:=VI.runs l v c B I L p (fun u y hu pu hy hh=>hP u y hu pu (List.mem_cons_of_mem _ hy) hh)
   exact ⟨c2,a,low_mono b (by omega),d,e⟩
end Vm
end Go.Proofs.YtlbppjmekiemiacGreatDoor

/- Plain laws for VehicleGoes: the second release is taken up behind the tour, and comes to run everywhere. No condition. -/
namespace Go.Proofs.YtlbppjmekiemiacGreatDoor
namespace Vm

variable {first:List (List Int)} {c:Int} {v:Vehicle} {B:Int}
end Vm
end Go.Proofs.YtlbppjmekiemiacGreatDoor
