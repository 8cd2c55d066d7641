/- What the functions of VehicleGoes compute (part 1 of 4). No condition. -/
import Derived.Test.YtlbppjmekiemiacGreatDoorTab
import Derived.Test.YtlbppjmekiemiacGreatDoorSpec
import Derived.KernelRfl
import Derived.Test.YtlbppjmekiemiacGreatDoorShelf
import Derived.WalkKit
import Derived.Lib.Mul64
import Derived.Laws.Bits64b
/- strconv.Itoa: the shelf's contract as one of ours. The number is no less than 0. -/
namespace Go.Proofs.YtlbppjmekiemiacGreatDoor
open Go.RowKit Go.Lib Go.Sort Vm
def c_q84:z00:=fun vs bs=>match vs,bs with
 | [.one (.dat .int n)],[]=>some (some (0≤n∧n≤9223372036854775807),.one (.dat .str (numT n)),[])
 | _,_=>none
theorem sound_q84:z03 Tryz.prog tab n_q84 c_q84:=by
 intro vs bs p v bs' h hp w S μ xs I hx
 unfold c_q84 at h
 split at h
 ·cases h
  rename_i n
  obtain ⟨⟨h1,h2⟩,_⟩:=hp
  have h1:(0:Int)≤n:=h1
  have h2:(n:Int)≤9223372036854775807:=h2
  match xs,hx with
  | [X],⟨g1,_⟩ =>
   have e1:=z2j g1
   subst e1
   obtain ⟨g,hg⟩:∃ g,tab.pow=some g:=⟨_,rfl⟩
   obtain ⟨_,ty,m,hb⟩:=I.pow g hg
   have htab : Go.Lib.TabIs Tryz.prog w "internal/strconv.uint64pow10" .u64 Go.Lib.pow10Tab := by
    have hgn : Tryz.prog.globalNamed "internal/strconv.uint64pow10" = tab.pow := by kernel_rfl
    unfold Go.Lib.TabIs World.var?
    rw [hgn,hg]
    simp only [Option.bind_some,hb]
    rfl
   refine (Tryz.strconv_Itoa n (by omega) h2 w htab).mono fun e w' ⟨he,k,os,hw⟩=>?_
   subst hw he
   have hsz:(grow (w.drewN k) os).heap=w.heap++os:=rfl
   have E:Ext μ (memL []) w S μ (memL []) (grow (w.drewN k) os) S:=⟨fun _ h=>h,(Ext.refl (μ:=μ) (mem:=memL []) (w:=w) (S:=S)).kinds,fun _ h=>h,by rw [hsz]; simp,fun b hb _=>by rw [hsz,Array.getElem?_append_left hb],fun _ h=>.inl h,fun _ h=>.inl h,rfl,rfl,rfl⟩
   refine ⟨_,μ,S,rfl,E,⟨fun r B h=>by simp [memL] at h,fun r r' _ ⟨B,h,_⟩=>by simp [memL] at h,fun r ⟨B,h,_⟩=>by simp [memL] at h,fun b hb=>Nat.lt_of_lt_of_le (I.lt b hb) E.size,I.powExt E⟩,?_⟩
   rw [itoa_eq h1 h2]
   exact zet _
 ·cases h
end Go.Proofs.YtlbppjmekiemiacGreatDoor

/- strings.Join: the shelf's contract as one of ours. What comes of it is no longer than memory holds. -/
namespace Go.Proofs.YtlbppjmekiemiacGreatDoor
open Go.RowKit Go.Lib Vm
theorem below_EI {μ:Mu} {w w':World} {S:Nat→Prop} (I:Inv tab μ (memL []) w S) (hb:Below w.heap.size w w'):Ext μ (memL []) w S μ (memL []) w' S∧Inv tab μ (memL []) w' S:=by
 have E:Ext μ (memL []) w S μ (memL []) w' S:=⟨fun _ h=>h,(Ext.refl (μ:=μ) (mem:=memL []) (w:=w) (S:=S)).kinds,fun _ h=>h,hb.size,fun b hlt _=>hb.block b hlt,fun _ h=>.inl h,fun _ h=>.inl h,hb.os,hb.tape,hb.output⟩
 exact ⟨E,⟨fun r B h=>by simp [memL] at h,fun r r' _ ⟨B,h,_⟩=>by simp [memL] at h,fun r ⟨B,h,_⟩=>by simp [memL] at h,fun b hb=>Nat.lt_of_lt_of_le (I.lt b hb) E.size,I.powExt E⟩⟩
def c_q85:z00:=fun vs bs=>match vs,bs with
 | [.one (.dat (.list .str) l),.one (.dat .str sep)],[]=>some (some (l.length≤140737488355328∧(joinT sep l).length≤140737488355328),.one (.dat .str (joinT sep l)),[])
 | _,_=>none
theorem sound_q85:z03 Tryz.prog tab n_q85 c_q85:=by
 intro vs bs p v bs' h hp w S μ xs I hx
 unfold c_q85 at h
 split at h
 ·cases h
  rename_i l sep
  obtain ⟨⟨h1,h2⟩,_⟩:=hp
  match xs,hx with
  | [X,Y],⟨g1,g2,_⟩ =>
   have e2:=zda g2
   subst e2
   obtain ⟨_,hr⟩:=g1
   cases hr with
   | empty t a cap =>
    refine (Tryz.strings_Join_none a cap ⟨sep.toArray⟩ w).mono fun e w' ⟨he,hw⟩=>?_
    subst hw he
    exact ⟨_,μ,S,rfl,Ext.refl,I,zet []⟩
   | list t l b off cap cs hS hcap hc hr =>
    have hm:(l.map fun s:List UInt8=>(⟨s.toArray⟩:ByteArray)).map (·.data.toList)=l:=by simp [List.map_map,Function.comp_def]
    have hj:(Go.Lib.join ((l.map fun s:List UInt8=>(⟨s.toArray⟩:ByteArray)).map (·.data.toList)) (⟨sep.toArray⟩:ByteArray).data.toList)=joinT sep l:=by rw [hm]; exact join_eq sep l
    have key:=Tryz.strings_Join b off cap (l.map fun s:List UInt8=>(⟨s.toArray⟩:ByteArray)) ⟨sep.toArray⟩ w (fun j x hx=>by
     rw [List.getElem?_map] at hx
     obtain ⟨s,hs,rfl⟩:=Option.map_eq_some_iff.1 hx
     have hjl:j<l.length:=(List.getElem?_eq_some_iff.1 hs).1
     have c1:=hc j 0 hjl (by decide)
     have e:nth l j (Ty.dflt .str)=s:=by simp [nth,List.getD_eq_getElem?_getD,hs]
     have c2:=hr j 0 (.dat .str s) hjl (by rw [e]; rfl)
     have c3:cs j 0=.string ⟨s.toArray⟩:=by
      generalize cs j 0=y at c2
      cases c2; rfl
     rw [c3] at c1
     simpa [at0,Ty.width] using c1) (I.lt b hS) (by simpa using h1) (by simpa using hcap) (by rw [hj]; exact h2)
    rw [List.length_map,hj] at key
    refine key.mono fun e w' ⟨he,hb⟩=>?_
    subst he
    obtain ⟨E,I'⟩:=below_EI I hb
    exact ⟨_,μ,S,rfl,E,I',zet _⟩
 ·cases h
end Go.Proofs.YtlbppjmekiemiacGreatDoor

/- math/bits.Mul: the whole product. Both factors are of 64 bits. -/
namespace Go.Proofs.YtlbppjmekiemiacGreatDoor
open Go.RowKit Go.Lib Vm
namespace Mul64
theorem maskN (a:Nat) (ha:a<18446744073709551616):bits .and .u64 (a:Int) 4294967295=((a % 4294967296:Nat):Int):=by
 have h:=bits_and_u64_nat a 4294967295 ha (by omega)
 have e:a &&& 4294967295=a % 4294967296:=Nat.and_two_pow_sub_one_eq_mod a 32
 rw [e] at h
 exact h
theorem divN (a:Nat):(a:Int) / 4294967296=((a / 4294967296:Nat):Int):=by omega
theorem mulN (a b:Nat):(a:Int)*(b:Int)=((a*b:Nat):Int):=(Int.natCast_mul a b).symm
theorem addN (a b:Nat):(a:Int)+(b:Int)=((a+b:Nat):Int):=(Int.natCast_add a b).symm
theorem wrapN (a:Nat) (ha:a<18446744073709551616):IntKind.u64.wrap (a:Int)=(a:Int):=by rw [IntKind.wrap_u64]; omega
theorem wrapM (a:Nat):IntKind.u64.wrap (a:Int)=((a % 18446744073709551616:Nat):Int):=by rw [IntKind.wrap_u64]; omega
end Mul64
set_option maxHeartbeats 1000000 in
theorem mul64_any (x y:Nat) (hx:x<18446744073709551616) (hy:y<18446744073709551616) (w:World) :
  Calls Tryz.prog 190 #[.int .u64 x,.int .u64 y] w fun e w'=>e=.returned (.tuple #[.int .u64 ((x*y / 18446744073709551616:Nat):Int),.int .u64 ((x*y % 18446744073709551616:Nat):Int)])∧w'=w:=by
 obtain ⟨bd,bt,bw,hhi⟩:=Lib.mul64_hi x y hx hy
 have ba:=Lib.half_mul_le (a:=x / 4294967296) (b:=y / 4294967296) (by omega) (by omega)
 have bb:=Lib.half_mul_le (a:=x / 4294967296) (b:=y % 4294967296) (by omega) (by omega)
 have bc:=Lib.half_mul_le (a:=x % 4294967296) (b:=y / 4294967296) (by omega) (by omega)
 have ba':x / 4294967296*(y / 4294967296)<18446744073709551616:=by omega
 have bb':x / 4294967296*(y % 4294967296)<18446744073709551616:=by omega
 have bc':x % 4294967296*(y / 4294967296)<18446744073709551616:=by omega
 have bh1:x / 4294967296*(y / 4294967296)+(x / 4294967296*(y % 4294967296)+x % 4294967296*(y % 4294967296) / 4294967296) / 4294967296<18446744073709551616:=by omega
 have bh:x / 4294967296*(y / 4294967296)+(x / 4294967296*(y % 4294967296)+x % 4294967296*(y % 4294967296) / 4294967296) / 4294967296+((x / 4294967296*(y % 4294967296)+x % 4294967296*(y % 4294967296) / 4294967296) % 4294967296+x % 4294967296*(y / 4294967296)) / 4294967296<18446744073709551616:=by omega
 go_enter Tryz.func190,Tryz.ntmps190
 go_wp2
 simp only [Mul64.maskN x hx,Mul64.maskN y hy,Mul64.divN,Mul64.mulN,Mul64.addN,Mul64.wrapN _ bd,Mul64.wrapN _ bb',Mul64.wrapN _ bt,Mul64.maskN _ bt,Mul64.wrapN _ bc',Mul64.wrapN _ bw,Mul64.wrapN _ ba',Mul64.wrapN _ bh1,Mul64.wrapN _ bh,Mul64.wrapM (x*y)]
 rw [hhi]
 go_ret2
 exact ⟨rfl,rfl⟩
set_option maxHeartbeats 1000000 in
theorem mul_any (x y:Nat) (hx:x<18446744073709551616) (hy:y<18446744073709551616) (w:World) :
  Calls Tryz.prog 144 #[.int .u64 x,.int .u64 y] w fun e w'=>e=.returned (.tuple #[.int .u64 ((x*y / 18446744073709551616:Nat):Int),.int .u64 ((x*y % 18446744073709551616:Nat):Int)])∧w'=w:=by
 have c64:=mul64_any x y hx hy w
 go_enter Tryz.func144,Tryz.ntmps144
 go_wp2_with (go_at_call 190; refine c64.mono ?_; rintro e w' ⟨rfl,hw⟩; rw [hw])
 go_ret2
 exact ⟨rfl,rfl⟩
def c_q24:z00:=fun vs bs=>match vs,bs with
 | [.one (.dat .u64 a),.one (.dat .u64 b)],[]=>some (some (inU64 a=true∧inU64 b=true),.tup [.one (.dat .u64 ((a*b) / two64)),.one (.dat .u64 ((a*b) % two64))],[])
 | _,_=>none
theorem sound_q24:z03 Tryz.prog tab n_q24 c_q24:=by
 intro vs bs p v bs' h hp w S μ xs I hx
 unfold c_q24 at h
 split at h
 ·cases h
  rename_i a b
  obtain ⟨⟨h1,h2⟩,_⟩:=hp
  simp only [inU64,Bool.and_eq_true,decide_eq_true_eq] at h1 h2
  obtain ⟨x,rfl⟩:=Int.eq_ofNat_of_zero_le h1.1
  obtain ⟨y,rfl⟩:=Int.eq_ofNat_of_zero_le h2.1
  match xs,hx with
  | [X,Y],⟨g1,g2,_⟩ =>
   have e1:=zbn g1
   have e2:=zbn g2
   subst e1 e2
   refine (mul_any x y (by omega) (by omega) w).mono fun e w' ⟨he,hw⟩=>?_
   subst hw he
   refine ⟨_,μ,S,rfl,Ext.refl,I,_,rfl,rfl,fun i u hu=>?_⟩
   match i,hu with
   | 0,hu=>cases hu; exact ⟨_,rfl,zj4 _⟩
   | 1,hu=>cases hu; exact ⟨_,rfl,zj4 _⟩
 ·cases h
end Go.Proofs.YtlbppjmekiemiacGreatDoor
namespace Go.Proofs.YtlbppjmekiemiacGreatDoor
open Vm
set_option maxHeartbeats 4000000
variable (up:Bool) (at_ e fu k long n name rt rv sector slot t tn tt tv u units v w x:Int) (im keep:List (List Int)) (b:List (List UInt8)) (di vo:List Bool) (ks l r rk tk ws:List Int) (s:List UInt8) (ts:List Vm.Target)
def c_q20:z00:=fun vs bs=>match vs,bs with
 | [.one (.dat .int k),.one (.dat .int n)],[]=>some (some (0<n∧n≤1000),.one (dI (k % n)),[])
 | _,_=>none
def Γ_q20:Ctx:=[]
theorem ok_q20:Ok Tryz.prog tab Γ_q20:=ok_nil
theorem q20_vc (k n:Int) (rec:RK) (K:KK):segD Γ_q20 tab fn_q20 0 K rec [.code (z05 fn_q20)] (z07 [.one (dI k),.one (dI n)] [])=(
 n≠(0:Int) ∧
 br (lti (Int.tmod k n) 0)
 (K (.one (dI (w64 (Int.tmod k n+n)))) [])
 (K (.one (dI (Int.tmod k n))) [])):=by kernel_rfl

theorem run_q20 (hp:0<n∧n≤1000) (K:KK) (hK:K (.one (dI (k % n))) []):GD Γ_q20 fn_q20 0 K [.one (dI k),.one (dI n)] []:=by
 refine ⟨1,?_⟩
 rw [z02,q20_vc _ _ _ _]
 refine ⟨by omega,?_⟩
 have h1:=Int.tmod_eq_emod (a:=k) (b:=n)
 have h2:=Int.emod_nonneg k (show n≠0 by omega)
 have h3:=Int.emod_lt_of_pos k (show 0<n by omega)
 have h4:Int.tmod k n=k % n∨Int.tmod k n=k % n-n:=by
  rw [h1]; split
  ·left; omega
  ·right; omega
 have h5:(Int.tmod k n<0→Int.tmod k n=k % n-n):=by omega
 refine z1a (fun h=>?_) (fun h=>?_)
 ·rw [z0e (by omega) (by omega),show Int.tmod k n+n=k % n by omega]; exact hK
 ·rw [show Int.tmod k n=k % n by omega]; exact hK
theorem sound_q20:z03 Tryz.prog tab n_q20 c_q20:=z01 ok_q20 hg_q20 (by
 intro vs bs p v bs' h hp
 unfold c_q20 at h
 split at h
 ·cases h
  exact ⟨by kernel_rfl,rfl,.inl (run_q20 _ _ hp.1 _ ⟨rfl,rfl⟩)⟩
 ·cases h)

def c_q93:z00:=fun vs bs=>match vs,bs with
 | [.one (.dat (.list .int) l)],[]=>some (none,.one (dI (z0j l)),[])
 | _,_=>none
def Γ_q93:Ctx:=[]
theorem ok_q93:Ok Tryz.prog tab Γ_q93:=ok_nil
noncomputable def q93_L0:List It:=[.inLoop [15,14,13,2] (cSub fn_q93 [1,1,0,1,0,0]),.inBlock 0,.code (cSub fn_q93 [1,1,1])]
def q93_S0 (x0 x1:Int) (x2:List Int) (x3:Int):St:=⟨[(15,.one (dI x0)),(14,.one (dI x1)),(13,.one (dL x2)),(2,.one (dI x3))],[],0⟩
theorem q93_vc (l:List Int) (rec:RK) (K:KK):segD Γ_q93 tab fn_q93 0 K rec [.code (z05 fn_q93)] (z07 [.one (dL l)] [])=(
 br (eqi (len l:Int) 0)
 (K (.one (dI 2)) [])
 (br (lti 40 (len l:Int))
 (K (.one (dI 2)) [])
 (rec q93_L0 (q93_S0 0 (len l:Int) l 0)))):=by kernel_rfl
theorem q93_vc0 (x0 x1:Int) (x2:List Int) (x3:Int) (rec:RK) (K:KK):segD Γ_q93 tab fn_q93 0 K rec (ent q93_L0) (q93_S0 x0 x1 x2 x3)=(
 br (lti x0 x1)
 (((0:Int)≤x0∧x0<(len x2:Int)) ∧
 br (lti (nth x2 (Int.toNat x0) (Ty.dflt Ty.int)) 0)
 (K (.one (dI 3)) [])
 (br (lti 65535 (nth x2 (Int.toNat x0) (Ty.dflt Ty.int)))
 (K (.one (dI 3)) [])
 (rec q93_L0 (q93_S0 (w64 (x0+1)) x1 x2 x3))))
 (K (.one (dI 0)) [])):=by kernel_rfl

theorem zie (ws:List Int) (hl:ws.length≤40) (K:KK) (hK:K (.one (dI (if z04 ws then 0 else 3))) []):∀ (d k:Nat),k+d=ws.length→z04 (ws.take k)=true →
  goD Γ_q93 tab fn_q93 0 K (d+1) q93_L0 (q93_S0 (k:Int) (((len ws):Nat):Int) ws (0:Int))
 | 0,k,hk,he=>by
  rw [z09 (L:=q93_L0),q93_vc0 _ _ _ _ _ _]
  refine z22 (by simp only [len]; omega) ?_
  rw [List.take_of_length_le (by omega)] at he
  rw [if_pos he] at hK
  exact hK
 | d+1,k,hk,he=>by
  rw [z09 (L:=q93_L0),q93_vc0 _ _ _ _ _ _]
  have bad:okWord (nth ws k (Ty.dflt Ty.int))=false→K (.one (dI 3)) []:=fun h=>by
   rw [show z04 ws=false from zbv (k:=k) (by omega) _ h] at hK; exact hK
  refine z2o (by simp only [len]; omega) ⟨⟨by omega,by simp only [len]; omega⟩,z1a (fun h=>?_) (fun h=>z1a (fun h2=>?_) (fun h2=>?_))⟩
  ·rw [z08] at h
   exact bad (by simp only [okWord,Bool.and_eq_false_iff,decide_eq_false_iff_not]; exact .inl (by omega))
  ·rw [z08] at h2
   exact bad (by simp only [okWord,Bool.and_eq_false_iff,decide_eq_false_iff_not]; exact .inr (by omega))
  ·rw [z0f (by omega)]
   rw [z08] at h h2
   exact zie ws hl K hK d (k+1) (by omega) (z5f (by omega) (Ty.dflt Ty.int) he (by simp [okWord,h,h2]))
theorem run_q93 (K:KK) (hK:K (.one (dI (z0j l))) []):GD Γ_q93 fn_q93 0 K [.one (dL l)] []:=by
 refine ⟨l.length+2,?_⟩
 rw [z02,q93_vc _ _ _]
 unfold z0j at hK
 refine z27 (fun h=>?_) (fun h=>z1a (fun h2=>?_) (fun h2=>?_))
 ·rw [if_pos (by simp only [len] at h; omega)] at hK; exact hK
 ·rw [if_pos (by simp only [len] at h2; omega)] at hK; exact hK
 ·rw [if_neg (by simp only [len] at h h2; omega)] at hK
  exact zie l (by simp only [len] at h2; omega) K hK l.length 0 (by omega) rfl
theorem sound_q93:z03 Tryz.prog tab n_q93 c_q93:=z01 ok_q93 hg_q93 (by
 intro vs bs p v bs' h hp
 unfold c_q93 at h
 split at h
 ·cases h
  exact ⟨by kernel_rfl,rfl,.inl (run_q93 _ _ ⟨rfl,rfl⟩)⟩
 ·cases h)

def c_q90:z00:=fun vs bs=>match vs,bs with
 | [.one (.dat (.list .int) l)],[]=>some (some (len l≤1000∧nums l=true),.one (.dat .str (listT l)),[])
 | _,_=>none
def Γ_q90:Ctx:=[(n_q84,c_q84),(n_q85,c_q85)]
theorem ok_q90:Ok Tryz.prog tab Γ_q90:=((ok_nil.c hg_q85 sound_q85).c hg_q84 sound_q84)
noncomputable def q90_L0:List It:=[.inLoop [8,7,6,3,2] (cSub fn_q90 [1,1,0,1,0,0]),.inBlock 0,.code (cSub fn_q90 [1,1,1])]
def q90_S0 (x0 x1:Int) (x2:List Int) (x3:List UInt8) (x4:List (List UInt8)):St:=⟨[(8,.one (dI x0)),(7,.one (dI x1)),(6,.one (dL x2)),(3,.one (.own 0)),(2,.one (.dat Ty.str x3))],[(0,.arr Ty.str x4)],1⟩
theorem q90_vc (l:List Int) (rec:RK) (K:KK):segD Γ_q90 tab fn_q90 0 K rec [.code (z05 fn_q90)] (z07 [.one (dL l)] [])=(
 rec q90_L0 (q90_S0 0 (len l:Int) l [] [])):=by kernel_rfl
theorem q90_vc0 (x0 x1:Int) (x2:List Int) (x3:List UInt8) (x4:List (List UInt8)) (rec:RK) (K:KK) v0 (hv0:v0=numT (nth x2 (Int.toNat x0) (Ty.dflt Ty.int))) v1 (hv1:v1=joinT ((32:UInt8)::[]) x4):segD Γ_q90 tab fn_q90 0 K rec (ent q90_L0) (q90_S0 x0 x1 x2 x3 x4)=(
 br (lti x0 x1)
 (((0:Int)≤x0∧x0<(len x2:Int)) ∧
 ((0:Int)≤nth x2 (Int.toNat x0) (Ty.dflt Ty.int)∧nth x2 (Int.toNat x0) (Ty.dflt Ty.int)≤9223372036854775807) ∧
 (len x4+len (v0::[]))*16≤140737488355328 ∧
 rec q90_L0 (q90_S0 (w64 (x0+1)) x1 x2 x3 (cat x4 (v0::[]))))
 ((List.length x4≤140737488355328∧List.length v1≤140737488355328) ∧
 K (.one (.dat Ty.str v1)) [])):=by subst_vars; kernel_rfl

theorem zit (l:List Int) (hl:l.length≤1000) (hn:nums l=true) (K:KK) (hK:K (.one (.dat .str (listT l))) []) (y:List UInt8):∀ (d k:Nat),k+d=l.length →
  goD Γ_q90 tab fn_q90 0 K (d+1) q90_L0 (q90_S0 (k:Int) (((len l):Nat):Int) l y ((l.take k).map numT))
 | 0,k,hk=>by
  rw [z09 (L:=q90_L0),q90_vc0 _ _ _ _ _ _ _ _ rfl _ rfl,List.take_of_length_le (by omega)]
  have h1:=z84 l
  unfold listT at h1
  exact z22 (by simp only [len]; omega) ⟨⟨by rw [List.length_map]; omega,by omega⟩,hK⟩
 | d+1,k,hk=>by
  rw [z09 (L:=q90_L0),q90_vc0 _ _ _ _ _ _ _ _ rfl _ rfl,z08]
  have hm:nth l k (Ty.dflt Ty.int)∈l:=by
   have:k<l.length:=by omega
   simp [nth,List.getD_eq_getElem?_getD,this]
  have h1:=List.all_eq_true.1 hn _ hm
  simp only [Bool.and_eq_true,decide_eq_true_eq] at h1
  refine z2o (by simp only [len]; omega) ⟨⟨by omega,by simp only [len]; omega⟩,h1,by simp only [len,List.length_map,List.length_take,List.length_cons,List.length_nil]; omega,?_⟩
  rw [z0f (by omega),show cat ((l.take k).map numT) [numT (nth l k (Ty.dflt Ty.int))]=(l.take (k+1)).map numT from by rw [z3u (by omega) (Ty.dflt Ty.int)]; simp [cat]]
  exact zit l hl hn K hK y d (k+1) (by omega)
theorem run_q90 (hp:len l≤1000∧nums l=true) (K:KK) (hK:K (.one (.dat .str (listT l))) []):GD Γ_q90 fn_q90 0 K [.one (dL l)] []:=by
 refine ⟨l.length+2,?_⟩
 rw [z02,q90_vc _ _ _]
 exact zit l hp.1 hp.2 K hK [] l.length 0 (by omega)
theorem sound_q90:z03 Tryz.prog tab n_q90 c_q90:=z01 ok_q90 hg_q90 (by
 intro vs bs p v bs' h hp
 unfold c_q90 at h
 split at h
 ·cases h
  exact ⟨by kernel_rfl,rfl,.inl (run_q90 _ hp.1 _ ⟨rfl,rfl⟩)⟩
 ·cases h)

def c_q96:z00:=fun vs bs=>match vs,bs with
 | [.one (.dat (.list .int) l)],[]=>some (none,.tup [.one (.dat .str (imageTextE l).1),.one (dI (imageTextE l).2)],[])
 | _,_=>none
def Γ_q96:Ctx:=[(n_q93,c_q93),(n_q90,c_q90)]
theorem ok_q96:Ok Tryz.prog tab Γ_q96:=((ok_nil.c hg_q90 sound_q90).c hg_q93 sound_q93)
theorem q96_vc (l:List Int) (rec:RK) (K:KK) v0 (hv0:v0=z0j l) v1 (hv1:v1=nums l) v2 (hv2:v2=listT l):segD Γ_q96 tab fn_q96 0 K rec [.code (z05 fn_q96)] (z07 [.one (dL l)] [])=(
 br (!(eqi v0 0))
 (K (.tup [.one (.dat Ty.str []),.one (dI v0)]) [])
 ((len l≤1000∧v1=true) ∧
 len ((105:UInt8)::(109:UInt8)::(97:UInt8)::(103:UInt8)::(101:UInt8)::(32:UInt8)::[])+len v2≤140737488355328 ∧
 K (.tup [.one (.dat Ty.str (cat ((105:UInt8)::(109:UInt8)::(97:UInt8)::(103:UInt8)::(101:UInt8)::(32:UInt8)::[]) v2)),.one (dI 0)]) [])):=by subst_vars; kernel_rfl

theorem run_q96 (K:KK) (hK:K (.tup [.one (.dat .str (imageTextE l).1),.one (dI (imageTextE l).2)]) []):GD Γ_q96 fn_q96 0 K [.one (dL l)] []:=by
 refine ⟨1,?_⟩
 rw [z02,q96_vc _ _ _ _ rfl _ rfl _ rfl]
 unfold imageTextE at hK
 refine z1c (fun h=>?_) (fun h=>?_)
 ·rw [if_neg h] at hK; exact hK
 rw [if_pos h] at hK
 obtain ⟨h1,h2,h3⟩:=z2k h
 have n3:=z84 l
 exact ⟨⟨by simp only [len]; omega,z59 h3⟩,by simp only [len,List.length_cons,List.length_nil]; omega,hK⟩
theorem sound_q96:z03 Tryz.prog tab n_q96 c_q96:=z01 ok_q96 hg_q96 (by
 intro vs bs p v bs' h hp
 unfold c_q96 at h
 split at h
 ·cases h
  exact ⟨by kernel_rfl,rfl,.inl (run_q96 _ _ ⟨rfl,rfl⟩)⟩
 ·cases h)

def c_q92:z00:=fun vs bs=>match vs,bs with
 | [.agg [.dat .int v,.dat .int u,.dat (.list .target) ts]],[]=>some (none,.one (dI (z0i v u ts)),[])
 | _,_=>none
def Γ_q92:Ctx:=[]
theorem ok_q92:Ok Tryz.prog tab Γ_q92:=ok_nil
noncomputable def q92_L0:List It:=[.inLoop [38,37,36,2] (cSub fn_q92 [1,1,1,0,1,0,0]),.inBlock 0,.code (cSub fn_q92 [1,1,1,1])]
def q92_S0 (x0 x1:Int) (x2:List Vm.Target) (x3:Int):St:=⟨[(38,.one (dI x0)),(37,.one (dI x1)),(36,.one (.dat (Ty.list Ty.target) x2)),(2,.one (dI x3))],[],0⟩
noncomputable def q92_L1:List It:=[.inLoop [55,54,53,52,51,50,49,48,47,46,45,44,43,3,4,42,41,40,39,38,37,36,2] (cSub fn_q92 [1,1,1,0,1,0,0,1,1,0,0,1,1,0,0]),.inBlock 2,.inBlock 1,.code (cSub fn_q92 [1,1,1,0,1,0,0,1,1,1]),.inLoop [38,37,36,2] (cSub fn_q92 [1,1,1,0,1,0,0]),.inBlock 0,.code (cSub fn_q92 [1,1,1,1])]
def q92_S1 (x0 x1 x2 x3 x4 x5 x6 x7 x8 x9 x10 x11 x12 x13 x14 x15 x16 x17 x18 x19 x20 x21 x22 x23 x24 x25 x26 x27:Int) (x28:List Vm.Target) (x29:Nat) (x30:Int) (x31:Bool) (x32 x33:Int) (x34:List Vm.Target) (x35 x36 x37 x38:Int):St:=⟨[(55,.one (dI x0)),(54,.agg [dI x1,dI x2,dI x3,dI x4,dI x5,dI x6,dI x7,dI x8,dI x9]),(53,.agg [dI x10,dI x11,dI x12]),(52,.one (dI x13)),(51,.one (.ptr 0 2)),(50,.agg [dI x14,dI x15,dI x16]),(49,.one (dI x17)),(48,.one (.ptr 0 1)),(47,.agg [dI x18,dI x19,dI x20]),(46,.one (dI x21)),(45,.one (dI x22)),(44,.one (dI x23)),(43,.one (.ptr 0 0)),(3,.one (dI x24)),(4,.one (.ptr 0 0)),(42,.agg [dI x25,dI x26,dI x27]),(41,.one (.eptr Ty.target x28 x29 0)),(40,.one (dI x30)),(39,.one (dB x31)),(38,.one (dI x32)),(37,.one (dI x33)),(36,.one (.dat (Ty.list Ty.target) x34)),(2,.one (dI x35))],[(0,.box [dI x36,dI x37,dI x38])],1⟩
theorem q92_vc (v u:Int) (ts:List Vm.Target) (rec:RK) (K:KK):segD Γ_q92 tab fn_q92 0 K rec [.code (z05 fn_q92)] (z07 [.agg [dI v,dI u,.dat (Ty.list Ty.target) ts]] [])=(
 br (lti v 1)
 (K (.one (dI 3)) [])
 (br (lti 1000 v)
 (K (.one (dI 3)) [])
 (br (lti u 0)
 (K (.one (dI 3)) [])
 (br (lti 100000 u)
 (K (.one (dI 3)) [])
 (br (eqi (len ts:Int) 0)
 (K (.one (dI 2)) [])
 (br (lti 4 (len ts:Int))
 (K (.one (dI 2)) [])
 (rec q92_L0 (q92_S0 0 (len ts:Int) ts 0)))))))):=by kernel_rfl
theorem q92_vc0 (x0 x1:Int) (x2:List Vm.Target) (x3:Int) (rec:RK) (K:KK):segD Γ_q92 tab fn_q92 0 K rec (ent q92_L0) (q92_S0 x0 x1 x2 x3)=(
 br (lti x0 x1)
 (((0:Int)≤x0∧x0<(len x2:Int)) ∧
 rec q92_L1 (q92_S1 0 (nth x2 (Int.toNat x0) (Ty.dflt Ty.target)).unit x0 x0 (nth x2 (Int.toNat x0) (Ty.dflt Ty.target)).image 1 60 (nth x2 (Int.toNat x0) (Ty.dflt Ty.target)).long 1 40 (nth x2 (Int.toNat x0) (Ty.dflt Ty.target)).long 1 40 (nth x2 (Int.toNat x0) (Ty.dflt Ty.target)).long (nth x2 (Int.toNat x0) (Ty.dflt Ty.target)).image 1 60 (nth x2 (Int.toNat x0) (Ty.dflt Ty.target)).image (nth x2 (Int.toNat x0) (Ty.dflt Ty.target)).unit x0 x0 x0 x0 (nth x2 (Int.toNat x0) (Ty.dflt Ty.target)).unit x0 (nth x2 (Int.toNat x0) (Ty.dflt Ty.target)).unit (nth x2 (Int.toNat x0) (Ty.dflt Ty.target)).image (nth x2 (Int.toNat x0) (Ty.dflt Ty.target)).long x2 (Int.toNat x0) x0 (lti x0 x1) x0 x1 x2 x3 (nth x2 (Int.toNat x0) (Ty.dflt Ty.target)).unit (nth x2 (Int.toNat x0) (Ty.dflt Ty.target)).image (nth x2 (Int.toNat x0) (Ty.dflt Ty.target)).long))
 (K (.one (dI 0)) [])):=by kernel_rfl
theorem q92_vc1_0 (x1 x2 x3 x4 x5 x6 x7 x8 x9 x10 x11 x12 x13 x14 x15 x16 x17 x18 x19 x20 x21 x22 x23 x24 x25 x26 x27:Int) (x28:List Vm.Target) (x29:Nat) (x30:Int) (x31:Bool) (x32 x33:Int) (x34:List Vm.Target) (x35 x36 x37 x38:Int) (rec:RK) (K:KK):segD Γ_q92 tab fn_q92 0 K rec (ent q92_L1) (q92_S1 0 x1 x2 x3 x4 x5 x6 x7 x8 x9 x10 x11 x12 x13 x14 x15 x16 x17 x18 x19 x20 x21 x22 x23 x24 x25 x26 x27 x28 x29 x30 x31 x32 x33 x34 x35 x36 x37 x38)=(
 ((0:Int)≤(0:Int)∧(0:Int)<((3:Nat):Int)) ∧
 ((0:Int)≤(0:Int)∧(0:Int)<((3:Nat):Int)) ∧
 ((0:Int)≤(1:Int)∧(1:Int)<((3:Nat):Int)) ∧
 br (lti x1 x2)
 (K (.one (dI 3)) [])
 (((0:Int)≤(0:Int)∧(0:Int)<((3:Nat):Int)) ∧
 ((0:Int)≤(2:Int)∧(2:Int)<((3:Nat):Int)) ∧
 br (lti x3 x1)
 (K (.one (dI 3)) [])
 (rec q92_L1 (q92_S1 (w64 ((0:Int)+(1:Int))) x1 x2 x3 x4 x5 x6 x7 x8 x9 x10 x11 x12 x13 x14 x15 x16 x17 x18 x19 x20 x21 x22 x23 x24 x25 x26 x27 x28 x29 x30 x31 x32 x33 x34 x35 x36 x37 x38)))):=by kernel_rfl
theorem q92_vc1_1 (x1 x2 x3 x4 x5 x6 x7 x8 x9 x10 x11 x12 x13 x14 x15 x16 x17 x18 x19 x20 x21 x22 x23 x24 x25 x26 x27:Int) (x28:List Vm.Target) (x29:Nat) (x30:Int) (x31:Bool) (x32 x33:Int) (x34:List Vm.Target) (x35 x36 x37 x38:Int) (rec:RK) (K:KK):segD Γ_q92 tab fn_q92 0 K rec (ent q92_L1) (q92_S1 1 x1 x2 x3 x4 x5 x6 x7 x8 x9 x10 x11 x12 x13 x14 x15 x16 x17 x18 x19 x20 x21 x22 x23 x24 x25 x26 x27 x28 x29 x30 x31 x32 x33 x34 x35 x36 x37 x38)=(
 ((0:Int)≤(1:Int)∧(1:Int)<((3:Nat):Int)) ∧
 ((0:Int)≤(0:Int)∧(0:Int)<((3:Nat):Int)) ∧
 ((0:Int)≤(1:Int)∧(1:Int)<((3:Nat):Int)) ∧
 br (lti x4 x5)
 (K (.one (dI 3)) [])
 (((0:Int)≤(0:Int)∧(0:Int)<((3:Nat):Int)) ∧
 ((0:Int)≤(2:Int)∧(2:Int)<((3:Nat):Int)) ∧
 br (lti x6 x4)
 (K (.one (dI 3)) [])
 (rec q92_L1 (q92_S1 (w64 ((1:Int)+(1:Int))) x1 x2 x3 x4 x5 x6 x7 x8 x9 x10 x11 x12 x13 x14 x15 x16 x17 x18 x19 x20 x21 x22 x23 x24 x25 x26 x27 x28 x29 x30 x31 x32 x33 x34 x35 x36 x37 x38)))):=by kernel_rfl
theorem q92_vc1_2 (x1 x2 x3 x4 x5 x6 x7 x8 x9 x10 x11 x12 x13 x14 x15 x16 x17 x18 x19 x20 x21 x22 x23 x24 x25 x26 x27:Int) (x28:List Vm.Target) (x29:Nat) (x30:Int) (x31:Bool) (x32 x33:Int) (x34:List Vm.Target) (x35 x36 x37 x38:Int) (rec:RK) (K:KK):segD Γ_q92 tab fn_q92 0 K rec (ent q92_L1) (q92_S1 2 x1 x2 x3 x4 x5 x6 x7 x8 x9 x10 x11 x12 x13 x14 x15 x16 x17 x18 x19 x20 x21 x22 x23 x24 x25 x26 x27 x28 x29 x30 x31 x32 x33 x34 x35 x36 x37 x38)=(
 ((0:Int)≤(2:Int)∧(2:Int)<((3:Nat):Int)) ∧
 ((0:Int)≤(0:Int)∧(0:Int)<((3:Nat):Int)) ∧
 ((0:Int)≤(1:Int)∧(1:Int)<((3:Nat):Int)) ∧
 br (lti x7 x8)
 (K (.one (dI 3)) [])
 (((0:Int)≤(0:Int)∧(0:Int)<((3:Nat):Int)) ∧
 ((0:Int)≤(2:Int)∧(2:Int)<((3:Nat):Int)) ∧
 br (lti x9 x7)
 (K (.one (dI 3)) [])
 (rec q92_L1 (q92_S1 (w64 ((2:Int)+(1:Int))) x1 x2 x3 x4 x5 x6 x7 x8 x9 x10 x11 x12 x13 x14 x15 x16 x17 x18 x19 x20 x21 x22 x23 x24 x25 x26 x27 x28 x29 x30 x31 x32 x33 x34 x35 x36 x37 x38)))):=by kernel_rfl
theorem q92_vc1_3 (x1 x2 x3 x4 x5 x6 x7 x8 x9 x10 x11 x12 x13 x14 x15 x16 x17 x18 x19 x20 x21 x22 x23 x24 x25 x26 x27:Int) (x28:List Vm.Target) (x29:Nat) (x30:Int) (x31:Bool) (x32 x33:Int) (x34:List Vm.Target) (x35 x36 x37 x38:Int) (rec:RK) (K:KK):segD Γ_q92 tab fn_q92 0 K rec (ent q92_L1) (q92_S1 3 x1 x2 x3 x4 x5 x6 x7 x8 x9 x10 x11 x12 x13 x14 x15 x16 x17 x18 x19 x20 x21 x22 x23 x24 x25 x26 x27 x28 x29 x30 x31 x32 x33 x34 x35 x36 x37 x38)=(
 rec q92_L0 (q92_S0 (w64 (x32+1)) x33 x34 x35)):=by kernel_rfl

theorem ziu (ts:List Vm.Target) (hl:ts.length≤4) (K:KK):∀ (d k:Nat),k+d=ts.length→K (.one (dI (if okTargets (k:Int) (ts.drop k) then 0 else 3))) [] →
  goD Γ_q92 tab fn_q92 0 K (5*d+1) q92_L0 (q92_S0 (k:Int) (((len ts):Nat):Int) ts 0)
 | 0,k,hk,hK=>by
  rw [show 5*0+1=0+1 by omega,z09 (L:=q92_L0),q92_vc0 _ _ _ _ _ _]
  rw [List.drop_of_length_le (by omega)] at hK
  exact z22 (by simp only [len]; omega) hK
 | d+1,k,hk,hK=>by
  rw [show 5*(d+1)+1=(5*d+1+1+1+1+1)+1 by omega,z09 (L:=q92_L0),q92_vc0 _ _ _ _ _ _,z08]
  rw [z0q (by omega) (Ty.dflt Ty.target)] at hK
  obtain ⟨x,hx⟩:∃ x,nth ts k (Ty.dflt Ty.target)=x:=⟨_,rfl⟩
  rw [hx] at hK ⊢
  have three:okTarget (k:Int) x=false→K (.one (dI 3)) []:=fun h=>by rw [show okTargets (k:Int) (x::ts.drop (k+1))=false from by simp [okTargets,h]] at hK; exact hK
  have hot:okTarget (k:Int) x=true↔(x.unit=k∧1≤x.image∧x.image≤60∧1≤x.long∧x.long≤40):=by
   simp only [okTarget,Bool.and_eq_true,decide_eq_true_eq]; omega
  have bad:¬ (x.unit=k∧1≤x.image∧x.image≤60∧1≤x.long∧x.long≤40)→K (.one (dI 3)) []:=fun h=>three (by
   cases hc:okTarget (k:Int) x
   ·rfl
   ·exact absurd (hot.1 hc) h)
  refine z2o (by simp only [len]; omega) ⟨⟨by omega,by simp only [len]; omega⟩,?_⟩
  rw [z09 (L:=q92_L1),q92_vc1_0 _ _ _ _ _ _ _ _ _ _ _ _ _ _ _ _ _ _ _ _ _ _ _ _ _ _ _ _ _ _ _ _ _ _ _ _ _ _ _ _]
  refine ⟨by omega,by omega,by omega,z1a (fun h=>bad (by omega)) (fun h=>⟨by omega,by omega,z1a (fun h2=>bad (by omega)) (fun h2=>?_)⟩)⟩
  rw [show w64 ((0:Int)+1)=1 from z0e (by omega) (by omega),z09 (L:=q92_L1),q92_vc1_1 _ _ _ _ _ _ _ _ _ _ _ _ _ _ _ _ _ _ _ _ _ _ _ _ _ _ _ _ _ _ _ _ _ _ _ _ _ _ _ _]
  refine ⟨by omega,by omega,by omega,z1a (fun h3=>bad (by omega)) (fun h3=>⟨by omega,by omega,z1a (fun h4=>bad (by omega)) (fun h4=>?_)⟩)⟩
  rw [show w64 ((1:Int)+1)=2 from z0e (by omega) (by omega),z09 (L:=q92_L1),q92_vc1_2 _ _ _ _ _ _ _ _ _ _ _ _ _ _ _ _ _ _ _ _ _ _ _ _ _ _ _ _ _ _ _ _ _ _ _ _ _ _ _ _]
  refine ⟨by omega,by omega,by omega,z1a (fun h5=>bad (by omega)) (fun h5=>⟨by omega,by omega,z1a (fun h6=>bad (by omega)) (fun h6=>?_)⟩)⟩
  rw [show w64 ((2:Int)+1)=3 from z0e (by omega) (by omega),z09 (L:=q92_L1),q92_vc1_3 _ _ _ _ _ _ _ _ _ _ _ _ _ _ _ _ _ _ _ _ _ _ _ _ _ _ _ _ _ _ _ _ _ _ _ _ _ _ _ _,z0f (by omega)]
  rw [show okTargets (k:Int) (x::ts.drop (k+1))=okTargets ((k:Int)+1) (ts.drop (k+1)) from by simp only [okTargets,hot.2 (show _ by omega),Bool.true_and]] at hK
  exact ziu ts hl K d (k+1) (by omega) (by rw [show ((k+1:Nat):Int)=(k:Int)+1 by omega]; exact hK)
theorem run_q92 (K:KK) (hK:K (.one (dI (z0i v u ts))) []):GD Γ_q92 fn_q92 0 K [.agg [dI v,dI u,.dat (.list .target) ts]] []:=by
 refine ⟨5*ts.length+1+1,?_⟩
 rw [z02,q92_vc _ _ _ _ _]
 unfold z0i at hK
 refine z1a (fun h=>?_) (fun h=>z1a (fun h2=>?_) (fun h2=>z1a (fun h3=>?_) (fun h3=>z1a (fun h4=>?_) (fun h4=>z27 (fun h5=>?_) (fun h5=>z1a (fun h6=>?_) (fun h6=>?_))))))
 ·rw [if_pos (by omega)] at hK; exact hK
 ·rw [if_pos (by omega)] at hK; exact hK
 ·rw [if_pos (by omega)] at hK; exact hK
 ·rw [if_pos (by omega)] at hK; exact hK
 ·rw [if_neg (by omega),if_pos (by simp only [len] at h5; omega)] at hK; exact hK
 ·rw [if_neg (by omega),if_pos (by simp only [len] at h6; omega)] at hK; exact hK
 ·rw [if_neg (by omega),if_neg (by simp only [len] at h5 h6; omega)] at hK
  exact ziu ts (by simp only [len] at h6; omega) K ts.length 0 (by omega) hK
theorem sound_q92:z03 Tryz.prog tab n_q92 c_q92:=z01 ok_q92 hg_q92 (by
 intro vs bs p v bs' h hp
 unfold c_q92 at h
 split at h
 ·cases h
  exact ⟨by kernel_rfl,rfl,.inl (run_q92 _ _ _ _ ⟨rfl,rfl⟩)⟩
 ·cases h)

def c_q95:z00:=fun vs bs=>match vs,bs with
 | [.agg [.dat .int v,.dat .int u,.dat (.list .target) ts]],[]=>some (none,.tup [.one (.dat .str (releaseTextE v u ts).1),.one (dI (releaseTextE v u ts).2)],[])
 | _,_=>none
def Γ_q95:Ctx:=[(n_q92,c_q92),(n_q84,c_q84),(n_q90,c_q90)]
theorem ok_q95:Ok Tryz.prog tab Γ_q95:=(((ok_nil.c hg_q90 sound_q90).c hg_q84 sound_q84).c hg_q92 sound_q92)
noncomputable def q95_L0:List It:=[.inLoop [25,24,23,5,3,2] (cSub fn_q95 [1,1,1,0,1,0,0]),.inBlock 0,.code (cSub fn_q95 [1,1,1,1])]
def q95_S0 (x0 x1:Int) (x2:List Vm.Target) (x3:List UInt8) (x4:Int) (x5:List UInt8):St:=⟨[(25,.one (dI x0)),(24,.one (dI x1)),(23,.one (.dat (Ty.list Ty.target) x2)),(5,.one (.dat Ty.str x3)),(3,.one (dI x4)),(2,.one (.dat Ty.str x5))],[],0⟩
theorem q95_vc (v u:Int) (ts:List Vm.Target) (rec:RK) (K:KK) v0 (hv0:v0=z0i v u ts) v1 (hv1:v1=numT v) v2 (hv2:v2=numT u):segD Γ_q95 tab fn_q95 0 K rec [.code (z05 fn_q95)] (z07 [.agg [dI v,dI u,.dat (Ty.list Ty.target) ts]] [])=(
 br (!(eqi v0 0))
 (K (.tup [.one (.dat Ty.str []),.one (dI v0)]) [])
 (((0:Int)≤v∧v≤9223372036854775807) ∧
 len ((114:UInt8)::(101:UInt8)::(108:UInt8)::(101:UInt8)::(97:UInt8)::(115:UInt8)::(101:UInt8)::(32:UInt8)::[])+len v1≤140737488355328 ∧
 len (cat ((114:UInt8)::(101:UInt8)::(108:UInt8)::(101:UInt8)::(97:UInt8)::(115:UInt8)::(101:UInt8)::(32:UInt8)::[]) v1)+len ((32:UInt8)::(117:UInt8)::(110:UInt8)::(116:UInt8)::(105:UInt8)::(108:UInt8)::(32:UInt8)::[])≤140737488355328 ∧
 ((0:Int)≤u∧u≤9223372036854775807) ∧
 len (cat (cat ((114:UInt8)::(101:UInt8)::(108:UInt8)::(101:UInt8)::(97:UInt8)::(115:UInt8)::(101:UInt8)::(32:UInt8)::[]) v1) ((32:UInt8)::(117:UInt8)::(110:UInt8)::(116:UInt8)::(105:UInt8)::(108:UInt8)::(32:UInt8)::[]))+len v2≤140737488355328 ∧
 rec q95_L0 (q95_S0 0 (len ts:Int) ts (cat (cat (cat ((114:UInt8)::(101:UInt8)::(108:UInt8)::(101:UInt8)::(97:UInt8)::(115:UInt8)::(101:UInt8)::(32:UInt8)::[]) v1) ((32:UInt8)::(117:UInt8)::(110:UInt8)::(116:UInt8)::(105:UInt8)::(108:UInt8)::(32:UInt8)::[])) v2) 0 []))):=by subst_vars; kernel_rfl
theorem q95_vc0 (x0 x1:Int) (x2:List Vm.Target) (x3:List UInt8) (x4:Int) (x5:List UInt8) (rec:RK) (K:KK) v0 (hv0:v0=nums ((nth x2 (Int.toNat x0) (Ty.dflt Ty.target)).unit::(nth x2 (Int.toNat x0) (Ty.dflt Ty.target)).image::(nth x2 (Int.toNat x0) (Ty.dflt Ty.target)).long::[])) v1 (hv1:v1=listT ((nth x2 (Int.toNat x0) (Ty.dflt Ty.target)).unit::(nth x2 (Int.toNat x0) (Ty.dflt Ty.target)).image::(nth x2 (Int.toNat x0) (Ty.dflt Ty.target)).long::[])):segD Γ_q95 tab fn_q95 0 K rec (ent q95_L0) (q95_S0 x0 x1 x2 x3 x4 x5)=(
 br (lti x0 x1)
 (((0:Int)≤x0∧x0<(len x2:Int)) ∧
 (len ((nth x2 (Int.toNat x0) (Ty.dflt Ty.target)).unit::(nth x2 (Int.toNat x0) (Ty.dflt Ty.target)).image::(nth x2 (Int.toNat x0) (Ty.dflt Ty.target)).long::[])≤1000∧v0=true) ∧
 len ((59:UInt8)::(32:UInt8)::[])+len v1≤140737488355328 ∧
 len x3+len (cat ((59:UInt8)::(32:UInt8)::[]) v1)≤140737488355328 ∧
 rec q95_L0 (q95_S0 (w64 (x0+1)) x1 x2 (cat x3 (cat ((59:UInt8)::(32:UInt8)::[]) v1)) x4 x5))
 (K (.tup [.one (.dat Ty.str x3),.one (dI 0)]) [])):=by subst_vars; kernel_rfl

theorem zi1 (ts:List Vm.Target) (hl:ts.length≤4) (hn:∀ t∈ts,0≤t.unit∧t.unit≤1000∧0≤t.image∧t.image≤1000∧0≤t.long∧t.long≤1000) (K:KK) (pre:List UInt8) (hp:pre.length≤1000) (x4:Int) (x5:List UInt8) (hK:K (.tup [.one (.dat .str (pre++targetsT ts)),.one (dI 0)]) []):∀ (d k:Nat),k+d=ts.length→(targetsT (ts.take k)).length≤65*k →
  goD Γ_q95 tab fn_q95 0 K (d+1) q95_L0 (q95_S0 (k:Int) (((len ts):Nat):Int) ts (pre++targetsT (ts.take k)) x4 x5)
 | 0,k,hk,hq=>by
  rw [z09 (L:=q95_L0),q95_vc0 _ _ _ _ _ _ _ _ _ rfl _ rfl,List.take_of_length_le (by omega)]
  exact z22 (by simp only [len]; omega) hK
 | d+1,k,hk,hq=>by
  have ht:=z3u (l:=ts) (k:=k) (by omega) (Ty.dflt Ty.target)
  have hm:nth ts k (Ty.dflt Ty.target)∈ts:=by
   have:k<ts.length:=by omega
   simp [nth,List.getD_eq_getElem?_getD,this]
  have hx:=hn _ hm
  have step:targetsT (ts.take (k+1))=targetsT (ts.take k)++targetT (nth ts k (Ty.dflt Ty.target)):=by rw [ht]; simp [targetsT]
  rw [z09 (L:=q95_L0),q95_vc0 _ _ _ _ _ _ _ _ _ rfl _ rfl,z08]
  obtain ⟨x,hxe⟩:∃ x,nth ts k (Ty.dflt Ty.target)=x:=⟨_,rfl⟩
  rw [hxe] at hx step ⊢
  have l1:=z84 [x.unit,x.image,x.long]
  simp only [List.length_cons,List.length_nil] at l1
  have el:(targetT x).length=2+(listT [x.unit,x.image,x.long]).length:=by simp [targetT]; omega
  have ek:w64 ((k:Int)+1)=((k+1:Nat):Int):=z0f (by omega)
  rw [ek]
  refine z2o (by simp only [len]; omega) ⟨⟨by omega,by simp only [len]; omega⟩,⟨by simp [len],?_⟩,by simp only [len,List.length_cons,List.length_nil]; omega,by simp only [len,cat,List.length_append,List.length_cons,List.length_nil]; omega,?_⟩
  ·simp only [nums,List.all_cons,List.all_nil,Bool.and_true,Bool.and_eq_true,decide_eq_true_eq]; omega
  ·have:=zi1 ts hl hn K pre hp x4 x5 hK d (k+1) (by omega) (by rw [step,List.length_append,el]; omega)
   rw [step] at this
   have e:cat (pre++targetsT (ts.take k)) (cat [59,32] (listT [x.unit,x.image,x.long]))=pre++(targetsT (ts.take k)++targetT x):=by simp [cat,targetT]
   rw [← e] at this
   exact this
theorem run_q95 (K:KK) (hK:K (.tup [.one (.dat .str (releaseTextE v u ts).1),.one (dI (releaseTextE v u ts).2)]) []):GD Γ_q95 fn_q95 0 K [.agg [dI v,dI u,.dat (.list .target) ts]] []:=by
 refine ⟨ts.length+2,?_⟩
 rw [z02,q95_vc _ _ _ _ _ _ rfl _ rfl _ rfl]
 unfold releaseTextE at hK
 refine z1c (fun h=>?_) (fun h=>?_)
 ·rw [if_neg h] at hK; exact hK
 rw [if_pos h] at hK
 obtain ⟨h1,h2,h3,h4,h5,h6,h7⟩:=z3z h
 have n1:=z7s v
 have n2:=z7s u
 refine ⟨by omega,by simp only [len,List.length_cons,List.length_nil]; omega,by simp only [len,cat,List.length_append,List.length_cons,List.length_nil]; omega,by omega,by simp only [len,cat,List.length_append,List.length_cons,List.length_nil]; omega,?_⟩
 have:=zi1 ts h6 h7 K ([114,101,108,101,97,115,101,32]++numT v++[32,117,110,116,105,108,32]++numT u) (by simp only [List.length_append,List.length_cons,List.length_nil]; omega) 0 [] hK ts.length 0 (by omega) (by simp [targetsT])
 rw [show targetsT (ts.take 0)=[] from by simp [targetsT],List.append_nil] at this
 exact this
theorem sound_q95:z03 Tryz.prog tab n_q95 c_q95:=z01 ok_q95 hg_q95 (by
 intro vs bs p v bs' h hp
 unfold c_q95 at h
 split at h
 ·cases h
  exact ⟨by kernel_rfl,rfl,.inl (run_q95 _ _ _ _ ⟨rfl,rfl⟩)⟩
 ·cases h)

abbrev n_q253:Nat:=n_q86
noncomputable abbrev fn_q253:Func:=fn_q86
theorem hg_q253:FnOk Tryz.prog n_q253 fn_q253:=hg_q86
def c_q253:z00:=fun vs bs=>match vs,bs with
 | [.one (.own 0),.one (.dat .str s)],[.arr .str l]=>some (some (l.length≤1000),.one (dI (indexS s l)),[.arr .str l])
 | _,_=>none
def Γ_q253:Ctx:=[]
theorem ok_q253:Ok Tryz.prog tab Γ_q253:=ok_nil
noncomputable def q253_L0:List It:=[.inLoop [8,7,4,0,1] (cSub fn_q253 [1,0,1,0,0]),.inBlock 0,.code (cSub fn_q253 [1,1])]
def q253_S0 (x0 x1 x2:Int) (x3:List UInt8) (x4:List (List UInt8)):St:=⟨[(8,.one (dI x0)),(7,.one (dI x1)),(4,.one (dI x2)),(0,.one (.own 0)),(1,.one (.dat Ty.str x3))],[(0,.arr Ty.str x4)],1⟩
theorem q253_vc (l:List (List UInt8)) (s:List UInt8) (rec:RK) (K:KK):segD Γ_q253 tab fn_q253 1 K rec [.code (z05 fn_q253)] (z07 [.one (.own 0),.one (.dat Ty.str s)] [.arr Ty.str l])=(
 rec q253_L0 (q253_S0 0 (len l:Int) 0 s l)):=by kernel_rfl
theorem zhv (x0 x1 x2:Int) (x3:List UInt8) (x4:List (List UInt8)) (rec:RK) (K:KK):segD Γ_q253 tab fn_q253 1 K rec (ent q253_L0) (q253_S0 x0 x1 x2 x3 x4)=(
 br (lti x0 x1)
 (((0:Int)≤x0∧x0<(len x4:Int)) ∧
 Int.toNat x0<len x4 ∧
 br (eqs x3 (nth x4 (Int.toNat x0) (Ty.dflt Ty.str)))
 (K (.one (dI x0)) [.arr Ty.str x4])
 (rec q253_L0 (q253_S0 (w64 (x0+1)) x1 x2 x3 x4)))
 (K (.one (dI (-1))) [.arr Ty.str x4])):=by kernel_rfl

theorem zg9 (l:List (List UInt8)) (s:List UInt8) (hl:l.length≤1000) (K:KK):∀ (d k:Nat),k+d=l.length→K (.one (dI (indexFrom k s (l.drop k)))) [.arr .str l] →
  goD Γ_q253 tab fn_q253 1 K (d+1) q253_L0 (q253_S0 (k:Int) (((len l):Nat):Int) 0 s l)
 | 0,k,hk,hK=>by
  rw [z09 (L:=q253_L0),zhv _ _ _ _ _ _ _]
  rw [List.drop_of_length_le (by omega)] at hK
  exact z22 (by simp only [len]; omega) hK
 | d+1,k,hk,hK=>by
  rw [z09 (L:=q253_L0),zhv _ _ _ _ _ _ _,z08]
  rw [z0q (by omega) (Ty.dflt Ty.str)] at hK
  simp only [indexFrom] at hK
  refine z2o (by simp only [len]; omega) ⟨⟨by omega,by simp only [len]; omega⟩,by simp only [len]; omega,z0l (fun h=>?_) (fun h=>?_)⟩
  ·rw [ziv] at h
   rw [if_pos h.symm] at hK; exact hK
  ·rw [zeu] at h
   rw [if_neg (fun e=>h e.symm)] at hK
   rw [z0f (by omega)]
   exact zg9 l s hl K d (k+1) (by omega) hK
theorem run_q253 (l:List (List UInt8)) (hp:l.length≤1000) (K:KK) (hK:K (.one (dI (indexS s l))) [.arr .str l]):GD Γ_q253 fn_q253 1 K [.one (.own 0),.one (.dat .str s)] [.arr .str l]:=by
 refine ⟨l.length+2,?_⟩
 rw [z02,q253_vc _ _ _ _]
 exact zg9 l s hp K l.length 0 (by omega) hK
theorem sound_q253:z03 Tryz.prog tab n_q253 c_q253:=z01 ok_q253 hg_q253 (by
 intro vs bs p v bs' h hp
 unfold c_q253 at h
 split at h
 ·cases h
  exact ⟨by kernel_rfl,rfl,.inl (run_q253 _ _ hp.1 _ ⟨rfl,rfl⟩)⟩
 ·cases h)

def c_q254:z00:=fun vs bs=>match vs,bs with
 | [.one (.dat .str s),.one (.ptr 0 0)],[.box [.own 1],.arr .str b]=>some (some (b.length≤1000),.one (dI (nameIn b s).2),[.box [.own 2],.dead,.arr .str (nameIn b s).1])
 | _,_=>none
def Γ_q254:Ctx:=[(n_q253,c_q253)]
theorem ok_q254:Ok Tryz.prog tab Γ_q254:=(ok_nil.c hg_q253 sound_q253)
theorem q254_vc (b:List (List UInt8)) (s:List UInt8) (rec:RK) (K:KK) v0 (hv0:v0=indexS s b):segO Γ_q254 tab fn_q254 2 K rec [.code (z05 fn_q254)] (initN [.one (.dat Ty.str s),.one (.ptr 0 0)] [.box [.own 1],.arr Ty.str b])=(
 List.length b≤1000 ∧
 br (lei 0 v0)
 (K (.one (dI (w64 (v0+1)))) [.box [.own 2],.dead,.arr Ty.str b])
 ((len b+len (s::[]))*16≤140737488355328 ∧
 K (.one (dI (len (cat b (s::[])):Int))) [.box [.own 2],.dead,.arr Ty.str (cat b (s::[]))])):=by subst_vars; kernel_rfl

theorem run_q254 (hp:b.length≤1000) (K:KK) (hK:K (.one (dI (nameIn b s).2)) [.box [.own 2],.dead,.arr .str (nameIn b s).1]):GN Γ_q254 fn_q254 2 K [.one (.dat .str s),.one (.ptr 0 0)] [.box [.own 1],.arr .str b]:=by
 refine ⟨1,?_⟩
 rw [z1i,q254_vc _ _ _ _ _ rfl]
 refine ⟨hp,z0l (fun h=>?_) (fun h=>⟨by simp only [len,List.length_cons,List.length_nil]; omega,?_⟩)⟩
 ·have hb:=z2d s b 0 (Int.le_refl _)
  rw [show indexFrom 0 s b=indexS s b from rfl] at hb
  have h:=z1u.1 h
  rw [show nameIn b s=(b,indexS s b+1) from if_pos h] at hK
  rw [z0e (by omega) (by omega)]
  exact hK
 ·have h:=z11.1 h
  rw [show nameIn b s=(b++[s],(b.length:Int)+1) from if_neg (by omega)] at hK
  have e:((len (cat b [s]):Nat):Int)=(b.length:Int)+1:=by simp [len,cat]
  rw [e]
  exact hK
theorem sound_q254:z03 Tryz.prog tab n_q254 c_q254:=z01 ok_q254 hg_q254 (by
 intro vs bs p v bs' h hp
 unfold c_q254 at h
 split at h
 ·cases h
  exact ⟨by kernel_rfl,rfl,.inr (.inr (run_q254 _ _ hp.1 _ ⟨rfl,rfl⟩))⟩
 ·cases h)

def c_q25:z00:=fun vs bs=>match vs,bs with
 | [.one (.dat (.list .int) [x]),.one (.dat .int n)],[]=>some (some (0≤n∧n≤1000000),.one (dL (zeros n.toNat x)),[])
 | _,_=>none
def Γ_q25:Ctx:=[(n_q24,c_q24)]
theorem ok_q25:Ok Tryz.prog tab Γ_q25:=(ok_nil.c hg_q24 sound_q24)
noncomputable def q25_L0:List It:=[.inLoop [8,7,4] (cSub fn_q25 [1,1,1,1,1,1,0,0,0]),.inBlock 0,.code (cSub fn_q25 [1,1,1,1,1,1,1])]
def q25_S0 (x0:Int) (x1 x2:List Int):St:=⟨[(8,.one (dI x0)),(7,.one (.own 0)),(4,.one (.own 1))],[(0,.arr Ty.int x1),(1,.arr Ty.int x2)],2⟩
theorem q25_vc (x n:Int) (rec:RK) (K:KK) v0 (hv0:v0=u64w (len (x::[]):Int)) v1 (hv1:v1=inU64 v0) v2 (hv2:v2=u64w n) v3 (hv3:v3=inU64 v2):segD Γ_q25 tab fn_q25 0 K rec [.code (z05 fn_q25)] (z07 [.one (dL (x::[])),.one (dI n)] [])=(
 br (lti n 0)
 (False)
 ((v1=true∧v3=true) ∧
 br (lti 0 ((v0*v2) / two64))
 (False)
 (br (lti 9223372036854775807 ((v0*v2) % two64))
 (False)
 (((0:Int)≤w64 ((v0*v2) % two64)∧w64 ((v0*v2) % two64)*((8:Nat):Int)≤140737488355328∧w64 ((v0*v2) % two64)≤140737488355328) ∧
 rec q25_L0 (q25_S0 (((min (len (zeros (Int.toNat (w64 ((v0*v2) % two64))) (Ty.dflt Ty.int))) (len (x::[]))):Nat):Int) (put (zeros (Int.toNat (w64 ((v0*v2) % two64))) (Ty.dflt Ty.int)) 0 (slc (x::[]) 0 (min (len (zeros (Int.toNat (w64 ((v0*v2) % two64))) (Ty.dflt Ty.int))) (len (x::[]))))) []))))):=by subst_vars; kernel_rfl
theorem q25_vc0 (x0:Int) (x1 x2:List Int) (rec:RK) (K:KK):segD Γ_q25 tab fn_q25 0 K rec (ent q25_L0) (q25_S0 x0 x1 x2)=(
 br (lti x0 (len x1:Int))
 (((0:Int)≤x0∧x0≤(len x1:Int)∧(len x1:Int)≤(len x1:Int)) ∧
 ((0:Int)≤(0:Int)∧(0:Int)≤x0∧x0≤(len x1:Int)) ∧
 (Int.toNat 0+Int.toNat (x0-0)≤len x1∧Int.toNat x0+Int.toNat ((len x1:Int)-x0)≤len x1) ∧
 rec q25_L0 (q25_S0 (w64 (x0+(((min (Int.toNat ((len x1:Int)-x0)) (len (slc x1 (Int.toNat 0) (Int.toNat 0+Int.toNat (x0-0))))):Nat):Int))) (put x1 (Int.toNat x0) (slc (slc x1 (Int.toNat 0) (Int.toNat 0+Int.toNat (x0-0))) 0 (min (Int.toNat ((len x1:Int)-x0)) (len (slc x1 (Int.toNat 0) (Int.toNat 0+Int.toNat (x0-0))))))) x2))
 (K (.one (dL x1)) [])):=by kernel_rfl

theorem u64w_id {n:Int} (h1:0≤n) (h2:n<18446744073709551616):u64w n=n:=by
 unfold u64w; rw [IntKind.wrap_u64]; omega
theorem zik {n:Int} (h1:0≤n) (h2:n<18446744073709551616):inU64 n=true:=by simp [inU64,h1,h2]
theorem put_rep (x:Int) (n k j:Nat):put (List.replicate k x++List.replicate (n-k) 0) k (List.replicate j x)=List.replicate (k+j) x++List.replicate (n-(k+j)) 0:=by
 unfold put
 rw [List.take_left' (by simp),List.length_replicate]
 rw [show List.drop (k+j) (List.replicate k x++List.replicate (n-k) (0:Int))=List.replicate (n-(k+j)) 0 from by
  rw [List.drop_append,List.drop_of_length_le (by simp)]
  simp
  omega]
 rw [List.replicate_append_replicate]
theorem zhy (x:Int) (n:Nat) (hn:n≤1000000) (K:KK) (hK:K (.one (dL (zeros n x))) []):∀ (d k:Nat),n≤k+d→k≤n→(0<n→0<k) →
  goD Γ_q25 tab fn_q25 0 K (d+1) q25_L0 (q25_S0 (k:Int) (List.replicate k x++List.replicate (n-k) 0) [])
 | 0,k,hd,hk,hp=>by
  rw [z09 (L:=q25_L0),q25_vc0 _ _ _ _ _]
  have e:k=n:=by omega
  subst e
  refine z22 (by simp [len]) ?_
  simpa [zeros] using hK
 | d+1,k,hd,hk,hp=>by
  rw [z09 (L:=q25_L0),q25_vc0 _ _ _ _ _]
  have hl:len (List.replicate k x++List.replicate (n-k) (0:Int))=n:=by simp [len]; omega
  rw [hl]
  by_cases c:k<n
  ·refine z2o (by omega) ⟨⟨by omega,by omega,by omega⟩,⟨by omega,by omega,by omega⟩,⟨by omega,by omega⟩,?_⟩
   have e1:slc (List.replicate k x++List.replicate (n-k) (0:Int)) (Int.toNat 0) (Int.toNat 0+Int.toNat ((k:Int)-0))=List.replicate k x:=by
    rw [show Int.toNat 0+Int.toNat ((k:Int)-0)=k by omega]
    unfold slc
    rw [List.take_left' (by simp)]
    simp
   rw [e1]
   have e2:len (List.replicate k x)=k:=by simp [len]
   rw [e2]
   generalize hj:min (Int.toNat ((n:Int)-(k:Int))) k=j
   have hj':j=min (n-k) k:=by omega
   have e3:slc (List.replicate k x) 0 j=List.replicate j x:=by
    unfold slc
    rw [List.take_replicate]
    simp
    omega
   rw [e3,z08,put_rep x n k j,z0e (by omega) (by omega),show (k:Int)+(j:Int)=((k+j:Nat):Int) by omega]
   exact zhy x n hn K hK d (k+j) (by have:=hp (by omega); omega) (by omega) (fun h=>by have:=hp h; omega)
  ·have e:k=n:=by omega
   subst e
   refine z22 (by omega) ?_
   simpa [zeros] using hK
theorem run_q25 (hp:0≤n∧n≤1000000) (K:KK) (hK:K (.one (dL (zeros n.toNat x))) []):GD Γ_q25 fn_q25 0 K [.one (dL [x]),.one (dI n)] []:=by
 obtain ⟨h1,h2⟩:=hp
 refine ⟨n.toNat+2,?_⟩
 rw [z02,q25_vc _ _ _ _ _ rfl _ rfl _ rfl _ rfl]
 have e1:u64w (((len (x::[])):Nat):Int)=1:=by simp only [len,List.length_cons,List.length_nil]; exact u64w_id (by omega) (by omega)
 rw [e1,u64w_id (n:=n) h1 (by omega),Int.one_mul]
 have e2:n / two64=0:=by unfold two64; omega
 have e3:n % two64=n:=by unfold two64; omega
 rw [e2,e3,z0e (by omega) (by omega)]
 refine z22 h1 ⟨⟨zik (by omega) (by omega),zik h1 (by omega)⟩,z22 (by omega) (z22 (by omega) ⟨⟨h1,by omega,by omega⟩,?_⟩)⟩
 obtain ⟨k,rfl⟩:=Int.eq_ofNat_of_zero_le h1
 rw [z08] at hK ⊢
 have e4:len (zeros k (Ty.dflt Ty.int))=k:=by simp [len,zeros]
 rw [e4]
 have:=zhy x k (by omega) K hK k (min k 1) (by omega) (by omega) (by omega)
 have e5:put (zeros k (Ty.dflt Ty.int)) 0 (slc (x::[]) 0 (min k (len (x::[]))))=List.replicate (min k 1) x++List.replicate (k-min k 1) 0:=by
  have h:=put_rep x k 0 (min k 1)
  rw [Nat.zero_add] at h
  rw [← h]
  have:slc (x::[]) 0 (min k (len (x::[])))=List.replicate (min k 1) x:=by
   simp only [len,List.length_cons,List.length_nil,slc]
   cases k with
   | zero=>simp
   | succ k=>rw [show min (k+1) (0+1)=1 by omega]; rfl
  rw [this]
  rfl
 rw [e5,show min k (len (x::[]))=min k 1 from rfl]
 exact this
theorem sound_q25:z03 Tryz.prog tab n_q25 c_q25:=z01 ok_q25 hg_q25 (by
 intro vs bs p v bs' h hp
 unfold c_q25 at h
 split at h
 ·cases h
  exact ⟨by kernel_rfl,rfl,.inl (run_q25 _ _ hp.1 _ ⟨rfl,rfl⟩)⟩
 ·cases h)

def c_q255:z00:=fun vs bs=>match vs,bs with
 | [.one (.dat .int v),.one (.dat .int k)],[]=>some (some (0≤v∧v≤10∧0≤k∧k≤10),.one (dL (imgF v k)),[])
 | _,_=>none
def Γ_q255:Ctx:=[(n_q25,c_q25)]
theorem ok_q255:Ok Tryz.prog tab Γ_q255:=(ok_nil.c hg_q25 sound_q25)
theorem q255_vc (v k:Int) (rec:RK) (K:KK):segD Γ_q255 tab fn_q255 0 K rec [.code (z05 fn_q255)] (z07 [.one (dI v),.one (dI k)] [])=(
 ((0:Int)≤w64 (w64 ((3:Int)+w64 ((9:Int)*k))+v)∧w64 (w64 ((3:Int)+w64 ((9:Int)*k))+v)≤1000000) ∧
 K (.one (dL (zeros (Int.toNat (w64 (w64 ((3:Int)+w64 ((9:Int)*k))+v))) (w64 (w64 ((100:Int)*v)+k))))) []):=by kernel_rfl

theorem run_q255 (hp:0≤v∧v≤10∧0≤k∧k≤10) (K:KK) (hK:K (.one (dL (imgF v k))) []):GD Γ_q255 fn_q255 0 K [.one (dI v),.one (dI k)] []:=by
 refine ⟨1,?_⟩
 rw [z02,q255_vc _ _ _ _]
 have e1:w64 (w64 (3+w64 (9*k))+v)=3+9*k+v:=by
  rw [z0e (n:=9*k) (by omega) (by omega),z0e (n:=3+9*k) (by omega) (by omega),z0e (by omega) (by omega)]
 have e2:w64 (w64 (100*v)+k)=100*v+k:=by
  rw [z0e (n:=100*v) (by omega) (by omega),z0e (by omega) (by omega)]
 rw [e1,e2]
 exact ⟨⟨by omega,by omega⟩,hK⟩
theorem sound_q255:z03 Tryz.prog tab n_q255 c_q255:=z01 ok_q255 hg_q255 (by
 intro vs bs p v bs' h hp
 unfold c_q255 at h
 split at h
 ·cases h
  exact ⟨by kernel_rfl,rfl,.inl (run_q255 _ _ hp.1 _ ⟨rfl,rfl⟩)⟩
 ·cases h)

def c_q86:z00:=fun vs bs=>match vs,bs with
 | [.one (.dat (.list .str) l),.one (.dat .str s)],[]=>some (some (l.length≤140737488355328),.one (dI (indexS s l)),[])
 | _,_=>none
def Γ_q86:Ctx:=[]
theorem ok_q86:Ok Tryz.prog tab Γ_q86:=ok_nil
noncomputable def q86_L0:List It:=[.inLoop [8,7,4,0,1] (cSub fn_q86 [1,0,1,0,0]),.inBlock 0,.code (cSub fn_q86 [1,1])]
def q86_S0 (x0 x1 x2:Int) (x3:List (List UInt8)) (x4:List UInt8):St:=⟨[(8,.one (dI x0)),(7,.one (dI x1)),(4,.one (dI x2)),(0,.one (.dat (Ty.list Ty.str) x3)),(1,.one (.dat Ty.str x4))],[],0⟩
theorem q86_vc (l:List (List UInt8)) (s:List UInt8) (rec:RK) (K:KK):segD Γ_q86 tab fn_q86 0 K rec [.code (z05 fn_q86)] (z07 [.one (.dat (Ty.list Ty.str) l),.one (.dat Ty.str s)] [])=(
 rec q86_L0 (q86_S0 0 (len l:Int) 0 l s)):=by kernel_rfl
theorem q86_vc0 (x0 x1 x2:Int) (x3:List (List UInt8)) (x4:List UInt8) (rec:RK) (K:KK):segD Γ_q86 tab fn_q86 0 K rec (ent q86_L0) (q86_S0 x0 x1 x2 x3 x4)=(
 br (lti x0 x1)
 (((0:Int)≤x0∧x0<(len x3:Int)) ∧
 br (eqs x4 (nth x3 (Int.toNat x0) (Ty.dflt Ty.str)))
 (K (.one (dI x0)) [])
 (rec q86_L0 (q86_S0 (w64 (x0+1)) x1 x2 x3 x4)))
 (K (.one (dI (-1))) [])):=by kernel_rfl

theorem ziq (l:List (List UInt8)) (s:List UInt8) (hl:l.length≤140737488355328) (K:KK):∀ (d k:Nat),k+d=l.length→K (.one (dI (indexFrom k s (l.drop k)))) [] →
  goD Γ_q86 tab fn_q86 0 K (d+1) q86_L0 (q86_S0 (k:Int) (((len l):Nat):Int) 0 l s)
 | 0,k,hk,hK=>by
  rw [z09 (L:=q86_L0),q86_vc0 _ _ _ _ _ _ _]
  rw [List.drop_of_length_le (by omega)] at hK
  exact z22 (by simp only [len]; omega) hK
 | d+1,k,hk,hK=>by
  rw [z09 (L:=q86_L0),q86_vc0 _ _ _ _ _ _ _,z08]
  rw [z0q (by omega) (Ty.dflt Ty.str)] at hK
  simp only [indexFrom] at hK
  refine z2o (by simp only [len]; omega) ⟨⟨by omega,by simp only [len]; omega⟩,z0l (fun h=>?_) (fun h=>?_)⟩
  ·rw [ziv] at h
   rw [if_pos h.symm] at hK; exact hK
  ·rw [zeu] at h
   rw [if_neg (fun e=>h e.symm)] at hK
   rw [z0f (by omega)]
   exact ziq l s hl K d (k+1) (by omega) hK
theorem run_q86 (l:List (List UInt8)) (hp:l.length≤140737488355328) (K:KK) (hK:K (.one (dI (indexS s l))) []):GD Γ_q86 fn_q86 0 K [.one (.dat (Ty.list Ty.str) l),.one (.dat .str s)] []:=by
 refine ⟨l.length+2,?_⟩
 rw [z02,q86_vc _ _ _ _]
 exact ziq l s hp K l.length 0 (by omega) hK
theorem sound_q86:z03 Tryz.prog tab n_q86 c_q86:=z01 ok_q86 hg_q86 (by
 intro vs bs p v bs' h hp
 unfold c_q86 at h
 split at h
 ·cases h
  exact ⟨by kernel_rfl,rfl,.inl (run_q86 _ _ hp.1 _ ⟨rfl,rfl⟩)⟩
 ·cases h)

def c_q87:z00:=fun vs bs=>match vs,bs with
 | [.one (.dat (.list .str) l),.one (.dat .str s)],[]=>some (some (l.length≤140737488355328),.one (dB (hasS s l)),[])
 | _,_=>none
def Γ_q87:Ctx:=[(n_q86,c_q86)]
theorem ok_q87:Ok Tryz.prog tab Γ_q87:=(ok_nil.c hg_q86 sound_q86)
theorem q87_vc (l:List (List UInt8)) (s:List UInt8) (rec:RK) (K:KK) v0 (hv0:v0=indexS s l):segD Γ_q87 tab fn_q87 0 K rec [.code (z05 fn_q87)] (z07 [.one (.dat (Ty.list Ty.str) l),.one (.dat Ty.str s)] [])=(
 List.length l≤140737488355328 ∧
 K (.one (dB (lei 0 v0))) []):=by subst_vars; kernel_rfl

theorem run_q87 (l:List (List UInt8)) (hp:l.length≤140737488355328) (K:KK) (hK:K (.one (dB (hasS s l))) []):GD Γ_q87 fn_q87 0 K [.one (.dat (Ty.list Ty.str) l),.one (.dat .str s)] []:=by
 refine ⟨1,?_⟩
 rw [z02,q87_vc _ _ _ _ _ rfl]
 rw [show lei 0 (indexS s l)=hasS s l from zkl s l]
 exact ⟨hp,hK⟩
theorem sound_q87:z03 Tryz.prog tab n_q87 c_q87:=z01 ok_q87 hg_q87 (by
 intro vs bs p v bs' h hp
 unfold c_q87 at h
 split at h
 ·cases h
  exact ⟨by kernel_rfl,rfl,.inl (run_q87 _ _ hp.1 _ ⟨rfl,rfl⟩)⟩
 ·cases h)

def c_q88:z00:=fun vs bs=>match vs,bs with
 | [.agg [.dat (.list .str) l]],[]=>some (none,.one (dI (z0r l)),[])
 | _,_=>none
def Γ_q88:Ctx:=[(n_q87,c_q87)]
theorem ok_q88:Ok Tryz.prog tab Γ_q88:=(ok_nil.c hg_q87 sound_q87)
noncomputable def q88_L0:List It:=[.inLoop [12,11,10,2,1] (cSub fn_q88 [1,1,0,1,0,0]),.inBlock 0,.code (cSub fn_q88 [1,1,1])]
def q88_S0 (x0 x1:Int) (x2:List (List UInt8)) (x3:Int) (x4:List (List UInt8)):St:=⟨[(12,.one (dI x0)),(11,.one (dI x1)),(10,.one (.dat (Ty.list Ty.str) x2)),(2,.one (dI x3)),(1,.one (.ptr 0 0))],[(0,.box [.dat (Ty.list Ty.str) x4])],1⟩
theorem q88_vc (l:List (List UInt8)) (rec:RK) (K:KK):segD Γ_q88 tab fn_q88 0 K rec [.code (z05 fn_q88)] (z07 [.agg [.dat (Ty.list Ty.str) l]] [])=(
 br (lti 60 (len l:Int))
 (K (.one (dI 2)) [])
 (rec q88_L0 (q88_S0 0 (len l:Int) l 0 l))):=by kernel_rfl
theorem q88_vc0 (x0 x1:Int) (x2:List (List UInt8)) (x3:Int) (x4:List (List UInt8)) (rec:RK) (K:KK) v0 (hv0:v0=hasS (nth x2 (Int.toNat x0) (Ty.dflt Ty.str)) (slc x4 (Int.toNat 0) (Int.toNat x0))):segD Γ_q88 tab fn_q88 0 K rec (ent q88_L0) (q88_S0 x0 x1 x2 x3 x4)=(
 br (lti x0 x1)
 (((0:Int)≤x0∧x0<(len x2:Int)) ∧
 br (lti 2000 (len (nth x2 (Int.toNat x0) (Ty.dflt Ty.str)):Int))
 (K (.one (dI 2)) [])
 (((0:Int)≤(0:Int)∧(0:Int)≤x0∧x0≤(len x4:Int)) ∧
 List.length (slc x4 (Int.toNat 0) (Int.toNat x0))≤140737488355328 ∧
 br v0
 (K (.one (dI 6)) [])
 (rec q88_L0 (q88_S0 (w64 (x0+1)) x1 x2 x3 x4))))
 (K (.one (dI 0)) [])):=by subst_vars; kernel_rfl

theorem zjg (l:List (List UInt8)) (hl:l.length≤60) (K:KK):∀ (d k:Nat),k+d=l.length→K (.one (dI (bookFrom (l.take k) (l.drop k)))) [] →
  goD Γ_q88 tab fn_q88 0 K (d+1) q88_L0 (q88_S0 (k:Int) (((len l):Nat):Int) l 0 l)
 | 0,k,hk,hK=>by
  rw [z09 (L:=q88_L0),q88_vc0 _ _ _ _ _ _ _ _ rfl]
  rw [List.drop_of_length_le (by omega)] at hK
  exact z22 (by simp only [len]; omega) hK
 | d+1,k,hk,hK=>by
  rw [z09 (L:=q88_L0),q88_vc0 _ _ _ _ _ _ _ _ rfl,z08,show Int.toNat (0:Int)=0 from rfl,zi8]
  rw [z0q (by omega) (Ty.dflt Ty.str)] at hK
  simp only [bookFrom] at hK
  refine z2o (by simp only [len]; omega) ⟨⟨by omega,by simp only [len]; omega⟩,z1a (fun h=>?_) (fun h=>⟨⟨by omega,by omega,by simp only [len]; omega⟩,by rw [List.length_take]; omega,z0l (fun h2=>?_) (fun h2=>?_)⟩)⟩
  ·rw [if_pos (by simp only [len] at h; omega)] at hK; exact hK
  ·rw [if_neg (by simp only [len] at h; omega),if_pos h2] at hK; exact hK
  ·rw [if_neg (by simp only [len] at h; omega),if_neg (by rw [h2]; simp)] at hK
   rw [z0f (by omega)]
   rw [← z3u (by omega) (Ty.dflt Ty.str)] at hK
   exact zjg l hl K d (k+1) (by omega) hK
theorem run_q88 (l:List (List UInt8)) (K:KK) (hK:K (.one (dI (z0r l))) []):GD Γ_q88 fn_q88 0 K [.agg [.dat (Ty.list Ty.str) l]] []:=by
 refine ⟨l.length+2,?_⟩
 rw [z02,q88_vc _ _ _]
 unfold z0r at hK
 refine z1a (fun h=>?_) (fun h=>?_)
 ·rw [if_pos (by simp only [len] at h; omega)] at hK; exact hK
 ·rw [if_neg (by simp only [len] at h; omega)] at hK
  exact zjg l (by simp only [len] at h; omega) K l.length 0 (by omega) hK
theorem sound_q88:z03 Tryz.prog tab n_q88 c_q88:=z01 ok_q88 hg_q88 (by
 intro vs bs p v bs' h hp
 unfold c_q88 at h
 split at h
 ·cases h
  exact ⟨by kernel_rfl,rfl,.inl (run_q88 _ _ ⟨rfl,rfl⟩)⟩
 ·cases h)

def c_q114:z00:=fun vs bs=>match vs,bs with
 | [.one (.dat (.list .signed) l)],[]=>some (none,.one (dI (checkSigned l)),[])
 | _,_=>none
def Γ_q114:Ctx:=[]
theorem ok_q114:Ok Tryz.prog tab Γ_q114:=ok_nil
noncomputable def q114_L0:List It:=[.inLoop [10,9,8,2] (cSub fn_q114 [1,1,0,1,0,0]),.inBlock 0,.code (cSub fn_q114 [1,1,1])]
def q114_S0 (x0 x1:Int) (x2:List Vm.Signed) (x3:Int):St:=⟨[(10,.one (dI x0)),(9,.one (dI x1)),(8,.one (.dat (Ty.list Ty.signed) x2)),(2,.one (dI x3))],[],0⟩
theorem q114_vc (l:List Signed) (rec:RK) (K:KK):segD Γ_q114 tab fn_q114 0 K rec [.code (z05 fn_q114)] (z07 [.one (.dat (Ty.list Ty.signed) l)] [])=(
 br (lti 360 (len l:Int))
 (K (.one (dI 2)) [])
 (rec q114_L0 (q114_S0 0 (len l:Int) l 0))):=by kernel_rfl
theorem zil (x0 x1:Int) (x2:List Vm.Signed) (x3:Int) (rec:RK) (K:KK):segD Γ_q114 tab fn_q114 0 K rec (ent q114_L0) (q114_S0 x0 x1 x2 x3)=(
 br (lti x0 x1)
 (((0:Int)≤x0∧x0<(len x2:Int)) ∧
 br (lti (nth x2 (Int.toNat x0) (Ty.dflt Ty.signed)).key 1)
 (K (.one (dI 3)) [])
 (br (lti 50 (nth x2 (Int.toNat x0) (Ty.dflt Ty.signed)).key)
 (K (.one (dI 3)) [])
 (br (lti (nth x2 (Int.toNat x0) (Ty.dflt Ty.signed)).name 1)
 (K (.one (dI 3)) [])
 (br (lti 60 (nth x2 (Int.toNat x0) (Ty.dflt Ty.signed)).name)
 (K (.one (dI 3)) [])
 (rec q114_L0 (q114_S0 (w64 (x0+1)) x1 x2 x3))))))
 (K (.one (dI 0)) [])):=by kernel_rfl

theorem zfu (l:List Vm.Signed) (hl:l.length≤360) (K:KK) (x3:Int):∀ (d k:Nat),k+d=l.length→K (.one (dI (if (l.drop k).all okSigned then 0 else 3))) [] →
  goD Γ_q114 tab fn_q114 0 K (d+1) q114_L0 (q114_S0 (k:Int) (((len l):Nat):Int) l x3)
 | 0,k,hk,hK=>by
  rw [z09 (L:=q114_L0),zil _ _ _ _ _ _]
  rw [List.drop_of_length_le (by omega)] at hK
  exact z22 (by simp only [len]; omega) hK
 | d+1,k,hk,hK=>by
  rw [z09 (L:=q114_L0),zil _ _ _ _ _ _,z08]
  rw [z0q (by omega) (Ty.dflt Ty.signed)] at hK
  obtain ⟨x,hx⟩:∃ x,nth l k (Ty.dflt Ty.signed)=x:=⟨_,rfl⟩
  rw [hx] at hK ⊢
  rw [List.all_cons] at hK
  have bad:¬ (1≤x.key∧x.key≤50∧1≤x.name∧x.name≤60)→K (.one (dI 3)) []:=fun h=>by
   rw [show okSigned x=false from by
    cases hc:okSigned x
    ·rfl
    ·simp only [okSigned,Bool.and_eq_true,decide_eq_true_eq] at hc; exact absurd hc (by omega)] at hK
   exact hK
  rw [z0f (by omega)]
  refine z2o (by simp only [len]; omega) ⟨⟨by omega,by simp only [len]; omega⟩,z1a (fun h=>bad (by omega)) (fun h=>z1a (fun h2=>bad (by omega)) (fun h2=>z1a (fun h3=>bad (by omega)) (fun h3=>z1a (fun h4=>bad (by omega)) (fun h4=>?_))))⟩
  rw [show okSigned x=true from by simp only [okSigned,Bool.and_eq_true,decide_eq_true_eq]; omega,Bool.true_and] at hK
  exact zfu l hl K x3 d (k+1) (by omega) hK
theorem run_q114 (l:List Vm.Signed) (K:KK) (hK:K (.one (dI (checkSigned l))) []):GD Γ_q114 fn_q114 0 K [.one (.dat (Ty.list Ty.signed) l)] []:=by
 refine ⟨l.length+2,?_⟩
 rw [z02,q114_vc _ _ _]
 unfold checkSigned at hK
 refine z1a (fun h=>?_) (fun h=>?_)
 ·rw [if_pos (by simp only [len] at h; omega)] at hK; exact hK
 ·rw [if_neg (by simp only [len] at h; omega)] at hK
  exact zfu l (by simp only [len] at h; omega) K 0 l.length 0 (by omega) hK
theorem sound_q114:z03 Tryz.prog tab n_q114 c_q114:=z01 ok_q114 hg_q114 (by
 intro vs bs p v bs' h hp
 unfold c_q114 at h
 split at h
 ·cases h
  exact ⟨by kernel_rfl,rfl,.inl (run_q114 _ _ ⟨rfl,rfl⟩)⟩
 ·cases h)

def c_q26:z00:=fun vs bs=>match vs,bs with
 | [.one (.dat .int n)],[]=>some (none,.tup [.agg [dL (newFlash n).1.words,dI (newFlash n).1.fuel],.one (dI (newFlash n).2)],[])
 | _,_=>none
def Γ_q26:Ctx:=[(n_q25,c_q25)]
theorem ok_q26:Ok Tryz.prog tab Γ_q26:=(ok_nil.c hg_q25 sound_q25)
theorem q26_vc (n:Int) (rec:RK) (K:KK) v0 (hv0:v0=K (.tup [.agg [dL [],dI (0:Int)],.one (dI 3)]) []):segD Γ_q26 tab fn_q26 0 K rec [.code (z05 fn_q26)] (z07 [.one (dI n)] [])=(
 br (lti n 1)
 v0
 (br (lti 6 n)
 v0
 (((0:Int)≤w64 (n*32)∧w64 (n*32)≤1000000) ∧
 K (.tup [.agg [dL (zeros (Int.toNat (w64 (n*32))) (65535:Int)),dI (-1)],.one (dI 0)]) []))):=by subst_vars; kernel_rfl

theorem run_q26 (K:KK) (hK:K (.tup [.agg [dL (newFlash n).1.words,dI (newFlash n).1.fuel],.one (dI (newFlash n).2)]) []):GD Γ_q26 fn_q26 0 K [.one (dI n)] []:=by
 refine ⟨1,?_⟩
 rw [z02,q26_vc _ _ _ _ rfl]
 unfold newFlash at hK
 refine z1a (fun h=>?_) (fun h=>z1a (fun h2=>?_) (fun h2=>?_))
 ·rw [if_neg (by omega)] at hK; exact hK
 ·rw [if_neg (by omega)] at hK; exact hK
 ·rw [if_pos ⟨h,h2⟩] at hK
  rw [z0e (by omega) (by omega)]
  exact ⟨⟨by omega,by omega⟩,hK⟩
theorem sound_q26:z03 Tryz.prog tab n_q26 c_q26:=z01 ok_q26 hg_q26 (by
 intro vs bs p v bs' h hp
 unfold c_q26 at h
 split at h
 ·cases h
  exact ⟨by kernel_rfl,rfl,.inl (run_q26 _ _ ⟨rfl,rfl⟩)⟩
 ·cases h)

def c_q6:z00:=fun vs bs=>match vs,bs with
 | [.agg [.dat (.list .int) ws,.dat .int fu]],[]=>some (none,.one (dI (z0b ⟨ws,fu⟩)),[])
 | _,_=>none
def Γ_q6:Ctx:=[]
theorem ok_q6:Ok Tryz.prog tab Γ_q6:=ok_nil
noncomputable def q6_L0:List It:=[.inLoop [31,30,29,2] (cSub fn_q6 [1,1,1,0,1,0,0]),.inBlock 0,.code (cSub fn_q6 [1,1,1,1])]
def q6_S0 (x0 x1:Int) (x2:List Int) (x3:Int):St:=⟨[(31,.one (dI x0)),(30,.one (dI x1)),(29,.one (dL x2)),(2,.one (dI x3))],[],0⟩
theorem q6_vc (ws:List Int) (fu:Int) (rec:RK) (K:KK):segD Γ_q6 tab fn_q6 0 K rec [.code (z05 fn_q6)] (z07 [.agg [dL ws,dI fu]] [])=(
 br (eqi (len ws:Int) 0)
 (K (.one (dI 4)) [])
 ((32:Int)≠(0:Int) ∧
 br (!(eqi (Int.tmod (len ws:Int) 32) 0))
 (K (.one (dI 4)) [])
 (br (lti 192 (len ws:Int))
 (K (.one (dI 4)) [])
 (br (lti fu (-1))
 (K (.one (dI 3)) [])
 (br (lti 100000 fu)
 (K (.one (dI 3)) [])
 (rec q6_L0 (q6_S0 0 (len ws:Int) ws 0))))))):=by kernel_rfl
theorem q6_vc0 (x0 x1:Int) (x2:List Int) (x3:Int) (rec:RK) (K:KK):segD Γ_q6 tab fn_q6 0 K rec (ent q6_L0) (q6_S0 x0 x1 x2 x3)=(
 br (lti x0 x1)
 (((0:Int)≤x0∧x0<(len x2:Int)) ∧
 br (lti (nth x2 (Int.toNat x0) (Ty.dflt Ty.int)) 0)
 (K (.one (dI 3)) [])
 (br (lti 65535 (nth x2 (Int.toNat x0) (Ty.dflt Ty.int)))
 (K (.one (dI 3)) [])
 (rec q6_L0 (q6_S0 (w64 (x0+1)) x1 x2 x3))))
 (K (.one (dI 0)) [])):=by kernel_rfl

theorem loop_q6 (ws:List Int) (hl:ws.length≤192) (K:KK) (hK:K (.one (dI (if z04 ws then 0 else 3))) []):∀ (d k:Nat),k+d=ws.length→z04 (ws.take k)=true →
  goD Γ_q6 tab fn_q6 0 K (d+1) q6_L0 (q6_S0 (k:Int) (((len ws):Nat):Int) ws (0:Int))
 | 0,k,hk,he=>by
  rw [z09 (L:=q6_L0),q6_vc0 _ _ _ _ _ _]
  refine z22 (by simp only [len]; omega) ?_
  rw [List.take_of_length_le (by omega)] at he
  rw [if_pos he] at hK
  exact hK
 | d+1,k,hk,he=>by
  rw [z09 (L:=q6_L0),q6_vc0 _ _ _ _ _ _]
  have bad:okWord (nth ws k (Ty.dflt Ty.int))=false→K (.one (dI 3)) []:=fun h=>by
   rw [show z04 ws=false from zbv (k:=k) (by omega) _ h] at hK; exact hK
  refine z2o (by simp only [len]; omega) ⟨⟨by omega,by simp only [len]; omega⟩,z1a (fun h=>?_) (fun h=>z1a (fun h2=>?_) (fun h2=>?_))⟩
  ·rw [z08] at h
   exact bad (by simp only [okWord,Bool.and_eq_false_iff,decide_eq_false_iff_not]; exact .inl (by omega))
  ·rw [z08] at h2
   exact bad (by simp only [okWord,Bool.and_eq_false_iff,decide_eq_false_iff_not]; exact .inr (by omega))
  ·rw [z0f (by omega)]
   rw [z08] at h h2
   exact loop_q6 ws hl K hK d (k+1) (by omega) (z5f (by omega) (Ty.dflt Ty.int) he (by simp [okWord,h,h2]))
theorem run_q6 (K:KK) (hK:K (.one (dI (z0b ⟨ws,fu⟩))) []):GD Γ_q6 fn_q6 0 K [.agg [dL ws,dI fu]] []:=by
 refine ⟨ws.length+2,?_⟩
 rw [z02,q6_vc _ _ _ _]
 have four:okLen ws.length=false→K (.one (dI 4)) []:=fun h=>by
  rw [show z0b ⟨ws,fu⟩=4 from by simp [z0b,h]] at hK; exact hK
 refine z27 (fun h=>four ?_) (fun h=>⟨by decide,z1c (fun h2=>four ?_) (fun h2=>z1a (fun h3=>four ?_) (fun h3=>?_))⟩)
 ·simp only [len] at h; simp [okLen]; omega
 ·simp only [len] at h2; rw [Int.tmod_eq_emod_of_nonneg (by omega)] at h2; simp [okLen]; omega
 ·simp only [len] at h3; simp [okLen]; omega
 ·have hlen:okLen ws.length=true:=by simp only [len] at h h2 h3; rw [Int.tmod_eq_emod_of_nonneg (by omega)] at h2; simp [okLen]; omega
  have three:(decide (-1≤fu) && decide (fu≤100000))=false→K (.one (dI 3)) []:=fun h=>by
   rw [show z0b ⟨ws,fu⟩=3 from by simp [z0b,hlen,h]] at hK; exact hK
  refine z1a (fun h4=>three ?_) (fun h4=>z1a (fun h5=>three ?_) (fun h5=>?_))
  ·simp; omega
  ·simp; omega
  ·refine loop_q6 ws (by simp only [len] at h3; omega) K ?_ ws.length 0 (by omega) rfl
   rw [show z0b ⟨ws,fu⟩=if z04 ws then 0 else 3 from by simp [z0b,hlen,h4,h5]] at hK
   exact hK
theorem sound_q6:z03 Tryz.prog tab n_q6 c_q6:=z01 ok_q6 hg_q6 (by
 intro vs bs p v bs' h hp
 unfold c_q6 at h
 split at h
 ·cases h
  exact ⟨by kernel_rfl,rfl,.inl (run_q6 _ _ _ ⟨rfl,rfl⟩)⟩
 ·cases h)

def c_q2:z00:=fun vs bs=>match vs,bs with
 | [.one (.dat (.list .int) l)],[]=>some (some (len l*8≤140737488355328),.one (.own 0),[.arr .int l])
 | _,_=>none
def Γ_q2:Ctx:=[]
theorem ok_q2:Ok Tryz.prog tab Γ_q2:=ok_nil
theorem q2_vc (l:List Int) (rec:RK) (K:KK):segO Γ_q2 tab fn_q2 0 K rec [.code (z05 fn_q2)] (z07 [.one (dL l)] [])=(
 (∀ bn:Bool,(bn=true→len l=0)→br bn
 (K (.one (.own 0)) [.arr Ty.int []])
 ((0+len l)*8≤140737488355328 ∧
 K (.one (.own 0)) [.arr Ty.int (cat [] l)]))):=by kernel_rfl

theorem run_q2 (hp:len l*8≤140737488355328) (K:KK) (hK:K (.one (.own 0)) [.arr .int l]):GO Γ_q2 fn_q2 0 K [.one (dL l)] []:=by
 refine ⟨1,?_⟩
 rw [z1i,q2_vc _ _ _]
 intro bn hb
 refine z0l (fun h=>?_) (fun h=>⟨by simp only [len] at hp ⊢; omega,hK⟩)
 have:l=[]:=List.length_eq_zero_iff.1 (hb h)
 subst this
 exact hK
theorem sound_q2:z03 Tryz.prog tab n_q2 c_q2:=z01 ok_q2 hg_q2 (by
 intro vs bs p v bs' h hp
 unfold c_q2 at h
 split at h
 ·cases h
  exact ⟨by kernel_rfl,rfl,.inr (.inl (run_q2 _ hp.1 _ ⟨rfl,rfl⟩))⟩
 ·cases h)

def c_q7:z00:=fun vs bs=>match vs,bs with
 | [.agg [.dat (.list .int) ws,.dat .int fu]],[]=>some (some (len ws*8≤140737488355328),.agg [.own 0,dI fu],[.arr .int ws])
 | _,_=>none
def Γ_q7:Ctx:=[(n_q2,c_q2)]
theorem ok_q7:Ok Tryz.prog tab Γ_q7:=(ok_nil.c hg_q2 sound_q2)
theorem q7_vc (ws:List Int) (fu:Int) (rec:RK) (K:KK):segO Γ_q7 tab fn_q7 0 K rec [.code (z05 fn_q7)] (z07 [.agg [dL ws,dI fu]] [])=(
 len ws*8≤140737488355328 ∧
 K (.agg [.own 0,dI fu]) [.arr Ty.int ws]):=by kernel_rfl

theorem run_q7 (hp:len ws*8≤140737488355328) (K:KK) (hK:K (.agg [.own 0,dI fu]) [.arr .int ws]):GO Γ_q7 fn_q7 0 K [.agg [dL ws,dI fu]] []:=by
 refine ⟨1,?_⟩
 rw [z1i,q7_vc _ _ _ _]
 exact ⟨hp,hK⟩
theorem sound_q7:z03 Tryz.prog tab n_q7 c_q7:=z01 ok_q7 hg_q7 (by
 intro vs bs p v bs' h hp
 unfold c_q7 at h
 split at h
 ·cases h
  exact ⟨by kernel_rfl,rfl,.inr (.inl (run_q7 _ _ hp.1 _ ⟨rfl,rfl⟩))⟩
 ·cases h)

def c_q5:z00:=fun vs bs=>match vs,bs with
 | [.one (.ptr 0 0)],[.box [.own 1,.dat .int fu],.arr .int ws]=>some (some (fu≤100000),.one (dB (!eqi fu 0)),[.box [.own 1,dI (burnFuel fu)],.arr .int ws])
 | _,_=>none
def Γ_q5:Ctx:=[]
theorem ok_q5:Ok Tryz.prog tab Γ_q5:=ok_nil
theorem q5_vc (ws:List Int) (fu:Int) (rec:RK) (K:KK):segD Γ_q5 tab fn_q5 2 K rec [.code (z05 fn_q5)] (z07 [.one (.ptr 0 0)] [.box [.own 1,dI fu],.arr Ty.int ws])=(
 br (eqi fu 0)
 (K (.one (dB false)) [.box [.own 1,dI fu],.arr Ty.int ws])
 (br (lti 0 fu)
 (K (.one (dB true)) [.box [.own 1,dI (w64 (fu-1))],.arr Ty.int ws])
 (K (.one (dB true)) [.box [.own 1,dI fu],.arr Ty.int ws]))):=by kernel_rfl

theorem run_q5 (hp:fu≤100000) (K:KK) (hK:K (.one (dB (!eqi fu 0))) [.box [.own 1,dI (burnFuel fu)],.arr .int ws]):GD Γ_q5 fn_q5 2 K [.one (.ptr 0 0)] [.box [.own 1,dI fu],.arr .int ws]:=by
 refine ⟨1,?_⟩
 rw [z02,q5_vc _ _ _ _]
 refine z27 (fun h=>?_) (fun h=>z1a (fun h2=>?_) (fun h2=>?_))
 ·rw [show (!eqi fu 0)=false from by simp [eqi,h],show burnFuel fu=fu from by simp [burnFuel,h]] at hK; exact hK
 ·rw [show (!eqi fu 0)=true from by simp [eqi,h],show burnFuel fu=fu-1 from by simp [burnFuel,h2]] at hK
  rw [z0e (by omega) (by omega)]; exact hK
 ·rw [show (!eqi fu 0)=true from by simp [eqi,h],show burnFuel fu=fu from by simp only [burnFuel]; rw [if_neg (by omega)]] at hK; exact hK
theorem sound_q5:z03 Tryz.prog tab n_q5 c_q5:=z01 ok_q5 hg_q5 (by
 intro vs bs p v bs' h hp
 unfold c_q5 at h
 split at h
 ·cases h
  exact ⟨by kernel_rfl,rfl,.inl (run_q5 _ _ hp.1 _ ⟨rfl,rfl⟩)⟩
 ·cases h)

def c_q8:z00:=fun vs bs=>match vs,bs with
 | [.one (.ptr 0 0),.one (.dat .int sector)],[.box [.own 1,.dat .int fu],.arr .int ws]=>some (some (-1≤fu∧fu≤100000∧0≤sector∧(sector+1)*32≤(len ws:Nat)∧len ws≤192),.one (dB (doCh ⟨ws,fu⟩ (wipeCh sector)).2),[.box [.own 1,dI (doCh ⟨ws,fu⟩ (wipeCh sector)).1.fuel],.arr .int (doCh ⟨ws,fu⟩ (wipeCh sector)).1.words])
 | _,_=>none
def Γ_q8:Ctx:=[(n_q5,c_q5)]
theorem ok_q8:Ok Tryz.prog tab Γ_q8:=(ok_nil.c hg_q5 sound_q5)
noncomputable def q8_L0:List It:=[.inLoop [6,4,0,1] (cSub fn_q8 [1,0,1,0,0]),.inBlock 0,.code (cSub fn_q8 [1,1])]
def q8_S0 (x0:Int) (x1:Bool) (x2 x3:Int) (x4:List Int):St:=⟨[(6,.one (dI x0)),(4,.one (dB x1)),(0,.one (.ptr 0 0)),(1,.one (dI x2))],[(0,.box [.own 1,dI x3]),(1,.arr Ty.int x4)],2⟩
theorem q8_vc (ws:List Int) (fu sector:Int) (rec:RK) (K:KK):segD Γ_q8 tab fn_q8 2 K rec [.code (z05 fn_q8)] (z07 [.one (.ptr 0 0),.one (dI sector)] [.box [.own 1,dI fu],.arr Ty.int ws])=(
 rec q8_L0 (q8_S0 0 false sector fu ws)):=by kernel_rfl
theorem q8_vc0 (x0:Int) (x1:Bool) (x2 x3:Int) (x4:List Int) (rec:RK) (K:KK) v0 (hv0:v0=burnFuel x3):segD Γ_q8 tab fn_q8 2 K rec (ent q8_L0) (q8_S0 x0 x1 x2 x3 x4)=(
 br (lti x0 32)
 (x3≤100000 ∧
 br (!(!(eqi x3 0)))
 (K (.one (dB false)) [.box [.own 1,dI v0],.arr Ty.int x4])
 (((0:Int)≤w64 (w64 (x2*32)+x0)∧w64 (w64 (x2*32)+x0)<(len x4:Int)) ∧
 Int.toNat (w64 (w64 (x2*32)+x0))<len x4 ∧
 rec q8_L0 (q8_S0 (w64 (x0+1)) x1 x2 v0 (setAt x4 (Int.toNat (w64 (w64 (x2*32)+x0))) (65535:Int)))))
 (K (.one (dB true)) [.box [.own 1,dI x3],.arr Ty.int x4])):=by subst_vars; kernel_rfl

theorem loop_q8 (sector:Int) (hs:0≤sector) (K:KK):∀ (n:Nat) (ws:List Int) (fu:Int),n≤32→-1≤fu→fu≤100000→(sector+1)*32≤(ws.length:Nat)→ws.length≤192 →
  K (.one (dB (doCh ⟨ws,fu⟩ (wipeFrom (32*sector+(32-n)) n)).2)) [.box [.own 1,dI (doCh ⟨ws,fu⟩ (wipeFrom (32*sector+(32-n)) n)).1.fuel],.arr .int (doCh ⟨ws,fu⟩ (wipeFrom (32*sector+(32-n)) n)).1.words] →
  goD Γ_q8 tab fn_q8 2 K (n+1) q8_L0 (q8_S0 (32-n) false sector fu ws)
 | 0,ws,fu,hn,h1,h2,h3,h4,hK=>by
  rw [z09 (L:=q8_L0),q8_vc0 _ _ _ _ _ _ _ _ rfl]
  refine z22 (by omega) ?_
  simp only [wipeFrom,zdw] at hK
  exact hK
 | n+1,ws,fu,hn,h1,h2,h3,h4,hK=>by
  rw [z09 (L:=q8_L0),q8_vc0 _ _ _ _ _ _ _ _ rfl]
  have e1:w64 ((w64 (sector*32))+(32-((n+1:Nat):Int)))=32*sector+(32-((n+1:Nat):Int)):=by
   rw [z0e (n:=sector*32) (by omega) (by omega),z0e (by omega) (by omega)]; omega
  rw [e1]
  simp only [wipeFrom,zab] at hK
  refine z2o (by omega) ⟨h2,?_⟩
  by_cases h0:fu=0
  ·subst h0
   refine z97 (by simp [eqi]) ?_
   simp only [if_true] at hK
   exact hK
  ·rw [if_neg h0] at hK
   refine z6r (by simp [eqi,h0]) ⟨⟨by omega,by simp only [len]; omega⟩,by simp only [len]; omega,?_⟩
   rw [z0e (by omega) (by omega),show (32-((n+1:Nat):Int))+1=32-(n:Int) by omega]
   refine loop_q8 sector hs K n _ _ (by omega) ?_ ?_ (by simp [setAt]; omega) (by simpa [setAt] using h4) ?_
   ·unfold burnFuel; split<;>omega
   ·unfold burnFuel; split<;>omega
   ·rw [show (32*sector+(32-((n+1:Nat):Int)))+1=32*sector+(32-(n:Int)) by omega] at hK
    exact hK
theorem run_q8 (hp:-1≤fu∧fu≤100000∧0≤sector∧(sector+1)*32≤(len ws:Nat)∧len ws≤192) (K:KK) (hK:K (.one (dB (doCh ⟨ws,fu⟩ (wipeCh sector)).2)) [.box [.own 1,dI (doCh ⟨ws,fu⟩ (wipeCh sector)).1.fuel],.arr .int (doCh ⟨ws,fu⟩ (wipeCh sector)).1.words]):GD Γ_q8 fn_q8 2 K [.one (.ptr 0 0),.one (dI sector)] [.box [.own 1,dI fu],.arr .int ws]:=by
 obtain ⟨h1,h2,h3,h4,h5⟩:=hp
 refine ⟨34,?_⟩
 rw [z02,q8_vc _ _ _ _ _]
 exact loop_q8 sector h3 K 32 ws fu (by omega) h1 h2 (by simpa [len] using h4) h5 (by simpa [wipeCh] using hK)
theorem sound_q8:z03 Tryz.prog tab n_q8 c_q8:=z01 ok_q8 hg_q8 (by
 intro vs bs p v bs' h hp
 unfold c_q8 at h
 split at h
 ·cases h
  exact ⟨by kernel_rfl,rfl,.inl (run_q8 _ _ _ hp.1 _ ⟨rfl,rfl⟩)⟩
 ·cases h)

abbrev n_q9:Nat:=n_q10
noncomputable abbrev fn_q9:Func:=fn_q10
theorem hg_q9:FnOk Tryz.prog n_q9 fn_q9:=hg_q10
def c_q9:z00:=fun vs bs=>match vs,bs with
 | [.one (.ptr 0 0),.one (.dat .int at_),.one (.own 1)],[.box [.own 2,.dat .int fu],.arr .int l,.arr .int ws]=>some (some (-1≤fu∧fu≤100000∧0≤at_∧at_+(len l:Nat)≤(len ws:Nat)∧len ws≤192),.one (dB (doCh ⟨ws,fu⟩ (z0c at_ l)).2),[.box [.own 2,dI (doCh ⟨ws,fu⟩ (z0c at_ l)).1.fuel],.arr .int l,.arr .int (doCh ⟨ws,fu⟩ (z0c at_ l)).1.words])
 | _,_=>none
def Γ_q9:Ctx:=[(n_q5,c_q5)]
theorem ok_q9:Ok Tryz.prog tab Γ_q9:=(ok_nil.c hg_q5 sound_q5)
noncomputable def q9_L0:List It:=[.inLoop [11,10,9,6,0,1] (cSub fn_q9 [1,0,1,0,0]),.inBlock 0,.code (cSub fn_q9 [1,1])]
def q9_S0 (x0 x1:Int) (x2:Bool) (x3 x4:Int) (x5 x6:List Int):St:=⟨[(11,.one (dI x0)),(10,.one (dI x1)),(9,.one (.own 1)),(6,.one (dB x2)),(0,.one (.ptr 0 0)),(1,.one (dI x3))],[(0,.box [.own 2,dI x4]),(1,.arr Ty.int x5),(2,.arr Ty.int x6)],3⟩
theorem q9_vc (ws:List Int) (fu at_:Int) (l:List Int) (rec:RK) (K:KK):segD Γ_q9 tab fn_q9 3 K rec [.code (z05 fn_q9)] (z07 [.one (.ptr 0 0),.one (dI at_),.one (.own 1)] [.box [.own 2,dI fu],.arr Ty.int l,.arr Ty.int ws])=(
 rec q9_L0 (q9_S0 0 (len l:Int) false at_ fu l ws)):=by kernel_rfl
theorem q9_vc0 (x0 x1:Int) (x2:Bool) (x3 x4:Int) (x5 x6:List Int) (rec:RK) (K:KK) v0 (hv0:v0=burnFuel x4):segD Γ_q9 tab fn_q9 3 K rec (ent q9_L0) (q9_S0 x0 x1 x2 x3 x4 x5 x6)=(
 br (lti x0 x1)
 (((0:Int)≤x0∧x0<(len x5:Int)) ∧
 Int.toNat x0<len x5 ∧
 x4≤100000 ∧
 br (!(!(eqi x4 0)))
 (K (.one (dB false)) [.box [.own 2,dI v0],.arr Ty.int x5,.arr Ty.int x6])
 (((0:Int)≤w64 (x3+x0)∧w64 (x3+x0)<(len x6:Int)) ∧
 Int.toNat (w64 (x3+x0))<len x6 ∧
 ((0:Int)≤w64 (x3+x0)∧w64 (x3+x0)<(len x6:Int)) ∧
 Int.toNat (w64 (x3+x0))<len x6 ∧
 rec q9_L0 (q9_S0 (w64 (x0+1)) x1 x2 x3 v0 x5 (setAt x6 (Int.toNat (w64 (x3+x0))) (andi (nth x6 (Int.toNat (w64 (x3+x0))) (Ty.dflt Ty.int)) (nth x5 (Int.toNat x0) (Ty.dflt Ty.int)))))))
 (K (.one (dB true)) [.box [.own 2,dI x4],.arr Ty.int x5,.arr Ty.int x6])):=by subst_vars; kernel_rfl

theorem loop_q9 (at_:Int) (hs:0≤at_) (l:List Int) (K:KK):∀ (n:Nat) (k:Nat) (ws:List Int) (fu:Int),k+n=l.length→-1≤fu→fu≤100000→at_+(l.length:Nat)≤(ws.length:Nat)→ws.length≤192 →
  K (.one (dB (doCh ⟨ws,fu⟩ (z0c (at_+k) (l.drop k))).2)) [.box [.own 2,dI (doCh ⟨ws,fu⟩ (z0c (at_+k) (l.drop k))).1.fuel],.arr .int l,.arr .int (doCh ⟨ws,fu⟩ (z0c (at_+k) (l.drop k))).1.words] →
  goD Γ_q9 tab fn_q9 3 K (n+1) q9_L0 (q9_S0 (k:Int) (((len l):Nat):Int) false at_ fu l ws)
 | 0,k,ws,fu,hk,h1,h2,h3,h4,hK=>by
  rw [z09 (L:=q9_L0),q9_vc0 _ _ _ _ _ _ _ _ _ _ rfl]
  refine z22 (by simp only [len]; omega) ?_
  rw [List.drop_of_length_le (by omega)] at hK
  simp only [z0c,zdw] at hK
  exact hK
 | n+1,k,ws,fu,hk,h1,h2,h3,h4,hK=>by
  rw [z09 (L:=q9_L0),q9_vc0 _ _ _ _ _ _ _ _ _ _ rfl]
  rw [z0e (n:=at_+k) (by omega) (by omega)]
  rw [z0q (by omega) (Ty.dflt Ty.int)] at hK
  simp only [z0c,zab] at hK
  refine z2o (by simp only [len]; omega) ⟨⟨by omega,by simp only [len]; omega⟩,by simp only [len]; omega,h2,?_⟩
  by_cases h0:fu=0
  ·subst h0
   refine z97 (by simp [eqi]) ?_
   simp only [if_true] at hK
   exact hK
  ·rw [if_neg h0] at hK
   refine z6r (by simp [eqi,h0]) ⟨⟨by omega,by simp only [len]; omega⟩,by simp only [len]; omega,⟨by omega,by simp only [len]; omega⟩,by simp only [len]; omega,?_⟩
   rw [z0f (by omega)]
   refine loop_q9 at_ hs l K n (k+1) _ _ (by omega) ?_ ?_ (by simpa [setAt] using h3) (by simpa [setAt] using h4) ?_
   ·unfold burnFuel; split<;>omega
   ·unfold burnFuel; split<;>omega
   ·rw [show at_+((k+1:Nat):Int)=at_+k+1 by omega]
    exact hK
theorem run_q9 (hp:-1≤fu∧fu≤100000∧0≤at_∧at_+(len l:Nat)≤(len ws:Nat)∧len ws≤192) (K:KK) (hK:K (.one (dB (doCh ⟨ws,fu⟩ (z0c at_ l)).2)) [.box [.own 2,dI (doCh ⟨ws,fu⟩ (z0c at_ l)).1.fuel],.arr .int l,.arr .int (doCh ⟨ws,fu⟩ (z0c at_ l)).1.words]):GD Γ_q9 fn_q9 3 K [.one (.ptr 0 0),.one (dI at_),.one (.own 1)] [.box [.own 2,dI fu],.arr .int l,.arr .int ws]:=by
 obtain ⟨h1,h2,h3,h4,h5⟩:=hp
 refine ⟨l.length+2,?_⟩
 rw [z02,q9_vc _ _ _ _ _ _]
 exact loop_q9 at_ h3 l K l.length 0 ws fu (by omega) h1 h2 h4 h5 (by simpa using hK)
theorem sound_q9:z03 Tryz.prog tab n_q9 c_q9:=z01 ok_q9 hg_q9 (by
 intro vs bs p v bs' h hp
 unfold c_q9 at h
 split at h
 ·cases h
  exact ⟨by kernel_rfl,rfl,.inl (run_q9 _ _ _ _ hp.1 _ ⟨rfl,rfl⟩)⟩
 ·cases h)

def c_q10:z00:=fun vs bs=>match vs,bs with
 | [.one (.ptr 0 0),.one (.dat .int at_),.one (.dat (.list .int) l)],[.box [.own 1,.dat .int fu],.arr .int ws]=>some (some (-1≤fu∧fu≤100000∧0≤at_∧at_+(len l:Nat)≤(len ws:Nat)∧len ws≤192),.one (dB (doCh ⟨ws,fu⟩ (z0c at_ l)).2),[.box [.own 1,dI (doCh ⟨ws,fu⟩ (z0c at_ l)).1.fuel],.arr .int (doCh ⟨ws,fu⟩ (z0c at_ l)).1.words])
 | _,_=>none
def Γ_q10:Ctx:=[(n_q5,c_q5)]
theorem ok_q10:Ok Tryz.prog tab Γ_q10:=(ok_nil.c hg_q5 sound_q5)
noncomputable def q10_L0:List It:=[.inLoop [11,10,9,6,0,1] (cSub fn_q10 [1,0,1,0,0]),.inBlock 0,.code (cSub fn_q10 [1,1])]
def q10_S0 (x0 x1:Int) (x2:List Int) (x3:Bool) (x4 x5:Int) (x6:List Int):St:=⟨[(11,.one (dI x0)),(10,.one (dI x1)),(9,.one (dL x2)),(6,.one (dB x3)),(0,.one (.ptr 0 0)),(1,.one (dI x4))],[(0,.box [.own 1,dI x5]),(1,.arr Ty.int x6)],2⟩
theorem q10_vc (ws:List Int) (fu at_:Int) (l:List Int) (rec:RK) (K:KK):segD Γ_q10 tab fn_q10 2 K rec [.code (z05 fn_q10)] (z07 [.one (.ptr 0 0),.one (dI at_),.one (dL l)] [.box [.own 1,dI fu],.arr Ty.int ws])=(
 rec q10_L0 (q10_S0 0 (len l:Int) l false at_ fu ws)):=by kernel_rfl
theorem q10_vc0 (x0 x1:Int) (x2:List Int) (x3:Bool) (x4 x5:Int) (x6:List Int) (rec:RK) (K:KK) v0 (hv0:v0=burnFuel x5):segD Γ_q10 tab fn_q10 2 K rec (ent q10_L0) (q10_S0 x0 x1 x2 x3 x4 x5 x6)=(
 br (lti x0 x1)
 (((0:Int)≤x0∧x0<(len x2:Int)) ∧
 x5≤100000 ∧
 br (!(!(eqi x5 0)))
 (K (.one (dB false)) [.box [.own 1,dI v0],.arr Ty.int x6])
 (((0:Int)≤w64 (x4+x0)∧w64 (x4+x0)<(len x6:Int)) ∧
 Int.toNat (w64 (x4+x0))<len x6 ∧
 ((0:Int)≤w64 (x4+x0)∧w64 (x4+x0)<(len x6:Int)) ∧
 Int.toNat (w64 (x4+x0))<len x6 ∧
 rec q10_L0 (q10_S0 (w64 (x0+1)) x1 x2 x3 x4 v0 (setAt x6 (Int.toNat (w64 (x4+x0))) (andi (nth x6 (Int.toNat (w64 (x4+x0))) (Ty.dflt Ty.int)) (nth x2 (Int.toNat x0) (Ty.dflt Ty.int)))))))
 (K (.one (dB true)) [.box [.own 1,dI x5],.arr Ty.int x6])):=by subst_vars; kernel_rfl

theorem zj1 (at_:Int) (hs:0≤at_) (l:List Int) (K:KK):∀ (n:Nat) (k:Nat) (ws:List Int) (fu:Int),k+n=l.length→-1≤fu→fu≤100000→at_+(l.length:Nat)≤(ws.length:Nat)→ws.length≤192 →
  K (.one (dB (doCh ⟨ws,fu⟩ (z0c (at_+k) (l.drop k))).2)) [.box [.own 1,dI (doCh ⟨ws,fu⟩ (z0c (at_+k) (l.drop k))).1.fuel],.arr .int (doCh ⟨ws,fu⟩ (z0c (at_+k) (l.drop k))).1.words] →
  goD Γ_q10 tab fn_q10 2 K (n+1) q10_L0 (q10_S0 (k:Int) (((len l):Nat):Int) l false at_ fu ws)
 | 0,k,ws,fu,hk,h1,h2,h3,h4,hK=>by
  rw [z09 (L:=q10_L0),q10_vc0 _ _ _ _ _ _ _ _ _ _ rfl]
  refine z22 (by simp only [len]; omega) ?_
  rw [List.drop_of_length_le (by omega)] at hK
  simp only [z0c,zdw] at hK
  exact hK
 | n+1,k,ws,fu,hk,h1,h2,h3,h4,hK=>by
  rw [z09 (L:=q10_L0),q10_vc0 _ _ _ _ _ _ _ _ _ _ rfl]
  rw [z0e (n:=at_+k) (by omega) (by omega)]
  rw [z0q (by omega) (Ty.dflt Ty.int)] at hK
  simp only [z0c,zab] at hK
  refine z2o (by simp only [len]; omega) ⟨⟨by omega,by simp only [len]; omega⟩,h2,?_⟩
  by_cases h0:fu=0
  ·subst h0
   refine z97 (by simp [eqi]) ?_
   simp only [if_true] at hK
   exact hK
  ·rw [if_neg h0] at hK
   refine z6r (by simp [eqi,h0]) ⟨⟨by omega,by simp only [len]; omega⟩,by simp only [len]; omega,⟨by omega,by simp only [len]; omega⟩,by simp only [len]; omega,?_⟩
   rw [z0f (by omega)]
   refine zj1 at_ hs l K n (k+1) _ _ (by omega) ?_ ?_ (by simpa [setAt] using h3) (by simpa [setAt] using h4) ?_
   ·unfold burnFuel; split<;>omega
   ·unfold burnFuel; split<;>omega
   ·rw [show at_+((k+1:Nat):Int)=at_+k+1 by omega]
    exact hK
theorem run_q10 (hp:-1≤fu∧fu≤100000∧0≤at_∧at_+(len l:Nat)≤(len ws:Nat)∧len ws≤192) (K:KK) (hK:K (.one (dB (doCh ⟨ws,fu⟩ (z0c at_ l)).2)) [.box [.own 1,dI (doCh ⟨ws,fu⟩ (z0c at_ l)).1.fuel],.arr .int (doCh ⟨ws,fu⟩ (z0c at_ l)).1.words]):GD Γ_q10 fn_q10 2 K [.one (.ptr 0 0),.one (dI at_),.one (dL l)] [.box [.own 1,dI fu],.arr .int ws]:=by
 obtain ⟨h1,h2,h3,h4,h5⟩:=hp
 refine ⟨l.length+2,?_⟩
 rw [z02,q10_vc _ _ _ _ _ _]
 exact zj1 at_ h3 l K l.length 0 ws fu (by omega) h1 h2 h4 h5 (by simpa using hK)
theorem sound_q10:z03 Tryz.prog tab n_q10 c_q10:=z01 ok_q10 hg_q10 (by
 intro vs bs p v bs' h hp
 unfold c_q10 at h
 split at h
 ·cases h
  exact ⟨by kernel_rfl,rfl,.inl (run_q10 _ _ _ _ hp.1 _ ⟨rfl,rfl⟩)⟩
 ·cases h)

def c_q63:z00:=fun vs bs=>match vs,bs with
 | [.agg [.dat (.list .int) ws,.dat .int fu]],[]=>some (none,.tup [.agg [dL (formatF ⟨ws,fu⟩).1.words,dI (formatF ⟨ws,fu⟩).1.fuel],.one (dI (formatF ⟨ws,fu⟩).2)],[])
 | _,_=>none
def Γ_q63:Ctx:=[(n_q6,c_q6),(n_q7,c_q7),(n_q8,c_q8),(n_q10,(orC c_q10 c_q9))]
theorem ok_q63:Ok Tryz.prog tab Γ_q63:=((((ok_nil.c hg_q10 (zc2 sound_q10 sound_q9)).c hg_q8 sound_q8).c hg_q7 sound_q7).c hg_q6 sound_q6)
theorem q63_vc (ws:List Int) (fu:Int) (rec:RK) (K:KK) v0 (hv0:v0=z0b (⟨ws,fu⟩:Flash)) v1 (hv1:v1=wipeCh 1) v2 (hv2:v2=doCh (⟨ws,fu⟩:Flash) v1) v3 (hv3:v3=wipeCh 0) v4 (hv4:v4=doCh (⟨v2.fst.words,v2.fst.fuel⟩:Flash) v3) v5 (hv5:v5=z0c 0 ((1:Int)::[])) v6 (hv6:v6=doCh (⟨v4.fst.words,v4.fst.fuel⟩:Flash) v5):segD Γ_q63 tab fn_q63 0 K rec [.code (z05 fn_q63)] (z07 [.agg [dL ws,dI fu]] [])=(
 br (!(eqi v0 0))
 (K (.tup [.agg [dL [],dI (0:Int)],.one (dI v0)]) [])
 (br (lti (len ws:Int) 64)
 (K (.tup [.agg [dL [],dI (0:Int)],.one (dI 4)]) [])
 (len ws*8≤140737488355328 ∧
 ((-1)≤fu∧fu≤100000∧(0:Int)≤(1:Int)∧((1:Int)+(1:Int))*32≤(len ws:Int)∧len ws≤192) ∧
 br (!v2.snd)
 (K (.tup [.agg [dL v2.fst.words,dI v2.fst.fuel],.one (dI 7)]) [])
 (((-1)≤v2.fst.fuel∧v2.fst.fuel≤100000∧(0:Int)≤(0:Int)∧((0:Int)+(1:Int))*32≤(len v2.fst.words:Int)∧len v2.fst.words≤192) ∧
 br (!v4.snd)
 (K (.tup [.agg [dL v4.fst.words,dI v4.fst.fuel],.one (dI 7)]) [])
 (((-1)≤v4.fst.fuel∧v4.fst.fuel≤100000∧(0:Int)≤(0:Int)∧(0:Int)+(len ((1:Int)::[]):Int)≤(len v4.fst.words:Int)∧len v4.fst.words≤192) ∧
 br (!v6.snd)
 (K (.tup [.agg [dL v6.fst.words,dI v6.fst.fuel],.one (dI 7)]) [])
 (K (.tup [.agg [dL v6.fst.words,dI v6.fst.fuel],.one (dI 0)]) [])))))):=by subst_vars; kernel_rfl

theorem run_q63 (K:KK) (hK:K (.tup [.agg [dL (formatF ⟨ws,fu⟩).1.words,dI (formatF ⟨ws,fu⟩).1.fuel],.one (dI (formatF ⟨ws,fu⟩).2)]) []):GD Γ_q63 fn_q63 0 K [.agg [dL ws,dI fu]] []:=by
 refine ⟨1,?_⟩
 rw [z02,q63_vc _ _ _ _ _ rfl _ rfl _ rfl _ rfl _ rfl _ rfl _ rfl]
 unfold formatF at hK
 refine z1c (fun h=>?_) (fun h=>?_)
 ·rw [if_neg h] at hK; exact hK
 rw [if_pos h] at hK
 obtain ⟨c1,c2,c3,c4⟩:=z10 h
 obtain ⟨c5,c6⟩:=z6f c1
 simp only at c2 c3 c5 c6
 refine z1a (fun h2=>?_) (fun h2=>?_)
 ·rw [if_neg (by simp only [len] at h2 ⊢; omega)] at hK; exact hK
 rw [if_pos (by simp only [len] at h2 ⊢; omega)] at hK
 unfold formatCh at hK
 rw [z33,z33] at hK
 obtain ⟨f1,f2⟩:=z31 ⟨ws,fu⟩ (wipeCh 1) c2 c3
 have l1:=z4i ⟨ws,fu⟩ (wipeCh 1)
 obtain ⟨g1,g2⟩:=z31 (doCh ⟨ws,fu⟩ (wipeCh 1)).1 (wipeCh 0) f1 f2
 have l2:=z4i (doCh ⟨ws,fu⟩ (wipeCh 1)).1 (wipeCh 0)
 simp only [len] at h2 l1 l2 ⊢
 refine ⟨by omega,⟨c2,c3,by omega,by omega,by omega⟩,z4n (fun h3=>?_) (fun h3=>⟨⟨f1,f2,by omega,by omega,by omega⟩,z4n (fun h4=>?_) (fun h4=>⟨⟨g1,g2,by omega,?_,?_⟩,z4n (fun h5=>?_) (fun h5=>?_)⟩)⟩)⟩
 ·rw [if_neg (show ¬ (doCh ⟨ws,fu⟩ (wipeCh 1)).2=true by simp [h3]),if_neg (by simp [h3])] at hK
  simp only [power,powerE,h3] at hK; exact hK
 ·rw [if_pos h3,if_neg (show ¬ (doCh (doCh ⟨ws,fu⟩ (wipeCh 1)).1 (wipeCh 0)).2=true from by rw [show (doCh (doCh ⟨ws,fu⟩ (wipeCh 1)).1 (wipeCh 0)).2=false from h4]; simp)] at hK
  simp only [power] at hK
  rw [show (doCh (doCh ⟨ws,fu⟩ (wipeCh 1)).1 (wipeCh 0)).2=false from h4] at hK
  exact hK
 ·show (0:Int)+_≤((doCh (doCh ⟨ws,fu⟩ (wipeCh 1)).1 (wipeCh 0)).1.words.length:Int)
  simp only [List.length_cons,List.length_nil]; omega
 ·show (doCh (doCh ⟨ws,fu⟩ (wipeCh 1)).1 (wipeCh 0)).1.words.length≤_
  omega
 ·rw [if_pos h3,if_pos (show (doCh (doCh ⟨ws,fu⟩ (wipeCh 1)).1 (wipeCh 0)).2=true from h4)] at hK
  simp only [power] at hK
  rw [show (doCh (doCh (doCh ⟨ws,fu⟩ (wipeCh 1)).1 (wipeCh 0)).1 (z0c 0 [1])).2=false from h5] at hK
  exact hK
 ·rw [if_pos h3,if_pos (show (doCh (doCh ⟨ws,fu⟩ (wipeCh 1)).1 (wipeCh 0)).2=true from h4)] at hK
  simp only [power] at hK
  rw [show (doCh (doCh (doCh ⟨ws,fu⟩ (wipeCh 1)).1 (wipeCh 0)).1 (z0c 0 [1])).2=true from h5] at hK
  exact hK
theorem sound_q63:z03 Tryz.prog tab n_q63 c_q63:=z01 ok_q63 hg_q63 (by
 intro vs bs p v bs' h hp
 unfold c_q63 at h
 split at h
 ·cases h
  exact ⟨by kernel_rfl,rfl,.inl (run_q63 _ _ _ ⟨rfl,rfl⟩)⟩
 ·cases h)

abbrev n_q160:Nat:=n_q2
noncomputable abbrev fn_q160:Func:=fn_q2
theorem hg_q160:FnOk Tryz.prog n_q160 fn_q160:=hg_q2
def c_q160:z00:=fun vs bs=>match vs,bs with
 | [.one (.dat (.list .int) l)],[]=>some (some (len l*8≤140737488355328),.one (dL l),[])
 | _,_=>none
def Γ_q160:Ctx:=[]
theorem ok_q160:Ok Tryz.prog tab Γ_q160:=ok_nil
theorem q160_vc (l:List Int) (rec:RK) (K:KK):segD Γ_q160 tab fn_q160 0 K rec [.code (z05 fn_q160)] (z07 [.one (dL l)] [])=(
 (∀ bn:Bool,(bn=true→len l=0)→br bn
 (K (.one (dL [])) [])
 ((0+len l)*8≤140737488355328 ∧
 K (.one (dL (cat [] l))) []))):=by kernel_rfl

theorem run_q160 (hp:len l*8≤140737488355328) (K:KK) (hK:K (.one (dL l)) []):GD Γ_q160 fn_q160 0 K [.one (dL l)] []:=by
 refine ⟨1,?_⟩
 rw [z02,q160_vc _ _ _]
 intro bn hb
 refine z0l (fun h=>?_) (fun h=>⟨by simp only [len] at hp ⊢; omega,hK⟩)
 have:l=[]:=List.length_eq_zero_iff.1 (hb h)
 subst this
 exact hK
theorem sound_q160:z03 Tryz.prog tab n_q160 c_q160:=z01 ok_q160 hg_q160 (by
 intro vs bs p v bs' h hp
 unfold c_q160 at h
 split at h
 ·cases h
  exact ⟨by kernel_rfl,rfl,.inl (run_q160 _ hp.1 _ ⟨rfl,rfl⟩)⟩
 ·cases h)

def c_q60:z00:=fun vs bs=>match vs,bs with
 | [.agg [.dat (.list .int) ws,.dat .int _]],[]=>some (some (64≤len ws∧z04 ws=true),.tup [.one (dI (liveS ws)),.one (dI (z0k ws)),.one (dB (liveOk ws))],[])
 | _,_=>none
def Γ_q60:Ctx:=[]
theorem ok_q60:Ok Tryz.prog tab Γ_q60:=ok_nil
theorem q60_vc (ws:List Int) (fu:Int) (rec:RK) (K:KK) v0 (hv0:v0=K (.tup [.one (dI 0),.one (dI (nth ws (Int.toNat 0) (Ty.dflt Ty.int))),.one (dB (lti 0 (nth ws (Int.toNat 0) (Ty.dflt Ty.int))))]) []) v1 (hv1:v1=K (.tup [.one (dI 1),.one (dI (nth ws (Int.toNat 32) (Ty.dflt Ty.int))),.one (dB true)]) []) v2 (hv2:v2=K (.tup [.one (dI 0),.one (dI 0),.one (dB (lti 0 0))]) []):segD Γ_q60 tab fn_q60 0 K rec [.code (z05 fn_q60)] (z07 [.agg [dL ws,dI fu]] [])=(
 ((0:Int)≤(0:Int)∧(0:Int)<(len ws:Int)) ∧
 ((0:Int)≤(32:Int)∧(32:Int)<(len ws:Int)) ∧
 br (eqi (nth ws (Int.toNat 0) (Ty.dflt Ty.int)) 65535)
 (br (eqi (nth ws (Int.toNat 32) (Ty.dflt Ty.int)) 65535)
 v2
 (br (lti 0 (nth ws (Int.toNat 32) (Ty.dflt Ty.int)))
 v1
 v2))
 (br (eqi (nth ws (Int.toNat 32) (Ty.dflt Ty.int)) 65535)
 (br (lti (nth ws (Int.toNat 0) (Ty.dflt Ty.int)) 0)
 (K (.tup [.one (dI 1),.one (dI 0),.one (dB true)]) [])
 v0)
 (br (lti (nth ws (Int.toNat 0) (Ty.dflt Ty.int)) (nth ws (Int.toNat 32) (Ty.dflt Ty.int)))
 v1
 v0))):=by subst_vars; kernel_rfl

theorem run_q60 (hp:64≤len ws∧z04 ws=true) (K:KK) (hK:K (.tup [.one (dI (liveS ws)),.one (dI (z0k ws)),.one (dB (liveOk ws))]) []):GD Γ_q60 fn_q60 0 K [.agg [dL ws,dI fu]] []:=by
 obtain ⟨hl,hok⟩:=hp
 refine ⟨1,?_⟩
 rw [z02,q60_vc _ _ _ _ _ rfl _ rfl _ rfl]
 have o0:=zd8 hok 0
 have o1:=zd8 hok 32
 have e0:nth ws (Int.toNat (0:Int)) (Ty.dflt Ty.int)=ws.getD 0 0:=rfl
 have e1:nth ws (Int.toNat (32:Int)) (Ty.dflt Ty.int)=ws.getD 32 0:=rfl
 rw [e0,e1]
 have g0:genOf ws 0=if ws.getD 0 0=65535 then 0 else ws.getD 0 0:=rfl
 have g1:genOf ws 1=if ws.getD 32 0=65535 then 0 else ws.getD 32 0:=rfl
 unfold liveOk z0k liveS at hK
 refine ⟨⟨by omega,by omega⟩,⟨by omega,by omega⟩,z27 (fun h=>z27 (fun h2=>?_) (fun h2=>z1a (fun h3=>?_) (fun h3=>?_))) (fun h=>z27 (fun h2=>z1a (fun h3=>?_) (fun h3=>?_)) (fun h2=>z1a (fun h3=>?_) (fun h3=>?_)))⟩
 ·rw [if_pos h] at g0; rw [if_pos h2] at g1
  rw [if_neg (by omega),g0] at hK; exact hK
 ·rw [if_pos h] at g0; rw [if_neg h2] at g1
  rw [if_pos (by omega),g1,show decide (0<ws.getD 32 0)=true from decide_eq_true h3] at hK; exact hK
 ·rw [if_pos h] at g0; rw [if_neg h2] at g1
  rw [if_neg (by omega),g0] at hK; exact hK
 ·omega
 ·rw [if_neg h] at g0; rw [if_pos h2] at g1
  rw [if_neg (by omega),g0] at hK; exact hK
 ·rw [if_neg h] at g0; rw [if_neg h2] at g1
  rw [if_pos (by omega),g1,show decide (0<ws.getD 32 0)=true from decide_eq_true (by omega)] at hK; exact hK
 ·rw [if_neg h] at g0; rw [if_neg h2] at g1
  rw [if_neg (by omega),g0] at hK; exact hK
theorem sound_q60:z03 Tryz.prog tab n_q60 c_q60:=z01 ok_q60 hg_q60 (by
 intro vs bs p v bs' h hp
 unfold c_q60 at h
 split at h
 ·cases h
  exact ⟨by kernel_rfl,rfl,.inl (run_q60 _ _ hp.1 _ ⟨rfl,rfl⟩)⟩
 ·cases h)

def c_q62:z00:=fun vs bs=>match vs,bs with
 | [.agg [.dat (.list .int) ws,.dat .int fu]],[]=>some (none,.one (dI (z0d ⟨ws,fu⟩)),[])
 | _,_=>none
def Γ_q62:Ctx:=[(n_q6,c_q6),(n_q60,c_q60)]
theorem ok_q62:Ok Tryz.prog tab Γ_q62:=((ok_nil.c hg_q60 sound_q60).c hg_q6 sound_q6)
theorem q62_vc (ws:List Int) (fu:Int) (rec:RK) (K:KK) v0 (hv0:v0=z0b (⟨ws,fu⟩:Flash)) v1 (hv1:v1=z04 ws) v2 (hv2:v2=liveOk ws) v3 (hv3:v3=z0k ws):segD Γ_q62 tab fn_q62 0 K rec [.code (z05 fn_q62)] (z07 [.agg [dL ws,dI fu]] [])=(
 br (!(eqi v0 0))
 (K (.one (dI v0)) [])
 (br (lti (len ws:Int) 64)
 (K (.one (dI 4)) [])
 ((64≤len ws∧v1=true) ∧
 br (!v2)
 (K (.one (dI 5)) [])
 (br (lti 60000 v3)
 (K (.one (dI 5)) [])
 (K (.one (dI 0)) []))))):=by subst_vars; kernel_rfl

theorem run_q62 (K:KK) (hK:K (.one (dI (z0d ⟨ws,fu⟩))) []):GD Γ_q62 fn_q62 0 K [.agg [dL ws,dI fu]] []:=by
 refine ⟨1,?_⟩
 rw [z02,q62_vc _ _ _ _ _ rfl _ rfl _ rfl _ rfl]
 unfold z0d at hK
 refine z1c (fun h=>?_) (fun h=>?_)
 ·rw [if_neg h] at hK; exact hK
 rw [if_pos h] at hK
 refine z1a (fun h2=>?_) (fun h2=>?_)
 ·rw [if_neg (by simp only [len] at h2 ⊢; omega)] at hK; exact hK
 rw [if_pos (by simp only [len] at h2 ⊢; omega)] at hK
 refine ⟨⟨by simp only [len] at h2 ⊢; omega,(z10 h).2.2.2⟩,z4n (fun h3=>?_) (fun h3=>z1a (fun h4=>?_) (fun h4=>?_))⟩
 ·rw [if_neg (by simp only [liveOk,decide_eq_false_iff_not] at h3 ⊢; omega)] at hK; exact hK
 ·rw [if_neg (by simp only; omega)] at hK; exact hK
 ·rw [if_pos (by simp only [liveOk,decide_eq_true_eq] at h3 ⊢; omega)] at hK; exact hK
theorem sound_q62:z03 Tryz.prog tab n_q62 c_q62:=z01 ok_q62 hg_q62 (by
 intro vs bs p v bs' h hp
 unfold c_q62 at h
 split at h
 ·cases h
  exact ⟨by kernel_rfl,rfl,.inl (run_q62 _ _ _ ⟨rfl,rfl⟩)⟩
 ·cases h)

def c_q91:z00:=fun vs bs=>match vs,bs with
 | [.agg [.dat .int v,.dat (.list .int) ks,.dat .int t]],[]=>some (none,.one (dI (checkRoot v ks t)),[])
 | _,_=>none
def Γ_q91:Ctx:=[]
theorem ok_q91:Ok Tryz.prog tab Γ_q91:=ok_nil
noncomputable def q91_L0:List It:=[.inLoop [26,25,24,2,1] (cSub fn_q91 [1,1,1,0,1,0,0]),.inBlock 0,.code (cSub fn_q91 [1,1,1,1])]
def q91_S0 (x0 x1:Int) (x2:List Int) (x3 x4:Int) (x5:List Int) (x6:Int):St:=⟨[(26,.one (dI x0)),(25,.one (dI x1)),(24,.one (dL x2)),(2,.one (dI x3)),(1,.one (.ptr 0 0))],[(0,.box [dI x4,dL x5,dI x6])],1⟩
theorem q91_vc (v:Int) (ks:List Int) (t:Int) (rec:RK) (K:KK):segD Γ_q91 tab fn_q91 0 K rec [.code (z05 fn_q91)] (z07 [.agg [dI v,dL ks,dI t]] [])=(
 br (lti v 1)
 (K (.one (dI 3)) [])
 (br (lti 1000 v)
 (K (.one (dI 3)) [])
 (br (eqi (len ks:Int) 0)
 (K (.one (dI 2)) [])
 (br (lti 6 (len ks:Int))
 (K (.one (dI 2)) [])
 (rec q91_L0 (q91_S0 0 (len ks:Int) ks 0 v ks t)))))):=by kernel_rfl
theorem q91_vc0 (x0 x1:Int) (x2:List Int) (x3 x4:Int) (x5:List Int) (x6:Int) (rec:RK) (K:KK) v0 (hv0:v0=rec q91_L0 (q91_S0 (w64 (x0+1)) x1 x2 x3 x4 x5 x6)):segD Γ_q91 tab fn_q91 0 K rec (ent q91_L0) (q91_S0 x0 x1 x2 x3 x4 x5 x6)=(
 br (lti x0 x1)
 (((0:Int)≤x0∧x0<(len x2:Int)) ∧
 br (lti (nth x2 (Int.toNat x0) (Ty.dflt Ty.int)) 1)
 (K (.one (dI 3)) [])
 (br (lti 50 (nth x2 (Int.toNat x0) (Ty.dflt Ty.int)))
 (K (.one (dI 3)) [])
 (br (lti 0 x0)
 (((0:Int)≤w64 (x0-1)∧w64 (x0-1)<(len x5:Int)) ∧
 br (lei (nth x2 (Int.toNat x0) (Ty.dflt Ty.int)) (nth x5 (Int.toNat (w64 (x0-1))) (Ty.dflt Ty.int)))
 (K (.one (dI 6)) [])
 v0)
 v0)))
 (br (lti x6 1)
 (K (.one (dI 4)) [])
 (br (lti (len x5:Int) x6)
 (K (.one (dI 4)) [])
 (K (.one (dI 0)) [])))):=by subst_vars; kernel_rfl

theorem zdx (ks:List Int) (v t:Int) (hl:ks.length≤6) (K:KK) (last:Nat→Option Int) (h0:last 0=none) (hs:∀ k,k<ks.length→last (k+1)=some (nth ks k 0)):∀ (d k:Nat),k+d=ks.length →
  K (.one (dI (rootEnd (keysFrom (last k) (ks.drop k)) t ks.length))) [] →
  goD Γ_q91 tab fn_q91 0 K (d+1) q91_L0 (q91_S0 (k:Int) (((len ks):Nat):Int) ks 0 v ks t)
 | 0,k,hk,hK=>by
  rw [z09 (L:=q91_L0),q91_vc0 _ _ _ _ _ _ _ _ _ _ rfl]
  rw [List.drop_of_length_le (by omega)] at hK
  rw [show rootEnd (keysFrom (last k) []) t ks.length=if t<1∨(ks.length:Int)<t then 4 else 0 from rfl] at hK
  refine z22 (by simp only [len]; omega) (z1a (fun h=>?_) (fun h=>z1a (fun h2=>?_) (fun h2=>?_)))
  ·rw [if_pos (.inl h)] at hK; exact hK
  ·rw [if_pos (.inr h2)] at hK; exact hK
  ·rw [if_neg (by simp only [len] at h2; omega)] at hK; exact hK
 | d+1,k,hk,hK=>by
  rw [z09 (L:=q91_L0),q91_vc0 _ _ _ _ _ _ _ _ _ _ rfl,z08]
  rw [z0q (by omega) (Ty.dflt Ty.int)] at hK
  have hsk:=hs k (by omega)
  have e:nth ks k (Ty.dflt Ty.int)=nth ks k 0:=rfl
  rw [e] at hK ⊢
  obtain ⟨x,hx⟩:∃ x,nth ks k (0:Int)=x:=⟨_,rfl⟩
  rw [hx] at hK hsk ⊢
  have ek:w64 ((k:Int)+1)=((k+1:Nat):Int):=z0f (by omega)
  rw [ek]
  refine z2o (by simp only [len]; omega) ⟨⟨by omega,by simp only [len]; omega⟩,z1a (fun h=>?_) (fun h=>z1a (fun h2=>?_) (fun h2=>?_))⟩
  ·rw [show keysFrom (last k) (x::ks.drop (k+1))=3 from if_pos (.inl h)] at hK; exact hK
  ·rw [show keysFrom (last k) (x::ks.drop (k+1))=3 from if_pos (.inr h2)] at hK; exact hK
  ·rw [show keysFrom (last k) (x::ks.drop (k+1))=if notBehind (last k) x then 6 else keysFrom (some x) (ks.drop (k+1)) from if_neg (by omega)] at hK
   refine z1a (fun h3=>?_) (fun h3=>?_)
   ·obtain ⟨j,rfl⟩:∃ j,k=j+1:=⟨k-1,by omega⟩
    have hj:=hs j (by omega)
    rw [hj] at hK
    rw [z0e (n:=((j+1:Nat):Int)-1) (by omega) (by omega),show Int.toNat (((j+1:Nat):Int)-1)=j by omega]
    have e2:nth ks j (Ty.dflt Ty.int)=nth ks j 0:=rfl
    rw [e2]
    refine ⟨⟨by omega,by simp only [len]; omega⟩,z0l (fun h4=>?_) (fun h4=>?_)⟩
    ·rw [z1u] at h4
     rw [if_pos (show notBehind (some (nth ks j 0)) x=true from decide_eq_true h4)] at hK; exact hK
    ·rw [z11] at h4
     rw [if_neg (show ¬ notBehind (some (nth ks j 0)) x=true from by simp only [notBehind,decide_eq_true_eq]; omega)] at hK
     refine zdx ks v t hl K last h0 hs d (j+1+1) (by omega) ?_
     rw [hsk]; exact hK
   ·have hk0:k=0:=by omega
    subst hk0
    rw [h0] at hK
    rw [if_neg (show ¬ notBehind none x=true from by simp [notBehind])] at hK
    refine zdx ks v t hl K last h0 hs d 1 (by omega) ?_
    rw [hsk]; exact hK
theorem run_q91 (K:KK) (hK:K (.one (dI (checkRoot v ks t))) []):GD Γ_q91 fn_q91 0 K [.agg [dI v,dL ks,dI t]] []:=by
 refine ⟨ks.length+2,?_⟩
 rw [z02,q91_vc _ _ _ _ _]
 unfold checkRoot at hK
 refine z1a (fun h=>?_) (fun h=>z1a (fun h2=>?_) (fun h2=>z27 (fun h3=>?_) (fun h3=>z1a (fun h4=>?_) (fun h4=>?_))))
 ·rw [if_pos (.inl h)] at hK; exact hK
 ·rw [if_pos (.inr h2)] at hK; exact hK
 ·rw [if_neg (by omega),if_pos (by simp only [len] at h3; omega)] at hK; exact hK
 ·rw [if_neg (by omega),if_pos (by simp only [len] at h4; omega)] at hK; exact hK
 ·rw [if_neg (by omega),if_neg (by simp only [len] at h3 h4; omega)] at hK
  exact zdx ks v t (by simp only [len] at h4; omega) K (fun k=>match k with | 0=>none | k+1=>some (nth ks k 0)) rfl (fun k _=>rfl) ks.length 0 (by omega) hK
theorem sound_q91:z03 Tryz.prog tab n_q91 c_q91:=z01 ok_q91 hg_q91 (by
 intro vs bs p v bs' h hp
 unfold c_q91 at h
 split at h
 ·cases h
  exact ⟨by kernel_rfl,rfl,.inl (run_q91 _ _ _ _ ⟨rfl,rfl⟩)⟩
 ·cases h)

def c_q116:z00:=fun vs bs=>match vs,bs with
 | [.agg [.dat .int v,.dat (.list .int) ks,.dat .int t,.dat .int n]],[]=>some (none,.one (dI (checkTrust ⟨⟨v,ks,t⟩,n⟩)),[])
 | _,_=>none
def Γ_q116:Ctx:=[(n_q91,c_q91)]
theorem ok_q116:Ok Tryz.prog tab Γ_q116:=(ok_nil.c hg_q91 sound_q91)
theorem q116_vc (v:Int) (ks:List Int) (t n:Int) (rec:RK) (K:KK) v0 (hv0:v0=checkRoot v ks t):segD Γ_q116 tab fn_q116 0 K rec [.code (z05 fn_q116)] (z07 [.agg [dI v,dL ks,dI t,dI n]] [])=(
 br (lti n 0)
 (K (.one (dI 3)) [])
 (br (lti 1000 n)
 (K (.one (dI 3)) [])
 (K (.one (dI v0)) []))):=by subst_vars; kernel_rfl

theorem run_q116 (K:KK) (hK:K (.one (dI (checkTrust ⟨⟨v,ks,t⟩,n⟩))) []):GD Γ_q116 fn_q116 0 K [.agg [dI v,dL ks,dI t,dI n]] []:=by
 refine ⟨1,?_⟩
 rw [z02,q116_vc _ _ _ _ _ _ _ rfl]
 unfold checkTrust at hK
 simp only at hK
 refine z1a (fun h=>?_) (fun h=>z1a (fun h2=>?_) (fun h2=>?_))
 ·rw [if_pos (.inl h)] at hK; exact hK
 ·rw [if_pos (.inr h2)] at hK; exact hK
 ·rw [if_neg (by omega)] at hK; exact hK
theorem sound_q116:z03 Tryz.prog tab n_q116 c_q116:=z01 ok_q116 hg_q116 (by
 intro vs bs p v bs' h hp
 unfold c_q116 at h
 split at h
 ·cases h
  exact ⟨by kernel_rfl,rfl,.inl (run_q116 _ _ _ _ _ ⟨rfl,rfl⟩)⟩
 ·cases h)

def c_q168:z00:=fun vs bs=>match vs,bs with
 | [.agg [.dat (.list .int) ws,.dat .int fu,.dat .bool up,.dat .int tv,.dat (.list .int) tk,.dat .int tt,.dat .int tn,.dat (.list .bool) vo,.dat (.list .bool) di]],[]=>some (none,.one (dI (z0t ⟨⟨ws,fu⟩,up,⟨⟨tv,tk,tt⟩,tn⟩,vo,di⟩)),[])
 | _,_=>none
def Γ_q168:Ctx:=[(n_q62,c_q62),(n_q116,c_q116)]
theorem ok_q168:Ok Tryz.prog tab Γ_q168:=((ok_nil.c hg_q116 sound_q116).c hg_q62 sound_q62)
theorem q168_vc (ws:List Int) (fu:Int) (up:Bool) (tv:Int) (tk:List Int) (tt tn:Int) (vo di:List Bool) (rec:RK) (K:KK) v0 (hv0:v0=z0d ⟨ws,fu⟩) v1 (hv1:v1=checkTrust ⟨⟨tv,tk,tt⟩,tn⟩):segD Γ_q168 tab fn_q168 0 K rec [.code (z05 fn_q168)] (z07 [.agg [dL ws,dI fu,dB up,dI tv,dL tk,dI tt,dI tn,dLb vo,dLb di]] [])=(
 br (!(eqi v0 0))
 (K (.one (dI v0)) [])
 (br (lti (len vo:Int) 1)
 (K (.one (dI 4)) [])
 (br (lti 4 (len vo:Int))
 (K (.one (dI 4)) [])
 (br (!(eqi (len di:Int) (len vo:Int)))
 (K (.one (dI 4)) [])
 (K (.one (dI v1)) []))))):=by subst_vars; kernel_rfl

theorem run_q168 (K:KK) (hK:K (.one (dI (z0t ⟨⟨ws,fu⟩,up,⟨⟨tv,tk,tt⟩,tn⟩,vo,di⟩))) []):GD Γ_q168 fn_q168 0 K [.agg [dL ws,dI fu,dB up,dI tv,dL tk,dI tt,dI tn,dLb vo,dLb di]] []:=by
 refine ⟨1,?_⟩
 rw [z02,q168_vc _ _ _ _ _ _ _ _ _ _ _ _ rfl _ rfl]
 unfold z0t at hK
 simp only at hK
 refine z1c (fun h=>?_) (fun h=>?_)
 ·rw [if_neg h] at hK; exact hK
 ·rw [if_pos h] at hK
  have l1:((len vo:Nat):Int)=(vo.length:Int):=rfl
  have l2:((len di:Nat):Int)=(di.length:Int):=rfl
  rw [l1,l2]
  by_cases c:vo.length<1∨4<vo.length∨di.length≠vo.length
  ·rw [if_pos c] at hK
   exact z1a (fun _=>hK) (fun _=>z1a (fun _=>hK) (fun _=>ne_t (by omega) hK))
  ·rw [if_neg c] at hK
   exact z22 (by omega) (z22 (by omega) (ne_f (by omega) hK))
theorem sound_q168:z03 Tryz.prog tab n_q168 c_q168:=z01 ok_q168 hg_q168 (by
 intro vs bs p v bs' h hp
 unfold c_q168 at h
 split at h
 ·cases h
  exact ⟨by kernel_rfl,rfl,.inl (run_q168 _ _ _ _ _ _ _ _ _ _ ⟨rfl,rfl⟩)⟩
 ·cases h)

def c_q170:z00:=fun vs bs=>match vs,bs with
 | [.agg [.dat .int rv,.dat (.list .int) rk,.dat .int rt],.one (.dat .int units)],[]=>some (some (len rk*8≤140737488355328),.tup [.agg (cG (newG ⟨rv,rk,rt⟩ units).1),.one (dI (newG ⟨rv,rk,rt⟩ units).2)],[])
 | _,_=>none
def Γ_q170:Ctx:=[(n_q26,c_q26),(n_q63,c_q63),(n_q160,c_q160),(n_q168,c_q168)]
theorem ok_q170:Ok Tryz.prog tab Γ_q170:=((((ok_nil.c hg_q168 sound_q168).c hg_q160 sound_q160).c hg_q63 sound_q63).c hg_q26 sound_q26)
theorem q170_vc (rv:Int) (rk:List Int) (rt units:Int) (rec:RK) (K:KK) v0 (hv0:v0=z0a (zeros (Int.toNat ((2:Int)*(32:Int))) (65535:Int)) formatCh) v1 (hv1:v1=z0t ⟨⟨v0,(-1)⟩,true,⟨⟨rv,rk,rt⟩,0⟩,zeros (Int.toNat units) (Ty.dflt Ty.bool),zeros (Int.toNat units) (Ty.dflt Ty.bool)⟩) v2 (hv2:v2=K (.tup [.agg [dL [],dI (0:Int),dB false,dI (0:Int),dL [],dI (0:Int),dI (0:Int),dLb [],dLb []],.one (dI 3)]) []):segD Γ_q170 tab fn_q170 0 K rec [.code (z05 fn_q170)] (z07 [.agg [dI rv,dL rk,dI rt],.one (dI units)] [])=(
 br (lti units 1)
 v2
 (br (lti 4 units)
 v2
 (len rk*8≤140737488355328 ∧
 ((0:Int)≤units∧units*((1:Nat):Int)≤140737488355328∧units≤140737488355328) ∧
 ((0:Int)≤units∧units*((1:Nat):Int)≤140737488355328∧units≤140737488355328) ∧
 br (!(eqi v1 0))
 (K (.tup [.agg [dL [],dI (0:Int),dB false,dI (0:Int),dL [],dI (0:Int),dI (0:Int),dLb [],dLb []],.one (dI v1)]) [])
 (K (.tup [.agg [dL v0,dI (-1),dB true,dI rv,dL rk,dI rt,dI (0:Int),dLb (zeros (Int.toNat units) (Ty.dflt Ty.bool)),dLb (zeros (Int.toNat units) (Ty.dflt Ty.bool))],.one (dI 0)]) [])))):=by subst_vars; kernel_rfl

theorem run_q170 (hp:len rk*8≤140737488355328) (K:KK) (hK:K (.tup [.agg (cG (newG ⟨rv,rk,rt⟩ units).1),.one (dI (newG ⟨rv,rk,rt⟩ units).2)]) []):GD Γ_q170 fn_q170 0 K [.agg [dI rv,dL rk,dI rt],.one (dI units)] []:=by
 refine ⟨1,?_⟩
 rw [z02,q170_vc _ _ _ _ _ _ _ rfl _ rfl _ rfl]
 have e0:(formatF (newFlash 2).1).1=⟨z0a (zeros (Int.toNat ((2:Int)*(32:Int))) (65535:Int)) formatCh,-1⟩:=by kernel_rfl
 unfold newG madeG at hK
 rw [e0] at hK
 by_cases c:units<1∨4<units
 ·rw [if_pos c] at hK
  exact z1a (fun _=>hK) (fun _=>z2o (by omega) hK)
 rw [if_neg c] at hK
 refine z22 (by omega) (z22 (by omega) ⟨hp,⟨by omega,by omega,by omega⟩,⟨by omega,by omega,by omega⟩,z1c (fun h=>?_) (fun h=>?_)⟩)
 ·rw [if_neg (by exact h)] at hK; exact hK
 ·rw [if_pos (by exact h)] at hK; exact hK
theorem sound_q170:z03 Tryz.prog tab n_q170 c_q170:=z01 ok_q170 hg_q170 (by
 intro vs bs p v bs' h hp
 unfold c_q170 at h
 split at h
 ·cases h
  exact ⟨by kernel_rfl,rfl,.inl (run_q170 _ _ _ _ hp.1 _ ⟨rfl,rfl⟩)⟩
 ·cases h)

abbrev n_q222:Nat:=n_slices_Clone_Lstring
noncomputable abbrev fn_q222:Func:=fn_slices_Clone_Lstring
theorem hg_q222:FnOk Tryz.prog n_q222 fn_q222:=hg_slices_Clone_Lstring
def c_q222:z00:=fun vs bs=>match vs,bs with
 | [.one (.dat (.list .str) l)],[]=>some (some (len l*16≤140737488355328),.one (.dat (Ty.list Ty.str) l),[])
 | _,_=>none
def Γ_q222:Ctx:=[]
theorem ok_q222:Ok Tryz.prog tab Γ_q222:=ok_nil
theorem q222_vc (l:List (List UInt8)) (rec:RK) (K:KK):segD Γ_q222 tab fn_q222 0 K rec [.code (z05 fn_q222)] (z07 [.one (.dat (Ty.list Ty.str) l)] [])=(
 (∀ bn:Bool,(bn=true→len l=0)→br bn
 (K (.one (.dat (Ty.list Ty.str) [])) [])
 ((0+len l)*16≤140737488355328 ∧
 K (.one (.dat (Ty.list Ty.str) (cat [] l))) []))):=by kernel_rfl

theorem run_q222 (l:List (List UInt8)) (hp:len l*16≤140737488355328) (K:KK) (hK:K (.one (.dat (Ty.list Ty.str) l)) []):GD Γ_q222 fn_q222 0 K [.one (.dat (Ty.list Ty.str) l)] []:=by
 refine ⟨1,?_⟩
 rw [z02,q222_vc _ _ _]
 intro bn hb
 refine z0l (fun h=>?_) (fun h=>⟨by simp only [len] at hp ⊢; omega,hK⟩)
 have:l=[]:=List.length_eq_zero_iff.1 (hb h)
 subst this
 exact hK
theorem sound_q222:z03 Tryz.prog tab n_q222 c_q222:=z01 ok_q222 hg_q222 (by
 intro vs bs p v bs' h hp
 unfold c_q222 at h
 split at h
 ·cases h
  exact ⟨by kernel_rfl,rfl,.inl (run_q222 _ hp.1 _ ⟨rfl,rfl⟩)⟩
 ·cases h)

abbrev n_q223:Nat:=n_q121
noncomputable abbrev fn_q223:Func:=fn_q121
theorem hg_q223:FnOk Tryz.prog n_q223 fn_q223:=hg_q121
def c_q223:z00:=fun vs bs=>match vs,bs with
 | [.one (.dat (.list .signed) l)],[]=>some (some (len l*16≤140737488355328),.one (.dat (Ty.list Ty.signed) l),[])
 | _,_=>none
def Γ_q223:Ctx:=[]
theorem ok_q223:Ok Tryz.prog tab Γ_q223:=ok_nil
theorem q223_vc (l:List Signed) (rec:RK) (K:KK):segD Γ_q223 tab fn_q223 0 K rec [.code (z05 fn_q223)] (z07 [.one (.dat (Ty.list Ty.signed) l)] [])=(
 (∀ bn:Bool,(bn=true→len l=0)→br bn
 (K (.one (.dat (Ty.list Ty.signed) [])) [])
 ((0+len l)*16≤140737488355328 ∧
 K (.one (.dat (Ty.list Ty.signed) (cat [] l))) []))):=by kernel_rfl

theorem run_q223 (l:List Vm.Signed) (hp:len l*16≤140737488355328) (K:KK) (hK:K (.one (.dat (Ty.list Ty.signed) l)) []):GD Γ_q223 fn_q223 0 K [.one (.dat (Ty.list Ty.signed) l)] []:=by
 refine ⟨1,?_⟩
 rw [z02,q223_vc _ _ _]
 intro bn hb
 refine z0l (fun h=>?_) (fun h=>⟨by simp only [len] at hp ⊢; omega,hK⟩)
 have:l=[]:=List.length_eq_zero_iff.1 (hb h)
 subst this
 exact hK
theorem sound_q223:z03 Tryz.prog tab n_q223 c_q223:=z01 ok_q223 hg_q223 (by
 intro vs bs p v bs' h hp
 unfold c_q223 at h
 split at h
 ·cases h
  exact ⟨by kernel_rfl,rfl,.inl (run_q223 _ hp.1 _ ⟨rfl,rfl⟩)⟩
 ·cases h)

def c_q89:z00:=fun vs bs=>match vs,bs with
 | [.agg [.dat (.list .str) l],.one (.dat .str s)],[]=>some (some (l.length≤140737488355328),.tup [.one (dI (nameB l s).1),.one (dI (nameB l s).2)],[])
 | _,_=>none
def Γ_q89:Ctx:=[(n_q88,c_q88),(n_q86,c_q86)]
theorem ok_q89:Ok Tryz.prog tab Γ_q89:=((ok_nil.c hg_q86 sound_q86).c hg_q88 sound_q88)
theorem q89_vc (l:List (List UInt8)) (s:List UInt8) (rec:RK) (K:KK) v0 (hv0:v0=z0r l) v1 (hv1:v1=indexS s l):segD Γ_q89 tab fn_q89 0 K rec [.code (z05 fn_q89)] (z07 [.agg [.dat (Ty.list Ty.str) l],.one (.dat Ty.str s)] [])=(
 br (!(eqi v0 0))
 (K (.tup [.one (dI 0),.one (dI v0)]) [])
 (List.length l≤140737488355328 ∧
 K (.tup [.one (dI (w64 (v1+1))),.one (dI 0)]) [])):=by subst_vars; kernel_rfl

theorem run_q89 (l:List (List UInt8)) (hp:l.length≤140737488355328) (K:KK) (hK:K (.tup [.one (dI (nameB l s).1),.one (dI (nameB l s).2)]) []):GD Γ_q89 fn_q89 0 K [.agg [.dat (Ty.list Ty.str) l],.one (.dat .str s)] []:=by
 refine ⟨1,?_⟩
 rw [z02,q89_vc _ _ _ _ _ rfl _ rfl]
 unfold nameB at hK
 refine z1c (fun h=>?_) (fun h=>⟨hp,?_⟩)
 ·rw [if_neg h] at hK; exact hK
 ·rw [if_pos h] at hK
  have:=z2d s l 0 (by omega)
  rw [z0e (by unfold indexS; omega) (by unfold indexS; omega)]
  exact hK
theorem sound_q89:z03 Tryz.prog tab n_q89 c_q89:=z01 ok_q89 hg_q89 (by
 intro vs bs p v bs' h hp
 unfold c_q89 at h
 split at h
 ·cases h
  exact ⟨by kernel_rfl,rfl,.inl (run_q89 _ _ hp.1 _ ⟨rfl,rfl⟩)⟩
 ·cases h)

def c_q97:z00:=fun vs bs=>match vs,bs with
 | [.agg [.dat (.list .str) l],.one (.dat (.list .int) ws)],[]=>some (some (l.length≤140737488355328),.tup [.one (dI (z0m l ws).1),.one (dI (z0m l ws).2)],[])
 | _,_=>none
def Γ_q97:Ctx:=[(n_q96,c_q96),(n_q89,c_q89)]
theorem ok_q97:Ok Tryz.prog tab Γ_q97:=((ok_nil.c hg_q89 sound_q89).c hg_q96 sound_q96)
theorem q97_vc (l:List (List UInt8)) (ws:List Int) (rec:RK) (K:KK) v0 (hv0:v0=imageTextE ws) v1 (hv1:v1=nameB l v0.fst):segD Γ_q97 tab fn_q97 0 K rec [.code (z05 fn_q97)] (z07 [.agg [.dat (Ty.list Ty.str) l],.one (dL ws)] [])=(
 br (!(eqi v0.snd 0))
 (K (.tup [.one (dI 0),.one (dI v0.snd)]) [])
 (List.length l≤140737488355328 ∧
 K (.tup [.one (dI v1.fst),.one (dI v1.snd)]) [])):=by subst_vars; kernel_rfl

theorem run_q97 (l:List (List UInt8)) (hp:l.length≤140737488355328) (K:KK) (hK:K (.tup [.one (dI (z0m l ws).1),.one (dI (z0m l ws).2)]) []):GD Γ_q97 fn_q97 0 K [.agg [.dat (Ty.list Ty.str) l],.one (dL ws)] []:=by
 refine ⟨1,?_⟩
 rw [z02,q97_vc _ _ _ _ _ rfl _ rfl]
 unfold z0m at hK
 by_cases h:z0j ws=0
 ·rw [if_pos h] at hK
  rw [show imageTextE ws=(imageText ws,0) from if_pos h]
  exact ne_f rfl ⟨hp,hK⟩
 ·rw [if_neg h] at hK
  rw [show imageTextE ws=([],z0j ws) from if_neg h]
  exact ne_t h hK
theorem sound_q97:z03 Tryz.prog tab n_q97 c_q97:=z01 ok_q97 hg_q97 (by
 intro vs bs p v bs' h hp
 unfold c_q97 at h
 split at h
 ·cases h
  exact ⟨by kernel_rfl,rfl,.inl (run_q97 _ _ hp.1 _ ⟨rfl,rfl⟩)⟩
 ·cases h)

def c_q42:z00:=fun vs bs=>match vs,bs with
 | [.agg [.dat (.list .int) ws,.dat .int fu],.one (.dat .int slot)],[]=>some (none,.one (dI (z0g ⟨ws,fu⟩ slot)),[])
 | _,_=>none
def Γ_q42:Ctx:=[(n_q6,c_q6)]
theorem ok_q42:Ok Tryz.prog tab Γ_q42:=(ok_nil.c hg_q6 sound_q6)
theorem q42_vc (ws:List Int) (fu slot:Int) (rec:RK) (K:KK) v0 (hv0:v0=z0b (⟨ws,fu⟩:Flash)):segD Γ_q42 tab fn_q42 0 K rec [.code (z05 fn_q42)] (z07 [.agg [dL ws,dI fu],.one (dI slot)] [])=(
 br (!(eqi v0 0))
 (K (.one (dI v0)) [])
 (br (!(eqi (len ws:Int) 192))
 (K (.one (dI 4)) [])
 (br (!(eqi slot 0))
 (br (!(eqi slot 1))
 (K (.one (dI 5)) [])
 (K (.one (dI 0)) []))
 (K (.one (dI 0)) [])))):=by subst_vars; kernel_rfl

theorem run_q42 (K:KK) (hK:K (.one (dI (z0g ⟨ws,fu⟩ slot))) []):GD Γ_q42 fn_q42 0 K [.agg [dL ws,dI fu],.one (dI slot)] []:=by
 refine ⟨1,?_⟩
 rw [z02,q42_vc _ _ _ _ _ _ rfl]
 unfold z0g at hK
 refine z1c (fun h=>?_) (fun h=>?_)
 ·rw [if_neg h] at hK; exact hK
 rw [if_pos h] at hK
 refine z1c (fun h2=>?_) (fun h2=>?_)
 ·rw [if_neg (by simp only [len] at h2 ⊢; omega)] at hK; exact hK
 rw [if_pos (by simp only [len] at h2 ⊢; omega)] at hK
 refine z1c (fun h3=>z1c (fun h4=>?_) (fun h4=>?_)) (fun h3=>?_)
 ·rw [if_neg (by omega)] at hK; exact hK
 ·rw [if_pos (by omega)] at hK; exact hK
 ·rw [if_pos (by omega)] at hK; exact hK
theorem sound_q42:z03 Tryz.prog tab n_q42 c_q42:=z01 ok_q42 hg_q42 (by
 intro vs bs p v bs' h hp
 unfold c_q42 at h
 split at h
 ·cases h
  exact ⟨by kernel_rfl,rfl,.inl (run_q42 _ _ _ _ ⟨rfl,rfl⟩)⟩
 ·cases h)

def c_q41:z00:=fun vs bs=>match vs,bs with
 | [.one (.dat .int slot)],[]=>some (some (0≤slot∧slot≤1),.one (dI (64+64*slot)),[])
 | _,_=>none
def Γ_q41:Ctx:=[]
theorem ok_q41:Ok Tryz.prog tab Γ_q41:=ok_nil
theorem q41_vc (slot:Int) (rec:RK) (K:KK):segD Γ_q41 tab fn_q41 0 K rec [.code (z05 fn_q41)] (z07 [.one (dI slot)] [])=(
 K (.one (dI (w64 (w64 ((2:Int)+w64 ((2:Int)*slot))*32)))) []):=by kernel_rfl

theorem run_q41 (hp:0≤slot∧slot≤1) (K:KK) (hK:K (.one (dI (64+64*slot))) []):GD Γ_q41 fn_q41 0 K [.one (dI slot)] []:=by
 refine ⟨1,?_⟩
 rw [z02,q41_vc _ _ _]
 rw [z0e (n:=2*slot) (by omega) (by omega),z0e (n:=2+2*slot) (by omega) (by omega),z0e (by omega) (by omega),show (2+2*slot)*32=64+64*slot by omega]
 exact hK
theorem sound_q41:z03 Tryz.prog tab n_q41 c_q41:=z01 ok_q41 hg_q41 (by
 intro vs bs p v bs' h hp
 unfold c_q41 at h
 split at h
 ·cases h
  exact ⟨by kernel_rfl,rfl,.inl (run_q41 _ hp.1 _ ⟨rfl,rfl⟩)⟩
 ·cases h)

def c_q11:z00:=fun vs bs=>match vs,bs with
 | [.one (.dat .int w)],[]=>some (none,.one (dB (!okWord w)),[])
 | _,_=>none
def Γ_q11:Ctx:=[]
theorem ok_q11:Ok Tryz.prog tab Γ_q11:=ok_nil
theorem q11_vc (w:Int) (rec:RK) (K:KK):segD Γ_q11 tab fn_q11 0 K rec [.code (z05 fn_q11)] (z07 [.one (dI w)] [])=(
 br (lti w 0)
 (K vT [])
 (K (.one (dB (lti 65535 w))) [])):=by kernel_rfl

theorem run_q11 (K:KK) (hK:K (.one (dB (!okWord w))) []):GD Γ_q11 fn_q11 0 K [.one (dI w)] []:=by
 refine ⟨1,?_⟩
 rw [z02,q11_vc _ _ _]
 refine z1a (fun h=>?_) (fun h=>?_)
 ·rw [show (!okWord w)=true from by simp [okWord]; omega] at hK; exact hK
 ·rw [show (!okWord w)=lti 65535 w from by simp [okWord,lti,h]; by_cases h2:w≤65535<;>simp [h2]<;>omega] at hK; exact hK
theorem sound_q11:z03 Tryz.prog tab n_q11 c_q11:=z01 ok_q11 hg_q11 (by
 intro vs bs p v bs' h hp
 unfold c_q11 at h
 split at h
 ·cases h
  exact ⟨by kernel_rfl,rfl,.inl (run_q11 _ _ ⟨rfl,rfl⟩)⟩
 ·cases h)

def c_q12:z00:=fun vs bs=>match vs,bs with
 | [.one (.dat .int w)],[]=>some (none,.one (dB (okWord w)),[])
 | _,_=>none
def Γ_q12:Ctx:=[]
theorem ok_q12:Ok Tryz.prog tab Γ_q12:=ok_nil
theorem q12_vc (w:Int) (rec:RK) (K:KK):segD Γ_q12 tab fn_q12 0 K rec [.code (z05 fn_q12)] (z07 [.one (dI w)] [])=(
 br (lei 0 w)
 (K (.one (dB (lei w 65535))) [])
 (K vF [])):=by kernel_rfl

theorem run_q12 (K:KK) (hK:K (.one (dB (okWord w))) []):GD Γ_q12 fn_q12 0 K [.one (dI w)] []:=by
 refine ⟨1,?_⟩
 rw [z02,q12_vc _ _ _]
 refine z0l (fun h=>?_) (fun h=>?_)
 ·rw [show okWord w=lei w 65535 from by rw [z1u] at h; simp [okWord,lei,h]] at hK; exact hK
 ·rw [show okWord w=false from by rw [z11] at h; simp [okWord]; omega] at hK; exact hK
theorem sound_q12:z03 Tryz.prog tab n_q12 c_q12:=z01 ok_q12 hg_q12 (by
 intro vs bs p v bs' h hp
 unfold c_q12 at h
 split at h
 ·cases h
  exact ⟨by kernel_rfl,rfl,.inl (run_q12 _ _ ⟨rfl,rfl⟩)⟩
 ·cases h)

def c_q13:z00:=fun vs bs=>match vs,bs with
 | [.one (.dat .int w)],[]=>some (none,.one (dB (!okWord w)),[])
 | _,_=>none
def Γ_q13:Ctx:=[(n_q12,c_q12)]
theorem ok_q13:Ok Tryz.prog tab Γ_q13:=(ok_nil.c hg_q12 sound_q12)
theorem q13_vc (w:Int) (rec:RK) (K:KK) v0 (hv0:v0=okWord w):segD Γ_q13 tab fn_q13 0 K rec [.code (z05 fn_q13)] (z07 [.one (dI w)] [])=(
 K (.one (dB (!v0))) []):=by subst_vars; kernel_rfl

theorem run_q13 (K:KK) (hK:K (.one (dB (!okWord w))) []):GD Γ_q13 fn_q13 0 K [.one (dI w)] []:=by
 refine ⟨1,?_⟩
 rw [z02,q13_vc _ _ _ _ rfl]
 exact hK
theorem sound_q13:z03 Tryz.prog tab n_q13 c_q13:=z01 ok_q13 hg_q13 (by
 intro vs bs p v bs' h hp
 unfold c_q13 at h
 split at h
 ·cases h
  exact ⟨by kernel_rfl,rfl,.inl (run_q13 _ _ ⟨rfl,rfl⟩)⟩
 ·cases h)

def c_q144:z00:=fun vs bs=>match vs,bs with
 | [.one (.dat .int w)],[]=>some (none,.one (dB (!okWord w)),[])
 | _,_=>none
def Γ_q144:Ctx:=[]
theorem ok_q144:Ok Tryz.prog tab Γ_q144:=ok_nil
theorem q144_vc (w:Int) (rec:RK) (K:KK):segD Γ_q144 tab fn_q144 0 K rec [.code (z05 fn_q144)] (z07 [.one (dI w)] [])=(
 br (lti w 0)
 (K vT [])
 (K (.one (dB (lti 65535 w))) [])):=by kernel_rfl

theorem run_q144 (K:KK) (hK:K (.one (dB (!okWord w))) []):GD Γ_q144 fn_q144 0 K [.one (dI w)] []:=by
 refine ⟨1,?_⟩
 rw [z02,q144_vc _ _ _]
 refine z1a (fun h=>?_) (fun h=>?_)
 ·rw [show (!okWord w)=true from by simp [okWord]; omega] at hK; exact hK
 ·rw [show (!okWord w)=lti 65535 w from by simp [okWord,lti,h]; by_cases h2:w≤65535<;>simp [h2]<;>omega] at hK; exact hK
theorem sound_q144:z03 Tryz.prog tab n_q144 c_q144:=z01 ok_q144 hg_q144 (by
 intro vs bs p v bs' h hp
 unfold c_q144 at h
 split at h
 ·cases h
  exact ⟨by kernel_rfl,rfl,.inl (run_q144 _ _ ⟨rfl,rfl⟩)⟩
 ·cases h)

def c_q15:z00:=fun vs bs=>match vs,bs with
 | [.one (.dat (.list .int) l),.one (.fn f [])],[]=>(match Nat.beq f n_q11 with | true=>some (some (Sm l),.one (dI (firstBad l)),[]) | false=>(match Nat.beq f n_q13 with | true=>some (some (Sm l),.one (dI (firstBad l)),[]) | false=>(match Nat.beq f n_q144 with | true=>some (some (Sm l),.one (dI (firstBad l)),[]) | false=>none)))
 | _,_=>none
def Γ_q15:Ctx:=[(n_q11,c_q11),(n_q13,c_q13),(n_q144,c_q144)]
theorem ok_q15:Ok Tryz.prog tab Γ_q15:=(((ok_nil.c hg_q144 sound_q144).c hg_q13 sound_q13).c hg_q11 sound_q11)
noncomputable def q15_0_L0:List It:=[.inLoop [8,7,4,0,1] (cSub fn_q15 [1,0,1,0,0]),.inBlock 0,.code (cSub fn_q15 [1,1])]
def q15_0_S0 (x0 x1 x2:Int) (x3:List Int):St:=⟨[(8,.one (dI x0)),(7,.one (dI x1)),(4,.one (dI x2)),(0,.one (dL x3)),(1,.one (.fn n_q11 []))],[],0⟩
theorem q15_0_vc (l:List Int) (rec:RK) (K:KK):segD Γ_q15 tab fn_q15 0 K rec [.code (z05 fn_q15)] (z07 [.one (dL l),.one (.fn n_q11 [])] [])=(
 rec q15_0_L0 (q15_0_S0 0 (len l:Int) 0 l)):=by kernel_rfl
theorem zee (x0 x1 x2:Int) (x3:List Int) (rec:RK) (K:KK) v0 (hv0:v0=okWord (nth x3 (Int.toNat x0) (Ty.dflt Ty.int))):segD Γ_q15 tab fn_q15 0 K rec (ent q15_0_L0) (q15_0_S0 x0 x1 x2 x3)=(
 br (lti x0 x1)
 (((0:Int)≤x0∧x0<(len x3:Int)) ∧
 br (!v0)
 (K (.one (dI x0)) [])
 (rec q15_0_L0 (q15_0_S0 (w64 (x0+1)) x1 x2 x3)))
 (K (.one (dI (-1))) [])):=by subst_vars; kernel_rfl

noncomputable def q15_1_L0:List It:=[.inLoop [8,7,4,0,1] (cSub fn_q15 [1,0,1,0,0]),.inBlock 0,.code (cSub fn_q15 [1,1])]
def q15_1_S0 (x0 x1 x2:Int) (x3:List Int):St:=⟨[(8,.one (dI x0)),(7,.one (dI x1)),(4,.one (dI x2)),(0,.one (dL x3)),(1,.one (.fn n_q13 []))],[],0⟩
theorem q15_1_vc (l:List Int) (rec:RK) (K:KK):segD Γ_q15 tab fn_q15 0 K rec [.code (z05 fn_q15)] (z07 [.one (dL l),.one (.fn n_q13 [])] [])=(
 rec q15_1_L0 (q15_1_S0 0 (len l:Int) 0 l)):=by kernel_rfl
theorem zgh (x0 x1 x2:Int) (x3:List Int) (rec:RK) (K:KK) v0 (hv0:v0=okWord (nth x3 (Int.toNat x0) (Ty.dflt Ty.int))):segD Γ_q15 tab fn_q15 0 K rec (ent q15_1_L0) (q15_1_S0 x0 x1 x2 x3)=(
 br (lti x0 x1)
 (((0:Int)≤x0∧x0<(len x3:Int)) ∧
 br (!v0)
 (K (.one (dI x0)) [])
 (rec q15_1_L0 (q15_1_S0 (w64 (x0+1)) x1 x2 x3)))
 (K (.one (dI (-1))) [])):=by subst_vars; kernel_rfl

noncomputable def q15_2_L0:List It:=[.inLoop [8,7,4,0,1] (cSub fn_q15 [1,0,1,0,0]),.inBlock 0,.code (cSub fn_q15 [1,1])]
def q15_2_S0 (x0 x1 x2:Int) (x3:List Int):St:=⟨[(8,.one (dI x0)),(7,.one (dI x1)),(4,.one (dI x2)),(0,.one (dL x3)),(1,.one (.fn n_q144 []))],[],0⟩
theorem q15_2_vc (l:List Int) (rec:RK) (K:KK):segD Γ_q15 tab fn_q15 0 K rec [.code (z05 fn_q15)] (z07 [.one (dL l),.one (.fn n_q144 [])] [])=(
 rec q15_2_L0 (q15_2_S0 0 (len l:Int) 0 l)):=by kernel_rfl
theorem zg7 (x0 x1 x2:Int) (x3:List Int) (rec:RK) (K:KK) v0 (hv0:v0=okWord (nth x3 (Int.toNat x0) (Ty.dflt Ty.int))):segD Γ_q15 tab fn_q15 0 K rec (ent q15_2_L0) (q15_2_S0 x0 x1 x2 x3)=(
 br (lti x0 x1)
 (((0:Int)≤x0∧x0<(len x3:Int)) ∧
 br (!v0)
 (K (.one (dI x0)) [])
 (rec q15_2_L0 (q15_2_S0 (w64 (x0+1)) x1 x2 x3)))
 (K (.one (dI (-1))) [])):=by subst_vars; kernel_rfl

theorem zca (l:List Int) (hs:Sm l) (K:KK):∀ (d k:Nat),k+d=l.length→K (.one (dI (firstBadFrom k (l.drop k)))) [] →
  goD Γ_q15 tab fn_q15 0 K (d+1) q15_0_L0 (q15_0_S0 (k:Int) (((len l):Nat):Int) 0 l)
 | 0,k,hk,hK=>by
  rw [z09 (L:=q15_0_L0),zee _ _ _ _ _ _ _ rfl]
  refine z22 (by simp only [len]; omega) ?_
  rw [List.drop_of_length_le (by omega)] at hK
  exact hK
 | d+1,k,hk,hK=>by
  have hs':=hs
  unfold Sm at hs'
  rw [z09 (L:=q15_0_L0),zee _ _ _ _ _ _ _ rfl]
  rw [z0q (by omega) (Ty.dflt Ty.int)] at hK
  simp only [firstBadFrom] at hK
  refine z2o (by simp only [len]; omega) ⟨⟨by omega,by simp only [len]; omega⟩,z4n (fun h=>?_) (fun h=>?_)⟩
  ·rw [z08] at h
   rw [if_neg (by rw [h]; simp)] at hK
   exact hK
  ·rw [z08] at h
   rw [if_pos h] at hK
   rw [z0f (by omega)]
   exact zca l hs K d (k+1) (by omega) hK
theorem run_q15_0 (hp:Sm l) (K:KK) (hK:K (.one (dI (firstBad l))) []):GD Γ_q15 fn_q15 0 K [.one (dL l),.one (.fn n_q11 [])] []:=by
 refine ⟨l.length+2,?_⟩
 rw [z02,q15_0_vc _ _ _]
 exact zca l hp K l.length 0 (by omega) hK
theorem zcz (l:List Int) (hs:Sm l) (K:KK):∀ (d k:Nat),k+d=l.length→K (.one (dI (firstBadFrom k (l.drop k)))) [] →
  goD Γ_q15 tab fn_q15 0 K (d+1) q15_1_L0 (q15_1_S0 (k:Int) (((len l):Nat):Int) 0 l)
 | 0,k,hk,hK=>by
  rw [z09 (L:=q15_1_L0),zgh _ _ _ _ _ _ _ rfl]
  refine z22 (by simp only [len]; omega) ?_
  rw [List.drop_of_length_le (by omega)] at hK
  exact hK
 | d+1,k,hk,hK=>by
  have hs':=hs
  unfold Sm at hs'
  rw [z09 (L:=q15_1_L0),zgh _ _ _ _ _ _ _ rfl]
  rw [z0q (by omega) (Ty.dflt Ty.int)] at hK
  simp only [firstBadFrom] at hK
  refine z2o (by simp only [len]; omega) ⟨⟨by omega,by simp only [len]; omega⟩,z4n (fun h=>?_) (fun h=>?_)⟩
  ·rw [z08] at h
   rw [if_neg (by rw [h]; simp)] at hK
   exact hK
  ·rw [z08] at h
   rw [if_pos h] at hK
   rw [z0f (by omega)]
   exact zcz l hs K d (k+1) (by omega) hK
theorem run_q15_1 (hp:Sm l) (K:KK) (hK:K (.one (dI (firstBad l))) []):GD Γ_q15 fn_q15 0 K [.one (dL l),.one (.fn n_q13 [])] []:=by
 refine ⟨l.length+2,?_⟩
 rw [z02,q15_1_vc _ _ _]
 exact zcz l hp K l.length 0 (by omega) hK
theorem zcp (l:List Int) (hs:Sm l) (K:KK):∀ (d k:Nat),k+d=l.length→K (.one (dI (firstBadFrom k (l.drop k)))) [] →
  goD Γ_q15 tab fn_q15 0 K (d+1) q15_2_L0 (q15_2_S0 (k:Int) (((len l):Nat):Int) 0 l)
 | 0,k,hk,hK=>by
  rw [z09 (L:=q15_2_L0),zg7 _ _ _ _ _ _ _ rfl]
  refine z22 (by simp only [len]; omega) ?_
  rw [List.drop_of_length_le (by omega)] at hK
  exact hK
 | d+1,k,hk,hK=>by
  have hs':=hs
  unfold Sm at hs'
  rw [z09 (L:=q15_2_L0),zg7 _ _ _ _ _ _ _ rfl]
  rw [z0q (by omega) (Ty.dflt Ty.int)] at hK
  simp only [firstBadFrom] at hK
  refine z2o (by simp only [len]; omega) ⟨⟨by omega,by simp only [len]; omega⟩,z4n (fun h=>?_) (fun h=>?_)⟩
  ·rw [z08] at h
   rw [if_neg (by rw [h]; simp)] at hK
   exact hK
  ·rw [z08] at h
   rw [if_pos h] at hK
   rw [z0f (by omega)]
   exact zcp l hs K d (k+1) (by omega) hK
theorem run_q15_2 (hp:Sm l) (K:KK) (hK:K (.one (dI (firstBad l))) []):GD Γ_q15 fn_q15 0 K [.one (dL l),.one (.fn n_q144 [])] []:=by
 refine ⟨l.length+2,?_⟩
 rw [z02,q15_2_vc _ _ _]
 exact zcp l hp K l.length 0 (by omega) hK
theorem sound_q15:z03 Tryz.prog tab n_q15 c_q15:=z01 ok_q15 hg_q15 (by
 intro vs bs p v bs' h hp
 unfold c_q15 at h
 split at h
 ·split at h
  ·rename_i hfn
   have hfn:=Nat.eq_of_beq_eq_true hfn
   subst hfn
   cases h
   exact ⟨by kernel_rfl,rfl,.inl (run_q15_0 _ hp.1 _ ⟨rfl,rfl⟩)⟩
  ·split at h
   ·rename_i hfn
    have hfn:=Nat.eq_of_beq_eq_true hfn
    subst hfn
    cases h
    exact ⟨by kernel_rfl,rfl,.inl (run_q15_1 _ hp.1 _ ⟨rfl,rfl⟩)⟩
   ·split at h
    ·rename_i hfn
     have hfn:=Nat.eq_of_beq_eq_true hfn
     subst hfn
     cases h
     exact ⟨by kernel_rfl,rfl,.inl (run_q15_2 _ hp.1 _ ⟨rfl,rfl⟩)⟩
    ·cases h
 ·cases h)

def c_q17:z00:=fun vs bs=>match vs,bs with
 | [.one (.dat (.list .int) l),.one (.fn f [])],[]=>(match Nat.beq f n_q11 with | true=>some (some (Sm l),.one (dB (!z04 l)),[]) | false=>(match Nat.beq f n_q13 with | true=>some (some (Sm l),.one (dB (!z04 l)),[]) | false=>(match Nat.beq f n_q144 with | true=>some (some (Sm l),.one (dB (!z04 l)),[]) | false=>none)))
 | _,_=>none
def Γ_q17:Ctx:=[(n_q15,c_q15),(n_q11,c_q11),(n_q13,c_q13),(n_q144,c_q144)]
theorem ok_q17:Ok Tryz.prog tab Γ_q17:=((((ok_nil.c hg_q144 sound_q144).c hg_q13 sound_q13).c hg_q11 sound_q11).c hg_q15 sound_q15)
theorem q17_0_vc (l:List Int) (rec:RK) (K:KK) v0 (hv0:v0=firstBad l):segD Γ_q17 tab fn_q17 0 K rec [.code (z05 fn_q17)] (z07 [.one (dL l),.one (.fn n_q11 [])] [])=(
 List.length l≤140737488355328 ∧
 K (.one (dB (lei 0 v0))) []):=by subst_vars; kernel_rfl

theorem q17_1_vc (l:List Int) (rec:RK) (K:KK) v0 (hv0:v0=firstBad l):segD Γ_q17 tab fn_q17 0 K rec [.code (z05 fn_q17)] (z07 [.one (dL l),.one (.fn n_q13 [])] [])=(
 List.length l≤140737488355328 ∧
 K (.one (dB (lei 0 v0))) []):=by subst_vars; kernel_rfl

theorem q17_2_vc (l:List Int) (rec:RK) (K:KK) v0 (hv0:v0=firstBad l):segD Γ_q17 tab fn_q17 0 K rec [.code (z05 fn_q17)] (z07 [.one (dL l),.one (.fn n_q144 [])] [])=(
 List.length l≤140737488355328 ∧
 K (.one (dB (lei 0 v0))) []):=by subst_vars; kernel_rfl

theorem z15:∀ (l:List Int) (k:Int),0≤k→lei 0 (firstBadFrom k l)=!z04 l
 | [],k,hk=>by simp [firstBadFrom,z04,lei]
 | w::l,k,hk=>by
  simp only [firstBadFrom,z04,List.all_cons]
  cases h:okWord w with
  | true=>simpa [z04] using z15 l (k+1) (by omega)
  | false=>simp [lei,hk]
theorem run_q17_0 (hp:Sm l) (K:KK) (hK:K (.one (dB (!z04 l))) []):GD Γ_q17 fn_q17 0 K [.one (dL l),.one (.fn n_q11 [])] []:=by
 refine ⟨1,?_⟩
 rw [z02,q17_0_vc _ _ _ _ rfl]
 refine ⟨hp,?_⟩
 rw [show lei 0 (firstBad l)=!z04 l from z15 l 0 (by omega)]
 exact hK
theorem run_q17_1 (hp:Sm l) (K:KK) (hK:K (.one (dB (!z04 l))) []):GD Γ_q17 fn_q17 0 K [.one (dL l),.one (.fn n_q13 [])] []:=by
 refine ⟨1,?_⟩
 rw [z02,q17_1_vc _ _ _ _ rfl]
 refine ⟨hp,?_⟩
 rw [show lei 0 (firstBad l)=!z04 l from z15 l 0 (by omega)]
 exact hK
theorem run_q17_2 (hp:Sm l) (K:KK) (hK:K (.one (dB (!z04 l))) []):GD Γ_q17 fn_q17 0 K [.one (dL l),.one (.fn n_q144 [])] []:=by
 refine ⟨1,?_⟩
 rw [z02,q17_2_vc _ _ _ _ rfl]
 refine ⟨hp,?_⟩
 rw [show lei 0 (firstBad l)=!z04 l from z15 l 0 (by omega)]
 exact hK
theorem sound_q17:z03 Tryz.prog tab n_q17 c_q17:=z01 ok_q17 hg_q17 (by
 intro vs bs p v bs' h hp
 unfold c_q17 at h
 split at h
 ·split at h
  ·rename_i hfn
   have hfn:=Nat.eq_of_beq_eq_true hfn
   subst hfn
   cases h
   exact ⟨by kernel_rfl,rfl,.inl (run_q17_0 _ hp.1 _ ⟨rfl,rfl⟩)⟩
  ·split at h
   ·rename_i hfn
    have hfn:=Nat.eq_of_beq_eq_true hfn
    subst hfn
    cases h
    exact ⟨by kernel_rfl,rfl,.inl (run_q17_1 _ hp.1 _ ⟨rfl,rfl⟩)⟩
   ·split at h
    ·rename_i hfn
     have hfn:=Nat.eq_of_beq_eq_true hfn
     subst hfn
     cases h
     exact ⟨by kernel_rfl,rfl,.inl (run_q17_2 _ hp.1 _ ⟨rfl,rfl⟩)⟩
    ·cases h
 ·cases h)

def c_q21:z00:=fun vs bs=>match vs,bs with
 | [.agg [.dat (.list .int) ws,.dat .int fu],.one (.dat .int at_),.one (.dat (.list .int) l)],[]=>some (some (Sm l),.tup [.agg [dL (programF ⟨ws,fu⟩ at_ l).1.words,dI (programF ⟨ws,fu⟩ at_ l).1.fuel],.one (dI (programF ⟨ws,fu⟩ at_ l).2)],[])
 | _,_=>none
def Γ_q21:Ctx:=[(n_q6,c_q6),(n_q17,c_q17),(n_q7,c_q7),(n_q10,(orC c_q10 c_q9))]
theorem ok_q21:Ok Tryz.prog tab Γ_q21:=((((ok_nil.c hg_q10 (zc2 sound_q10 sound_q9)).c hg_q7 sound_q7).c hg_q17 sound_q17).c hg_q6 sound_q6)
theorem q21_vc (ws:List Int) (fu at_:Int) (l:List Int) (rec:RK) (K:KK) v0 (hv0:v0=z0b ⟨ws,fu⟩) v1 (hv1:v1=z04 l) v2 (hv2:v2=z0c at_ l) v3 (hv3:v3=doCh ⟨ws,fu⟩ v2) v4 (hv4:v4=K (.tup [.agg [dL [],dI (0:Int)],.one (dI 5)]) []):segD Γ_q21 tab fn_q21 0 K rec [.code (z05 fn_q21)] (z07 [.agg [dL ws,dI fu],.one (dI at_),.one (dL l)] [])=(
 br (!(eqi v0 0))
 (K (.tup [.agg [dL [],dI (0:Int)],.one (dI v0)]) [])
 (br (lti at_ 0)
 v4
 (br (lti (len ws:Int) at_)
 v4
 (br (lti (w64 ((len ws:Int)-at_)) (len l:Int))
 v4
 (List.length l≤140737488355328 ∧
 br (!v1)
 (K (.tup [.agg [dL [],dI (0:Int)],.one (dI 3)]) [])
 (len ws*8≤140737488355328 ∧
 ((-1)≤fu∧fu≤100000∧(0:Int)≤at_∧at_+(len l:Int)≤(len ws:Int)∧len ws≤192) ∧
 br (!v3.snd)
 (K (.tup [.agg [dL v3.fst.words,dI v3.fst.fuel],.one (dI 7)]) [])
 (K (.tup [.agg [dL v3.fst.words,dI v3.fst.fuel],.one (dI 0)]) []))))))):=by subst_vars; kernel_rfl

theorem run_q21 (hp:Sm l) (K:KK) (hK:K (.tup [.agg [dL (programF ⟨ws,fu⟩ at_ l).1.words,dI (programF ⟨ws,fu⟩ at_ l).1.fuel],.one (dI (programF ⟨ws,fu⟩ at_ l).2)]) []):GD Γ_q21 fn_q21 0 K [.agg [dL ws,dI fu],.one (dI at_),.one (dL l)] []:=by
 refine ⟨1,?_⟩
 rw [z02,q21_vc _ _ _ _ _ _ _ rfl _ rfl _ rfl _ rfl _ rfl]
 unfold programF at hK
 refine z1c (fun h=>?_) (fun h=>?_)
 ·rw [if_neg h] at hK; exact hK
 rw [if_pos h] at hK
 obtain ⟨c1,c2,c3,c4⟩:=z10 h
 obtain ⟨c5,c6⟩:=z6f c1
 simp only at c2 c3 c5 c6
 have five:¬ (0≤at_∧at_≤(ws.length:Int)∧(l.length:Int)≤ws.length-at_)→K (.tup [.agg [dL [],dI 0],.one (dI 5)]) []:=fun hn=>by
  rw [if_neg hn] at hK; exact hK
 simp only [len]
 refine z1a (fun h1=>five (by omega)) (fun h1=>z1a (fun h2=>five (by omega)) (fun h2=>?_))
 rw [z0e (by omega) (by omega)]
 refine z1a (fun h3=>five (by omega)) (fun h3=>⟨hp,z4n (fun h4=>?_) (fun h4=>?_)⟩)
 ·rw [if_pos ⟨h1,h2,h3⟩,if_neg (by rw [h4]; simp)] at hK; exact hK
 ·rw [if_pos ⟨h1,h2,h3⟩,if_pos h4] at hK
  refine ⟨by omega,⟨c2,c3,h1,by omega,by omega⟩,z4n (fun h5=>?_) (fun h5=>?_)⟩
  ·simp only [power,powerE,h5] at hK; exact hK
  ·simp only [power,powerE,h5] at hK; exact hK
theorem sound_q21:z03 Tryz.prog tab n_q21 c_q21:=z01 ok_q21 hg_q21 (by
 intro vs bs p v bs' h hp
 unfold c_q21 at h
 split at h
 ·cases h
  exact ⟨by kernel_rfl,rfl,.inl (run_q21 _ _ _ _ hp.1 _ ⟨rfl,rfl⟩)⟩
 ·cases h)

def c_q44:z00:=fun vs bs=>match vs,bs with
 | [.agg [.dat (.list .int) ws,.dat .int fu],.one (.dat .int slot),.one (.dat .int at_),.one (.dat (.list .int) l)],[]=>some (some (Sm l),.tup [.agg [dL (fillS ⟨ws,fu⟩ slot at_ l).1.words,dI (fillS ⟨ws,fu⟩ slot at_ l).1.fuel],.one (dI (fillS ⟨ws,fu⟩ slot at_ l).2)],[])
 | _,_=>none
def Γ_q44:Ctx:=[(n_q42,c_q42),(n_q41,c_q41),(n_q21,c_q21)]
theorem ok_q44:Ok Tryz.prog tab Γ_q44:=(((ok_nil.c hg_q21 sound_q21).c hg_q41 sound_q41).c hg_q42 sound_q42)
theorem q44_vc (ws:List Int) (fu slot at_:Int) (l:List Int) (rec:RK) (K:KK) v0 (hv0:v0=z0g (⟨ws,fu⟩:Flash) slot) v1 (hv1:v1=programF (⟨ws,fu⟩:Flash) (w64 (w64 ((64:Int)+(64:Int)*slot+4)+at_)) l) v2 (hv2:v2=K (.tup [.agg [dL [],dI (0:Int)],.one (dI 2)]) []):segD Γ_q44 tab fn_q44 0 K rec [.code (z05 fn_q44)] (z07 [.agg [dL ws,dI fu],.one (dI slot),.one (dI at_),.one (dL l)] [])=(
 br (!(eqi v0 0))
 (K (.tup [.agg [dL [],dI (0:Int)],.one (dI v0)]) [])
 (br (lti at_ 0)
 v2
 (br (lti 40 at_)
 v2
 (br (lti (w64 ((40:Int)-at_)) (len l:Int))
 v2
 (((0:Int)≤slot∧slot≤1) ∧
 List.length l≤140737488355328 ∧
 K (.tup [.agg [dL v1.fst.words,dI v1.fst.fuel],.one (dI v1.snd)]) []))))):=by subst_vars; kernel_rfl

theorem run_q44 (hp:Sm l) (K:KK) (hK:K (.tup [.agg [dL (fillS ⟨ws,fu⟩ slot at_ l).1.words,dI (fillS ⟨ws,fu⟩ slot at_ l).1.fuel],.one (dI (fillS ⟨ws,fu⟩ slot at_ l).2)]) []):GD Γ_q44 fn_q44 0 K [.agg [dL ws,dI fu],.one (dI slot),.one (dI at_),.one (dL l)] []:=by
 refine ⟨1,?_⟩
 rw [z02,q44_vc _ _ _ _ _ _ _ _ rfl _ rfl _ rfl]
 unfold fillS at hK
 refine z1c (fun h=>?_) (fun h=>?_)
 ·rw [if_neg h] at hK; exact hK
 rw [if_pos h] at hK
 obtain ⟨h1,h2,h3⟩:=z3h h
 simp only [len]
 refine z1a (fun h4=>?_) (fun h4=>z1a (fun h5=>?_) (fun h5=>?_))
 ·rw [if_neg (by omega)] at hK; exact hK
 ·rw [if_neg (by omega)] at hK; exact hK
 rw [z0e (n:=40-at_) (by omega) (by omega)]
 refine z1a (fun h6=>?_) (fun h6=>?_)
 ·rw [if_neg (by omega)] at hK; exact hK
 rw [z0e (n:=64+64*slot+4) (by omega) (by omega),z0e (by omega) (by omega),show 64+64*slot+4+at_=68+64*slot+at_ by omega]
 rw [if_pos (by omega)] at hK
 exact ⟨by omega,hp,hK⟩
theorem sound_q44:z03 Tryz.prog tab n_q44 c_q44:=z01 ok_q44 hg_q44 (by
 intro vs bs p v bs' h hp
 unfold c_q44 at h
 split at h
 ·cases h
  exact ⟨by kernel_rfl,rfl,.inl (run_q44 _ _ _ _ _ hp.1 _ ⟨rfl,rfl⟩)⟩
 ·cases h)

def c_q46:z00:=fun vs bs=>match vs,bs with
 | [.agg [.dat (.list .int) ws,.dat .int fu],.one (.dat .int slot),.one (.dat .int long),.one (.dat .int name)],[]=>some (none,.tup [.agg [dL (sealS ⟨ws,fu⟩ slot long name).1.words,dI (sealS ⟨ws,fu⟩ slot long name).1.fuel],.one (dI (sealS ⟨ws,fu⟩ slot long name).2)],[])
 | _,_=>none
def Γ_q46:Ctx:=[(n_q42,c_q42),(n_q41,c_q41),(n_q21,c_q21)]
theorem ok_q46:Ok Tryz.prog tab Γ_q46:=(((ok_nil.c hg_q21 sound_q21).c hg_q41 sound_q41).c hg_q42 sound_q42)
theorem q46_vc (ws:List Int) (fu slot long name:Int) (rec:RK) (K:KK) v0 (hv0:v0=z0g (⟨ws,fu⟩:Flash) slot) v1 (hv1:v1=programF (⟨ws,fu⟩:Flash) ((64:Int)+(64:Int)*slot) (long::name::xori 65535 long::xori 65535 name::[])) v2 (hv2:v2=K (.tup [.agg [dL [],dI (0:Int)],.one (dI 3)]) []):segD Γ_q46 tab fn_q46 0 K rec [.code (z05 fn_q46)] (z07 [.agg [dL ws,dI fu],.one (dI slot),.one (dI long),.one (dI name)] [])=(
 br (!(eqi v0 0))
 (K (.tup [.agg [dL [],dI (0:Int)],.one (dI v0)]) [])
 (br (lti long 1)
 v2
 (br (lti 40 long)
 v2
 (br (lti name 1)
 v2
 (br (lti 60 name)
 v2
 (((0:Int)≤slot∧slot≤1) ∧
 List.length (long::name::xori 65535 long::xori 65535 name::[])≤140737488355328 ∧
 K (.tup [.agg [dL v1.fst.words,dI v1.fst.fuel],.one (dI v1.snd)]) [])))))):=by subst_vars; kernel_rfl

theorem run_q46 (K:KK) (hK:K (.tup [.agg [dL (sealS ⟨ws,fu⟩ slot long name).1.words,dI (sealS ⟨ws,fu⟩ slot long name).1.fuel],.one (dI (sealS ⟨ws,fu⟩ slot long name).2)]) []):GD Γ_q46 fn_q46 0 K [.agg [dL ws,dI fu],.one (dI slot),.one (dI long),.one (dI name)] []:=by
 refine ⟨1,?_⟩
 rw [z02,q46_vc _ _ _ _ _ _ _ _ rfl _ rfl _ rfl]
 unfold sealS at hK
 refine z1c (fun h=>?_) (fun h=>?_)
 ·rw [if_neg h] at hK; exact hK
 rw [if_pos h] at hK
 obtain ⟨h1,h2,h3⟩:=z3h h
 have three:¬ (1≤long∧long≤40∧1≤name∧name≤60)→K (.tup [.agg [dL [],dI 0],.one (dI 3)]) []:=fun hn=>by
  rw [if_neg (by simp only [okHead,Bool.and_eq_true,decide_eq_true_eq]; omega)] at hK; exact hK
 refine z1a (fun h4=>three (by omega)) (fun h4=>z1a (fun h5=>three (by omega)) (fun h5=>z1a (fun h6=>three (by omega)) (fun h6=>z1a (fun h7=>three (by omega)) (fun h7=>?_))))
 rw [if_pos (by simp only [okHead,Bool.and_eq_true,decide_eq_true_eq]; omega)] at hK
 rw [za0 (by omega) (by omega),za0 (by omega) (by omega)]
 exact ⟨by omega,by simp only [List.length_cons,List.length_nil]; omega,hK⟩
theorem sound_q46:z03 Tryz.prog tab n_q46 c_q46:=z01 ok_q46 hg_q46 (by
 intro vs bs p v bs' h hp
 unfold c_q46 at h
 split at h
 ·cases h
  exact ⟨by kernel_rfl,rfl,.inl (run_q46 _ _ _ _ _ _ ⟨rfl,rfl⟩)⟩
 ·cases h)

def c_q14:z00:=fun vs bs=>match vs,bs with
 | [.one (.dat .int w)],[]=>some (none,.one (dB (!okWord w)),[])
 | _,_=>none
def Γ_q14:Ctx:=[]
theorem ok_q14:Ok Tryz.prog tab Γ_q14:=ok_nil
theorem q14_vc (w:Int) (rec:RK) (K:KK):segD Γ_q14 tab fn_q14 0 K rec [.code (z05 fn_q14)] (z07 [.one (dI w)] [])=(
 br (lti w 0)
 (K vT [])
 (K (.one (dB (lti 65535 w))) [])):=by kernel_rfl

theorem run_q14 (K:KK) (hK:K (.one (dB (!okWord w))) []):GD Γ_q14 fn_q14 0 K [.one (dI w)] []:=by
 refine ⟨1,?_⟩
 rw [z02,q14_vc _ _ _]
 refine z1a (fun h=>?_) (fun h=>?_)
 ·rw [show (!okWord w)=true from by simp [okWord]; omega] at hK; exact hK
 ·rw [show (!okWord w)=lti 65535 w from by simp [okWord,lti,h]; by_cases h2:w≤65535<;>simp [h2]<;>omega] at hK; exact hK
theorem sound_q14:z03 Tryz.prog tab n_q14 c_q14:=z01 ok_q14 hg_q14 (by
 intro vs bs p v bs' h hp
 unfold c_q14 at h
 split at h
 ·cases h
  exact ⟨by kernel_rfl,rfl,.inl (run_q14 _ _ ⟨rfl,rfl⟩)⟩
 ·cases h)

def c_q16:z00:=fun vs bs=>match vs,bs with
 | [.one (.dat (.list .int) l),.one (.fn f [])],[]=>(match Nat.beq f n_q14 with | true=>some (some (Sm l),.one (dI (firstBad l)),[]) | false=>none)
 | _,_=>none
def Γ_q16:Ctx:=[(n_q14,c_q14)]
theorem ok_q16:Ok Tryz.prog tab Γ_q16:=(ok_nil.c hg_q14 sound_q14)
noncomputable def q16_0_L0:List It:=[.inLoop [8,7,4,0,1] (cSub fn_q16 [1,0,1,0,0]),.inBlock 0,.code (cSub fn_q16 [1,1])]
def q16_0_S0 (x0 x1 x2:Int) (x3:List Int):St:=⟨[(8,.one (dI x0)),(7,.one (dI x1)),(4,.one (dI x2)),(0,.one (dL x3)),(1,.one (.fn n_q14 []))],[],0⟩
theorem q16_0_vc (l:List Int) (rec:RK) (K:KK):segD Γ_q16 tab fn_q16 0 K rec [.code (z05 fn_q16)] (z07 [.one (dL l),.one (.fn n_q14 [])] [])=(
 rec q16_0_L0 (q16_0_S0 0 (len l:Int) 0 l)):=by kernel_rfl
theorem zgc (x0 x1 x2:Int) (x3:List Int) (rec:RK) (K:KK) v0 (hv0:v0=okWord (nth x3 (Int.toNat x0) (Ty.dflt Ty.int))):segD Γ_q16 tab fn_q16 0 K rec (ent q16_0_L0) (q16_0_S0 x0 x1 x2 x3)=(
 br (lti x0 x1)
 (((0:Int)≤x0∧x0<(len x3:Int)) ∧
 br (!v0)
 (K (.one (dI x0)) [])
 (rec q16_0_L0 (q16_0_S0 (w64 (x0+1)) x1 x2 x3)))
 (K (.one (dI (-1))) [])):=by subst_vars; kernel_rfl

theorem zcg (l:List Int) (hs:Sm l) (K:KK):∀ (d k:Nat),k+d=l.length→K (.one (dI (firstBadFrom k (l.drop k)))) [] →
  goD Γ_q16 tab fn_q16 0 K (d+1) q16_0_L0 (q16_0_S0 (k:Int) (((len l):Nat):Int) 0 l)
 | 0,k,hk,hK=>by
  rw [z09 (L:=q16_0_L0),zgc _ _ _ _ _ _ _ rfl]
  refine z22 (by simp only [len]; omega) ?_
  rw [List.drop_of_length_le (by omega)] at hK
  exact hK
 | d+1,k,hk,hK=>by
  have hs':=hs
  unfold Sm at hs'
  rw [z09 (L:=q16_0_L0),zgc _ _ _ _ _ _ _ rfl]
  rw [z0q (by omega) (Ty.dflt Ty.int)] at hK
  simp only [firstBadFrom] at hK
  refine z2o (by simp only [len]; omega) ⟨⟨by omega,by simp only [len]; omega⟩,z4n (fun h=>?_) (fun h=>?_)⟩
  ·rw [z08] at h
   rw [if_neg (by rw [h]; simp)] at hK
   exact hK
  ·rw [z08] at h
   rw [if_pos h] at hK
   rw [z0f (by omega)]
   exact zcg l hs K d (k+1) (by omega) hK
theorem run_q16_0 (hp:Sm l) (K:KK) (hK:K (.one (dI (firstBad l))) []):GD Γ_q16 fn_q16 0 K [.one (dL l),.one (.fn n_q14 [])] []:=by
 refine ⟨l.length+2,?_⟩
 rw [z02,q16_0_vc _ _ _]
 exact zcg l hp K l.length 0 (by omega) hK
theorem sound_q16:z03 Tryz.prog tab n_q16 c_q16:=z01 ok_q16 hg_q16 (by
 intro vs bs p v bs' h hp
 unfold c_q16 at h
 split at h
 ·split at h
  ·rename_i hfn
   have hfn:=Nat.eq_of_beq_eq_true hfn
   subst hfn
   cases h
   exact ⟨by kernel_rfl,rfl,.inl (run_q16_0 _ hp.1 _ ⟨rfl,rfl⟩)⟩
  ·cases h
 ·cases h)

def c_q18:z00:=fun vs bs=>match vs,bs with
 | [.one (.dat (.list .int) l),.one (.fn f [])],[]=>(match Nat.beq f n_q14 with | true=>some (some (Sm l),.one (dB (!z04 l)),[]) | false=>none)
 | _,_=>none
def Γ_q18:Ctx:=[(n_q16,c_q16),(n_q14,c_q14)]
theorem ok_q18:Ok Tryz.prog tab Γ_q18:=((ok_nil.c hg_q14 sound_q14).c hg_q16 sound_q16)
theorem q18_0_vc (l:List Int) (rec:RK) (K:KK) v0 (hv0:v0=firstBad l):segD Γ_q18 tab fn_q18 0 K rec [.code (z05 fn_q18)] (z07 [.one (dL l),.one (.fn n_q14 [])] [])=(
 List.length l≤140737488355328 ∧
 K (.one (dB (lei 0 v0))) []):=by subst_vars; kernel_rfl

theorem z1s:∀ (l:List Int) (k:Int),0≤k→lei 0 (firstBadFrom k l)=!z04 l
 | [],k,hk=>by simp [firstBadFrom,z04,lei]
 | w::l,k,hk=>by
  simp only [firstBadFrom,z04,List.all_cons]
  cases h:okWord w with
  | true=>simpa [z04] using z1s l (k+1) (by omega)
  | false=>simp [lei,hk]
theorem run_q18_0 (hp:Sm l) (K:KK) (hK:K (.one (dB (!z04 l))) []):GD Γ_q18 fn_q18 0 K [.one (dL l),.one (.fn n_q14 [])] []:=by
 refine ⟨1,?_⟩
 rw [z02,q18_0_vc _ _ _ _ rfl]
 refine ⟨hp,?_⟩
 rw [show lei 0 (firstBad l)=!z04 l from z1s l 0 (by omega)]
 exact hK
theorem sound_q18:z03 Tryz.prog tab n_q18 c_q18:=z01 ok_q18 hg_q18 (by
 intro vs bs p v bs' h hp
 unfold c_q18 at h
 split at h
 ·split at h
  ·rename_i hfn
   have hfn:=Nat.eq_of_beq_eq_true hfn
   subst hfn
   cases h
   exact ⟨by kernel_rfl,rfl,.inl (run_q18_0 _ hp.1 _ ⟨rfl,rfl⟩)⟩
  ·cases h
 ·cases h)

def c_q58:z00:=fun vs bs=>match vs,bs with
 | [.one (.dat (.list .int) l)],[]=>some (some (Sm l),.one (dI (checkRec l)),[])
 | _,_=>none
def Γ_q58:Ctx:=[(n_q18,c_q18),(n_q14,c_q14)]
theorem ok_q58:Ok Tryz.prog tab Γ_q58:=((ok_nil.c hg_q14 sound_q14).c hg_q18 sound_q18)
theorem q58_vc (l:List Int) (rec:RK) (K:KK) v0 (hv0:v0=z04 l):segD Γ_q58 tab fn_q58 0 K rec [.code (z05 fn_q58)] (z07 [.one (dL l)] [])=(
 br (eqi (len l:Int) 0)
 (K (.one (dI 2)) [])
 (br (lti 4 (len l:Int))
 (K (.one (dI 2)) [])
 (List.length l≤140737488355328 ∧
 br (!v0)
 (K (.one (dI 3)) [])
 (K (.one (dI 0)) [])))):=by subst_vars; kernel_rfl

theorem run_q58 (hp:Sm l) (K:KK) (hK:K (.one (dI (checkRec l))) []):GD Γ_q58 fn_q58 0 K [.one (dL l)] []:=by
 refine ⟨1,?_⟩
 rw [z02,q58_vc _ _ _ _ rfl]
 unfold checkRec at hK
 refine z27 (fun h=>?_) (fun h=>z1a (fun h2=>?_) (fun h2=>⟨hp,z4n (fun h3=>?_) (fun h3=>?_)⟩))
 ·rw [if_neg (by simp only [len] at h; omega)] at hK; exact hK
 ·rw [if_neg (by simp only [len] at h2; omega)] at hK; exact hK
 ·rw [if_pos (by simp only [len] at h h2; omega),if_neg (by rw [h3]; simp)] at hK; exact hK
 ·rw [if_pos (by simp only [len] at h h2; omega),if_pos h3] at hK; exact hK
theorem sound_q58:z03 Tryz.prog tab n_q58 c_q58:=z01 ok_q58 hg_q58 (by
 intro vs bs p v bs' h hp
 unfold c_q58 at h
 split at h
 ·cases h
  exact ⟨by kernel_rfl,rfl,.inl (run_q58 _ hp.1 _ ⟨rfl,rfl⟩)⟩
 ·cases h)

def c_q4:z00:=fun vs bs=>match vs,bs with
 | [.one (.dat (.list (.list .int)) l)],[]=>some (some (len l*24≤140737488355328),.one (.own 0),[.arr (.list .int) l])
 | _,_=>none
def Γ_q4:Ctx:=[]
theorem ok_q4:Ok Tryz.prog tab Γ_q4:=ok_nil
theorem q4_vc (l:List (List Int)) (rec:RK) (K:KK):segO Γ_q4 tab fn_q4 0 K rec [.code (z05 fn_q4)] (z07 [.one (dR l)] [])=(
 (∀ bn:Bool,(bn=true→len l=0)→br bn
 (K (.one (.own 0)) [.arr (Ty.list Ty.int) []])
 ((0+len l)*24≤140737488355328 ∧
 K (.one (.own 0)) [.arr (Ty.list Ty.int) (cat [] l)]))):=by kernel_rfl

theorem run_q4 (l:List (List Int)) (hp:len l*24≤140737488355328) (K:KK) (hK:K (.one (.own 0)) [.arr (.list .int) l]):GO Γ_q4 fn_q4 0 K [.one (dR l)] []:=by
 refine ⟨1,?_⟩
 rw [z1i,q4_vc _ _ _]
 intro bn hb
 refine z0l (fun h=>?_) (fun h=>⟨by simp only [len] at hp ⊢; omega,hK⟩)
 have:l=[]:=List.length_eq_zero_iff.1 (hb h)
 subst this
 exact hK
theorem sound_q4:z03 Tryz.prog tab n_q4 c_q4:=z01 ok_q4 hg_q4 (by
 intro vs bs p v bs' h hp
 unfold c_q4 at h
 split at h
 ·cases h
  exact ⟨by kernel_rfl,rfl,.inr (.inl (run_q4 _ hp.1 _ ⟨rfl,rfl⟩))⟩
 ·cases h)

def c_q57:z00:=fun vs bs=>match vs,bs with
 | [.one (.dat .int n)],[]=>some (some (0≤n∧n≤255),.one (dI (42240+n)),[])
 | _,_=>none
def Γ_q57:Ctx:=[]
theorem ok_q57:Ok Tryz.prog tab Γ_q57:=ok_nil
theorem q57_vc (n:Int) (rec:RK) (K:KK):segD Γ_q57 tab fn_q57 0 K rec [.code (z05 fn_q57)] (z07 [.one (dI n)] [])=(
 K (.one (dI (ori 42240 n))) []):=by kernel_rfl

theorem run_q57 (hp:0≤n∧n≤255) (K:KK) (hK:K (.one (dI (42240+n))) []):GD Γ_q57 fn_q57 0 K [.one (dI n)] []:=by
 refine ⟨1,?_⟩
 rw [z02,q57_vc _ _ _,ori_head hp.1 hp.2]
 exact hK
theorem sound_q57:z03 Tryz.prog tab n_q57 c_q57:=z01 ok_q57 hg_q57 (by
 intro vs bs p v bs' h hp
 unfold c_q57 at h
 split at h
 ·cases h
  exact ⟨by kernel_rfl,rfl,.inl (run_q57 _ hp.1 _ ⟨rfl,rfl⟩)⟩
 ·cases h)

def c_q59:z00:=fun vs bs=>match vs,bs with
 | [.one (.dat (.list .int) l)],[]=>some (some (len l≤255),.one (dL (recW l)),[])
 | _,_=>none
def Γ_q59:Ctx:=[(n_q57,c_q57)]
theorem ok_q59:Ok Tryz.prog tab Γ_q59:=(ok_nil.c hg_q57 sound_q57)
theorem q59_vc (l:List Int) (rec:RK) (K:KK):segD Γ_q59 tab fn_q59 0 K rec [.code (z05 fn_q59)] (z07 [.one (dL l)] [])=(
 ((0:Int)≤(len l:Int)∧(len l:Int)≤(255:Int)) ∧
 (len (((42240:Int)+(len l:Int))::[])+len l)*8≤140737488355328 ∧
 K (.one (dL (cat (((42240:Int)+(len l:Int))::[]) l))) []):=by kernel_rfl

theorem run_q59 (hp:len l≤255) (K:KK) (hK:K (.one (dL (recW l))) []):GD Γ_q59 fn_q59 0 K [.one (dL l)] []:=by
 refine ⟨1,?_⟩
 rw [z02,q59_vc _ _ _]
 exact ⟨⟨by omega,by omega⟩,by simp only [len,List.length_cons,List.length_nil] at hp ⊢; omega,hK⟩
theorem sound_q59:z03 Tryz.prog tab n_q59 c_q59:=z01 ok_q59 hg_q59 (by
 intro vs bs p v bs' h hp
 unfold c_q59 at h
 split at h
 ·cases h
  exact ⟨by kernel_rfl,rfl,.inl (run_q59 _ hp.1 _ ⟨rfl,rfl⟩)⟩
 ·cases h)

def c_q3:z00:=fun vs bs=>match vs,bs with
 | [.one (.dat (.list .int) l)],[]=>some (some (len l*8≤140737488355328),.one (.own 0),[.arr .int l])
 | _,_=>none
def Γ_q3:Ctx:=[]
theorem ok_q3:Ok Tryz.prog tab Γ_q3:=ok_nil
theorem q3_vc (l:List Int) (rec:RK) (K:KK):segO Γ_q3 tab fn_q3 0 K rec [.code (z05 fn_q3)] (z07 [.one (dL l)] [])=(
 (∀ bn:Bool,(bn=true→len l=0)→br bn
 (K (.one (.own 0)) [.arr Ty.int []])
 ((0+len l)*8≤140737488355328 ∧
 K (.one (.own 0)) [.arr Ty.int (cat [] l)]))):=by kernel_rfl

theorem run_q3 (hp:len l*8≤140737488355328) (K:KK) (hK:K (.one (.own 0)) [.arr .int l]):GO Γ_q3 fn_q3 0 K [.one (dL l)] []:=by
 refine ⟨1,?_⟩
 rw [z1i,q3_vc _ _ _]
 intro bn hb
 refine z0l (fun h=>?_) (fun h=>⟨by simp only [len] at hp ⊢; omega,hK⟩)
 have:l=[]:=List.length_eq_zero_iff.1 (hb h)
 subst this
 exact hK
theorem sound_q3:z03 Tryz.prog tab n_q3 c_q3:=z01 ok_q3 hg_q3 (by
 intro vs bs p v bs' h hp
 unfold c_q3 at h
 split at h
 ·cases h
  exact ⟨by kernel_rfl,rfl,.inr (.inl (run_q3 _ hp.1 _ ⟨rfl,rfl⟩))⟩
 ·cases h)

def c_q61:z00:=fun vs bs=>match vs,bs with
 | [.agg [.dat (.list .int) ws,.dat .int _],.one (.dat .int sector)],[]=>some (some (0≤sector∧sector≤1∧64≤len ws∧len ws≤192∧z04 ws=true),.tup [.one (dR (scanS ws sector.toNat).1),.one (dI (nextI sector.toNat (scanS ws sector.toNat).2))],[])
 | _,_=>none
def Γ_q61:Ctx:=[(n_q3,c_q3)]
theorem ok_q61:Ok Tryz.prog tab Γ_q61:=(ok_nil.c hg_q3 sound_q3)
noncomputable def q61_L0:List It:=[.inLoop [7,6,5,4,1] (cSub fn_q61 [1,1,1,0,0,0]),.inBlock 0,.code (cSub fn_q61 [1,1,1,1])]
def q61_S0 (x0:Int) (x1:List Int) (x2 x3:Int) (x4:List (List Int)):St:=⟨[(7,.one (dI x0)),(6,.one (dL x1)),(5,.one (dI x2)),(4,.one (.own 0)),(1,.one (dI x3))],[(0,.arr (Ty.list Ty.int) x4)],1⟩
noncomputable def q61_L1:List It:=[.inLoop [74,73,72,7,5,4,1] (cSub fn_q61 [1,1,1,1,0,1,0,0]),.inBlock 2,.code (cSub fn_q61 [1,1,1,1,1])]
def q61_S1 (x0 x1:Int) (x2:List Int) (x3 x4 x5:Int) (x6:List (List Int)):St:=⟨[(74,.one (dI x0)),(73,.one (dI x1)),(72,.one (dL x2)),(7,.one (dI x3)),(5,.one (dI x4)),(4,.one (.own 0)),(1,.one (dI x5))],[(0,.arr (Ty.list Ty.int) x6)],1⟩
theorem q61_vc (ws:List Int) (fu sector:Int) (rec:RK) (K:KK):segD Γ_q61 tab fn_q61 0 K rec [.code (z05 fn_q61)] (z07 [.agg [dL ws,dI fu],.one (dI sector)] [])=(
 ((0:Int)≤w64 (sector*32)∧w64 (sector*32)≤w64 (w64 (sector+1)*32)∧w64 (w64 (sector+1)*32)≤(len ws:Int)) ∧
 rec q61_L0 (q61_S0 1 (slc ws (Int.toNat (w64 (sector*32))) (Int.toNat (w64 (w64 (sector+1)*32)))) 0 sector [])):=by kernel_rfl
theorem q61_vc0 (x0:Int) (x1:List Int) (x2 x3:Int) (x4:List (List Int)) (rec:RK) (K:KK) v0 (hv0:v0=rec q61_L1 (q61_S1 0 (((len (slc x1 (Int.toNat (min x0 (len x1:Int))) (Int.toNat (len x1:Int)))):Nat):Int) (slc x1 (Int.toNat (min x0 (len x1:Int))) (Int.toNat (len x1:Int))) x0 x2 x3 x4)):segD Γ_q61 tab fn_q61 0 K rec (ent q61_L0) (q61_S0 x0 x1 x2 x3 x4)=(
 br (lti x0 (len x1:Int))
 (((0:Int)≤x0∧x0<(len x1:Int)) ∧
 br (!(eqi (nth x1 (Int.toNat x0) (Ty.dflt Ty.int)) 65535))
 (((0:Int)≤x0∧x0<(len x1:Int)) ∧
 br (lti (xori (nth x1 (Int.toNat x0) (Ty.dflt Ty.int)) 42240) 1)
 (K (.tup [.one (dR x4),.one (dI (-1))]) [])
 (br (lti 4 (xori (nth x1 (Int.toNat x0) (Ty.dflt Ty.int)) 42240))
 (K (.tup [.one (dR x4),.one (dI (-1))]) [])
 (br (lti (len x1:Int) (w64 (w64 (x0+xori (nth x1 (Int.toNat x0) (Ty.dflt Ty.int)) 42240)+1)))
 (K (.tup [.one (dR x4),.one (dI (-1))]) [])
 (((0:Int)≤w64 (x0+1)∧w64 (x0+1)≤w64 (w64 (x0+1)+xori (nth x1 (Int.toNat x0) (Ty.dflt Ty.int)) 42240)∧w64 (w64 (x0+1)+xori (nth x1 (Int.toNat x0) (Ty.dflt Ty.int)) 42240)≤(len x1:Int)) ∧
 len (slc x1 (Int.toNat (w64 (x0+1))) (Int.toNat (w64 (w64 (x0+1)+xori (nth x1 (Int.toNat x0) (Ty.dflt Ty.int)) 42240))))*8≤140737488355328 ∧
 (len x4+len (slc x1 (Int.toNat (w64 (x0+1))) (Int.toNat (w64 (w64 (x0+1)+xori (nth x1 (Int.toNat x0) (Ty.dflt Ty.int)) 42240)))::[]))*24≤140737488355328 ∧
 rec q61_L0 (q61_S0 (w64 (x0+w64 (xori (nth x1 (Int.toNat x0) (Ty.dflt Ty.int)) 42240+1))) x1 x2 x3 (cat x4 (slc x1 (Int.toNat (w64 (x0+1))) (Int.toNat (w64 (w64 (x0+1)+xori (nth x1 (Int.toNat x0) (Ty.dflt Ty.int)) 42240)))::[])))))))
 (((0:Int)≤min x0 (len x1:Int)∧min x0 (len x1:Int)≤(len x1:Int)∧(len x1:Int)≤(len x1:Int)) ∧
 v0))
 (((0:Int)≤min x0 (len x1:Int)∧min x0 (len x1:Int)≤(len x1:Int)∧(len x1:Int)≤(len x1:Int)) ∧
 v0)):=by subst_vars; kernel_rfl
theorem q61_vc1 (x0 x1:Int) (x2:List Int) (x3 x4 x5:Int) (x6:List (List Int)) (rec:RK) (K:KK):segD Γ_q61 tab fn_q61 0 K rec (ent q61_L1) (q61_S1 x0 x1 x2 x3 x4 x5 x6)=(
 br (lti x0 x1)
 (((0:Int)≤x0∧x0<(len x2:Int)) ∧
 br (!(eqi (nth x2 (Int.toNat x0) (Ty.dflt Ty.int)) 65535))
 (K (.tup [.one (dR x6),.one (dI (-1))]) [])
 (rec q61_L1 (q61_S1 (w64 (x0+1)) x1 x2 x3 x4 x5 x6)))
 (K (.tup [.one (dR x6),.one (dI (w64 (w64 (x5*32)+x3)))]) [])):=by kernel_rfl

theorem z6v (x3 x4 x5:Int) (x6:List (List Int)) (K:KK) (t:List Int) (ht:t.length≤32)
  (hK:K (.tup [.one (dR x6),.one (dI (if allClean t then w64 (w64 (x5*32)+x3) else -1))]) []):∀ (d k:Nat),t.length≤k+d→k≤t.length→allClean (t.take k)=true →
  goD Γ_q61 tab fn_q61 0 K (d+1) q61_L1 (q61_S1 (k:Int) (((len t):Nat):Int) t x3 x4 x5 x6)
 | 0,k,hk,hk2,he=>by
  rw [z09 (L:=q61_L1),q61_vc1 _ _ _ _ _ _ _ _ _]
  rw [List.take_of_length_le (by omega)] at he
  rw [if_pos he] at hK
  exact z22 (by simp only [len]; omega) hK
 | d+1,k,hk,hk2,he=>by
  rw [z09 (L:=q61_L1),q61_vc1 _ _ _ _ _ _ _ _ _,z08]
  by_cases c:k=t.length
  ·rw [List.take_of_length_le (by omega)] at he
   rw [if_pos he] at hK
   exact z22 (by simp only [len]; omega) hK
  refine z2o (by simp only [len]; omega) ⟨⟨by omega,by simp only [len]; omega⟩,z1c (fun hne=>?_) (fun heq=>?_)⟩
  ·rw [if_neg (by rw [show allClean t=false from zbv (k:=k) (by omega) (Ty.dflt Ty.int) (by simpa using hne)]; simp)] at hK
   exact hK
  ·rw [z0f (by omega)]
   exact z6v x3 x4 x5 x6 K t ht hK d (k+1) (by omega) (by omega) (z5f (by omega) (Ty.dflt Ty.int) he (by simpa using heq))
theorem z5a (s:List Int) (sec:Nat) (hsec:sec≤1) (hl:s.length=32) (K:KK) (k:Nat) (hk:k≤32) (acc:List (List Int)) (M:Nat)
  (hK:K (.tup [.one (dR acc),.one (dI (if allClean (s.drop k) then 32*(sec:Int)+k else -1))]) []) :
  goD Γ_q61 tab fn_q61 0 K (M+33) q61_L1 (q61_S1 (0:Int) (((len (slc s (Int.toNat (min (k:Int) (((len s):Nat):Int))) (Int.toNat (((len s):Nat):Int)))):Nat):Int) (slc s (Int.toNat (min (k:Int) (((len s):Nat):Int))) (Int.toNat (((len s):Nat):Int))) (k:Int) 0 (sec:Int) acc):=by
 rw [show Int.toNat (min (k:Int) (((len s):Nat):Int))=k by simp only [len]; omega,show Int.toNat (((len s):Nat):Int)=s.length from rfl,slc_drop]
 refine z6v _ _ _ _ K (s.drop k) (by simp; omega) ?_ (M+32) 0 (by simp; omega) (by omega) rfl
 rw [z0e (n:=(sec:Int)*32) (by omega) (by omega),z0e (by omega) (by omega),show (sec:Int)*32+(k:Int)=32*(sec:Int)+k by omega]
 exact hK
theorem zhj (s:List Int) (sec:Nat) (hsec:sec≤1) (hl:s.length=32) (hok:z04 s=true) (K:KK):∀ (m k:Nat) (acc:List (List Int)),k≤32→32≤m+k→acc.length≤k →
  K (.tup [.one (dR (acc++(scanL m (s.drop k)).1)),.one (dI (match (scanL m (s.drop k)).2 with | some n=>32*(sec:Int)+k+n | none=>-1))]) [] →
  goD Γ_q61 tab fn_q61 0 K (m+34) q61_L0 (q61_S0 (k:Int) s 0 (sec:Int) acc)
 | 0,k,acc,hk,hm,ha,hK=>by
  have:k=32:=by omega
  subst this
  rw [show 0+34=33+1 by omega,z09 (L:=q61_L0),q61_vc0 _ _ _ _ _ _ _ _ rfl]
  simp only [scanL,List.append_nil] at hK
  refine z22 (by simp only [len]; omega) ⟨⟨by simp only [len]; omega,by simp only [len]; omega,by omega⟩,z5a s sec hsec hl K 32 (by omega) acc 0 ?_⟩
  rw [List.drop_of_length_le (by omega)]
  simpa [allClean] using hK
 | m+1,k,acc,hk,hm,ha,hK=>by
  rw [show m+1+34=(m+34)+1 by omega,z09 (L:=q61_L0),q61_vc0 _ _ _ _ _ _ _ _ rfl,z08]
  by_cases c:k=32
  ·subst c
   rw [List.drop_of_length_le (by omega)] at hK
   simp only [scanL,List.append_nil] at hK
   refine z22 (by simp only [len]; omega) ⟨⟨by simp only [len]; omega,by simp only [len]; omega,by omega⟩,z5a s sec hsec hl K 32 (by omega) acc (m+1) ?_⟩
   rw [List.drop_of_length_le (by omega)]
   simpa [allClean] using hK
  rw [z0q (by omega) (Ty.dflt Ty.int)] at hK
  obtain ⟨x,hx⟩:∃ x,nth s k (Ty.dflt Ty.int)=x:=⟨_,rfl⟩
  have hxo:okWord x=true:=hx ▸ z21 hok k (by omega)
  rw [hx] at hK ⊢
  simp only [scanL] at hK
  refine z2o (by simp only [len]; omega) ⟨⟨by omega,by simp only [len]; omega⟩,z1c (fun hne=>?_) (fun heq=>?_)⟩
  case refine_2 =>
   rw [if_pos heq] at hK
   refine ⟨⟨by simp only [len]; omega,by simp only [len]; omega,by omega⟩,z5a s sec hsec hl K k hk acc (m+1) ?_⟩
   rw [z0q (by omega) (Ty.dflt Ty.int),hx]
   have e:allClean (x::s.drop (k+1))=allClean (s.drop (k+1)):=by simp [allClean,heq]
   rw [e]
   cases hc:allClean (s.drop (k+1))
   ·simpa [hc] using hK
   ·simpa [hc] using hK
  rw [if_neg hne] at hK
  obtain ⟨g1,g2,g3,g4⟩:=xori_head hxo
  have none':headN x=0→K (.tup [.one (dR acc),.one (dI (-1))]) []:=fun h=>by
   rw [if_pos h] at hK
   simpa using hK
  refine ⟨⟨by omega,by simp only [len]; omega⟩,z1a (fun h1=>none' (g3 (.inl h1))) (fun h1=>z1a (fun h2=>none' (g3 (.inr h2))) (fun h2=>?_))⟩
  obtain ⟨e1,e2,e3⟩:=g4 h1 h2
  rw [if_neg e2] at hK
  rw [e1]
  obtain ⟨n,hn⟩:∃ n,headN x=n:=⟨_,rfl⟩
  rw [hn] at hK e2 e3 ⊢
  rw [z0e (n:=(k:Int)+(n:Int)) (by omega) (by omega),z0e (n:=(k:Int)+(n:Int)+1) (by omega) (by omega),z0e (n:=(k:Int)+1) (by omega) (by omega),z0e (n:=(k:Int)+1+(n:Int)) (by omega) (by omega),z0e (n:=(n:Int)+1) (by omega) (by omega),z0e (n:=(k:Int)+((n:Int)+1)) (by omega) (by omega)]
  have ld:(s.drop (k+1)).length=31-k:=by simp; omega
  refine z1a (fun h3=>?_) (fun h3=>?_)
  ·rw [if_neg (by simp only [len] at h3; omega)] at hK
   simpa using hK
  ·simp only [len] at h3
   rw [if_pos (by omega)] at hK
   rw [show Int.toNat ((k:Int)+1)=k+1 by omega,show Int.toNat ((k:Int)+1+(n:Int))=k+1+n by omega,show (k:Int)+((n:Int)+1)=((k+1+n:Nat):Int) by omega]
   have es:slc s (k+1) (k+1+n)=(s.drop (k+1)).take n:=by simp [slc,List.take_drop]
   rw [es]
   refine ⟨⟨by omega,by omega,by simp only [len]; omega⟩,by simp only [len,List.length_take]; omega,by simp only [len,List.length_cons,List.length_nil]; omega,?_⟩
   refine zhj s sec hsec hl hok K m (k+1+n) _ (by omega) (by omega) (by simp only [cat,List.length_append,List.length_cons,List.length_nil]; omega) ?_
   rw [List.drop_drop] at hK
   have hK':=hK
   simp only [cat,List.append_assoc,List.cons_append,List.nil_append] at hK' ⊢
   cases hsc:(scanL m (s.drop (k+1+n))).2 with
   | none=>simpa [hsc] using hK'
   | some p =>
    simp only [hsc,Option.map] at hK'
    rw [show 32*(sec:Int)+(k:Int)+((p+n+1:Nat):Int)=32*(sec:Int)+((k+1+n:Nat):Int)+(p:Int) by omega] at hK'
    exact hK'
theorem run_q61 (hp:0≤sector∧sector≤1∧64≤len ws∧len ws≤192∧z04 ws=true) (K:KK) (hK:K (.tup [.one (dR (scanS ws sector.toNat).1),.one (dI (nextI sector.toNat (scanS ws sector.toNat).2))]) []):GD Γ_q61 fn_q61 0 K [.agg [dL ws,dI fu],.one (dI sector)] []:=by
 obtain ⟨h0,h1,h2,h3,hok⟩:=hp
 obtain ⟨sec,rfl⟩:=Int.eq_ofNat_of_zero_le h0
 refine ⟨32+34+1,?_⟩
 rw [z02,q61_vc _ _ _ _ _]
 rw [z0e (n:=(sec:Int)*32) (by omega) (by omega),z0e (n:=(sec:Int)+1) (by omega) (by omega),z0e (by omega) (by omega)]
 simp only [len] at h2 h3 ⊢
 refine ⟨⟨by omega,by omega,by omega⟩,?_⟩
 rw [show Int.toNat ((sec:Int)*32)=32*sec by omega,show Int.toNat (((sec:Int)+1)*32)=32*sec+32 by omega]
 refine zhj (slc ws (32*sec) (32*sec+32)) sec (by omega) (z41 _ _ _ (by omega)) (slc_ok hok _ _) K 32 1 [] (by omega) (by omega) (by simp) ?_
 rw [z08] at hK
 unfold scanS sectorW at hK
 rw [List.nil_append]
 cases hsc:(scanL 32 ((slc ws (32*sec) (32*sec+32)).drop 1)).2 with
 | none =>
  simp only [hsc,nextI] at hK
  exact hK
 | some p =>
  simp only [hsc,nextI] at hK
  exact hK
theorem sound_q61:z03 Tryz.prog tab n_q61 c_q61:=z01 ok_q61 hg_q61 (by
 intro vs bs p v bs' h hp
 unfold c_q61 at h
 split at h
 ·cases h
  exact ⟨by kernel_rfl,rfl,.inl (run_q61 _ _ _ hp.1 _ ⟨rfl,rfl⟩)⟩
 ·cases h)

def c_q65:z00:=fun vs bs=>match vs,bs with
 | [.agg [.dat (.list .int) ws,.dat .int fu],.one (.dat (.list .int) r),.one (.dat (.list (.list .int)) keep)],[]=>some (some (Sm r∧len keep*24≤140737488351232∧smR keep=true),.tup [.agg [dL (z0u ⟨ws,fu⟩ r keep).1.words,dI (z0u ⟨ws,fu⟩ r keep).1.fuel],.one (dI (z0u ⟨ws,fu⟩ r keep).2)],[])
 | _,_=>none
def Γ_q65:Ctx:=[(n_q62,c_q62),(n_q58,c_q58),(n_q4,c_q4),(n_q59,c_q59),(n_q60,c_q60),(n_q7,c_q7),(n_q61,(weakC c_q61)),(n_q10,(orC c_q10 c_q9)),(n_q8,c_q8)]
theorem ok_q65:Ok Tryz.prog tab Γ_q65:=(((((((((ok_nil.c hg_q8 sound_q8).c hg_q10 (zc2 sound_q10 sound_q9)).c hg_q61 (zh9 sound_q61)).c hg_q7 sound_q7).c hg_q60 sound_q60).c hg_q59 sound_q59).c hg_q4 sound_q4).c hg_q58 sound_q58).c hg_q62 sound_q62)
noncomputable def q65_L0:List It:=[.inLoop [40,39,38,10,7,6,3,1] (cSub fn_q65 [1,1,1,1,0,1,0,0]),.inBlock 0,.code (cSub fn_q65 [1,1,1,1,1])]
def q65_S0 (x0 x1 x2:Int) (x3:List Int) (x4:List (List Int)) (x5:List Int) (x6:Int) (x7:List Int) (x8:Int) (x9:List Int):St:=⟨[(40,.one (dI x0)),(39,.one (dI x1)),(38,.one (.own 0)),(10,.one (.own 1)),(7,.one (dI x2)),(6,.one (.ptr 2 0)),(3,.one (.ptr 3 0)),(1,.one (dL x3))],[(0,.arr (Ty.list Ty.int) x4),(1,.arr Ty.int x5),(2,.box [.own 4,dI x6]),(3,.box [dL x7,dI x8]),(4,.arr Ty.int x9)],5⟩
theorem q65_vc (ws:List Int) (fu:Int) (r:List Int) (keep:List (List Int)) (rec:RK) (K:KK) v0 (hv0:v0=z0d (⟨ws,fu⟩:Flash)) v1 (hv1:v1=checkRec r):segD Γ_q65 tab fn_q65 0 K rec [.code (z05 fn_q65)] (z07 [.agg [dL ws,dI fu],.one (dL r),.one (dR keep)] [])=(
 br (!(eqi v0 0))
 (K (.tup [.agg [dL [],dI (0:Int)],.one (dI v0)]) [])
 (List.length r≤140737488355328 ∧
 br (!(eqi v1 0))
 (K (.tup [.agg [dL [],dI (0:Int)],.one (dI v1)]) [])
 (len keep*24≤140737488355328 ∧
 (len keep+len (r::[]))*24≤140737488355328 ∧
 rec q65_L0 (q65_S0 0 (len (cat keep (r::[])):Int) 0 r (cat keep (r::[])) [] 0 ws fu [])))):=by subst_vars; kernel_rfl
theorem q65_vc0 (x0 x1 x2:Int) (x3:List Int) (x4:List (List Int)) (x5:List Int) (x6:Int) (x7:List Int) (x8:Int) (x9:List Int) (rec:RK) (K:KK) v0 (hv0:v0=checkRec (nth x4 (Int.toNat x0) (Ty.dflt (Ty.list Ty.int)))) v1 (hv1:v1=recW (nth x4 (Int.toNat x0) (Ty.dflt (Ty.list Ty.int)))) v2 (hv2:v2=z04 x7) v3 (hv3:v3=liveS x7) v4 (hv4:v4=scanS x7 (Int.toNat ((v3:Nat):Int))) v5 (hv5:v5=nextI (Int.toNat ((v3:Nat):Int)) v4.snd) v6 (hv6:v6=recW x3) v7 (hv7:v7=z0c (w64 (v5+1)) x3) v8 (hv8:v8=doCh (⟨x7,x8⟩:Flash) v7) v9 (hv9:v9=z0c v5 (nth v6 (Int.toNat 0) (Ty.dflt Ty.int)::[])) v10 (hv10:v10=doCh (⟨v8.fst.words,v8.fst.fuel⟩:Flash) v9) v11 (hv11:v11=z0k x7) v12 (hv12:v12=wipeCh (w64 ((1:Int)-((v3:Nat):Int)))) v13 (hv13:v13=doCh (⟨x7,x8⟩:Flash) v12) v14 (hv14:v14=z0c (w64 (w64 (w64 ((1:Int)-((v3:Nat):Int))*32)+1)) x5) v15 (hv15:v15=doCh (⟨v13.fst.words,v13.fst.fuel⟩:Flash) v14) v16 (hv16:v16=z0c (w64 (w64 ((1:Int)-((v3:Nat):Int))*32)) (w64 (v11+1)::[])) v17 (hv17:v17=doCh (⟨v15.fst.words,v15.fst.fuel⟩:Flash) v16) v19 (hv19:v19=K (.tup [.agg [dL [],dI (0:Int)],.one (dI 8)]) []) v18 (hv18:v18=br (eqi v11 60000)
 v19
 (((-1)≤x8∧x8≤100000∧(0:Int)≤w64 ((1:Int)-((v3:Nat):Int))∧(w64 ((1:Int)-((v3:Nat):Int))+1)*32≤(len x7:Int)∧len x7≤192) ∧
 br (!v13.snd)
 (K (.tup [.agg [dL v13.fst.words,dI v13.fst.fuel],.one (dI 7)]) [])
 (((-1)≤v13.fst.fuel∧v13.fst.fuel≤100000∧(0:Int)≤w64 (w64 (w64 ((1:Int)-((v3:Nat):Int))*32)+1)∧w64 (w64 (w64 ((1:Int)-((v3:Nat):Int))*32)+1)+(len x5:Int)≤(len v13.fst.words:Int)∧len v13.fst.words≤192) ∧
 br (!v15.snd)
 (K (.tup [.agg [dL v15.fst.words,dI v15.fst.fuel],.one (dI 7)]) [])
 (((-1)≤v15.fst.fuel∧v15.fst.fuel≤100000∧(0:Int)≤w64 (w64 ((1:Int)-((v3:Nat):Int))*32)∧w64 (w64 ((1:Int)-((v3:Nat):Int))*32)+(((len (w64 (v11+1)::[])):Nat):Int)≤(len v15.fst.words:Int)∧len v15.fst.words≤192) ∧
 br (!v17.snd)
 (K (.tup [.agg [dL v17.fst.words,dI v17.fst.fuel],.one (dI 7)]) [])
 (K (.tup [.agg [dL v17.fst.words,dI v17.fst.fuel],.one (dI 0)]) []))))):segD Γ_q65 tab fn_q65 0 K rec (ent q65_L0) (q65_S0 x0 x1 x2 x3 x4 x5 x6 x7 x8 x9)=(
 br (lti x0 x1)
 (((0:Int)≤x0∧x0<(len x4:Int)) ∧
 Int.toNat x0<len x4 ∧
 List.length (nth x4 (Int.toNat x0) (Ty.dflt (Ty.list Ty.int)))≤140737488355328 ∧
 br (!(eqi v0 0))
 (K (.tup [.agg [dL [],dI (0:Int)],.one (dI v0)]) [])
 (len (nth x4 (Int.toNat x0) (Ty.dflt (Ty.list Ty.int)))≤255 ∧
 (len x5+len v1)*8≤140737488355328 ∧
 br (lti 31 (len (cat x5 v1):Int))
 v19
 (rec q65_L0 (q65_S0 (w64 (x0+1)) x1 x2 x3 x4 (cat x5 v1) x6 x7 x8 x9))))
 ((64≤len x7∧v2=true) ∧
 len x7*8≤140737488355328 ∧
 len x3≤255 ∧
 ((0:Int)≤((v3:Nat):Int)∧((v3:Nat):Int)≤(1:Int)∧64≤len x7∧len x7≤192∧v2=true) ∧
 br (lei 0 v5)
 (br (lei (w64 (v5+(len v6:Int))) (w64 (w64 (((v3:Nat):Int)+(1:Int))*32)))
 (((-1)≤x8∧x8≤100000∧(0:Int)≤w64 (v5+1)∧w64 (v5+1)+(len x3:Int)≤(len x7:Int)∧len x7≤192) ∧
 br (!v8.snd)
 (K (.tup [.agg [dL v8.fst.words,dI v8.fst.fuel],.one (dI 7)]) [])
 (((0:Int)≤(0:Int)∧(0:Int)<(len v6:Int)) ∧
 ((-1)≤v8.fst.fuel∧v8.fst.fuel≤100000∧(0:Int)≤v5∧v5+(((len (nth v6 (Int.toNat 0) (Ty.dflt Ty.int)::[])):Nat):Int)≤(len v8.fst.words:Int)∧len v8.fst.words≤192) ∧
 br (!v10.snd)
 (K (.tup [.agg [dL v10.fst.words,dI v10.fst.fuel],.one (dI 7)]) [])
 (K (.tup [.agg [dL v10.fst.words,dI v10.fst.fuel],.one (dI 0)]) [])))
 v18)
 v18)):=by subst_vars; kernel_rfl

theorem zhx (ws r:List Int) (fu:Int) (rs:List (List Int)) (hl:rs.length≤5864062014806) (hs:smR rs=true) (K:KK)
  (hbad:∀ e,e≠0→gather 0 rs=e→K (.tup [.agg [dL [],dI 0],.one (dI e)]) [])
  (hend:∀ M,gather 0 rs=0→(allW rs).length≤31→goD Γ_q65 tab fn_q65 0 K (M+1) q65_L0 (q65_S0 (rs.length:Int) (((len rs):Nat):Int) 0 r rs (allW rs) 0 ws fu [])) :
  ∀ (d k:Nat),rs.length≤k+d→k≤rs.length→(allW (rs.take k)).length≤31→gather 0 rs=gather (allW (rs.take k)).length (rs.drop k) →
  goD Γ_q65 tab fn_q65 0 K (d+1) q65_L0 (q65_S0 (k:Int) (((len rs):Nat):Int) 0 r rs (allW (rs.take k)) 0 ws fu [])
 | 0,k,hk,hk2,ha,hg=>by
  have:k=rs.length:=by omega
  subst this
  rw [List.take_length] at ha hg ⊢
  rw [List.drop_length] at hg
  exact hend 0 hg ha
 | d+1,k,hk,hk2,ha,hg=>by
  by_cases c:k=rs.length
  ·subst c
   rw [List.take_length] at ha hg ⊢
   rw [List.drop_length] at hg
   exact hend (d+1) hg ha
  have ht:=z3u (l:=rs) (k:=k) (by omega) (Ty.dflt (.list .int))
  rw [z0q (by omega) (Ty.dflt (.list .int))] at hg
  have hm:nth rs k (Ty.dflt (.list .int))∈rs:=by
   have:k<rs.length:=by omega
   simp [nth,List.getD_eq_getElem?_getD,this]
  have hsm:=List.all_eq_true.1 hs _ hm
  simp only [decide_eq_true_eq] at hsm
  rw [z09 (L:=q65_L0),q65_vc0 _ _ _ _ _ _ _ _ _ _ _ _ _ rfl _ rfl _ rfl _ rfl _ rfl _ rfl _ rfl _ rfl _ rfl _ rfl _ rfl _ rfl _ rfl _ rfl _ rfl _ rfl _ rfl _ rfl _ rfl _ rfl,z08]
  obtain ⟨x,hx⟩:∃ x,nth rs k (Ty.dflt (.list .int))=x:=⟨_,rfl⟩
  rw [hx] at ht hg hsm ⊢
  simp only [gather] at hg
  refine z2o (by simp only [len]; omega) ⟨⟨by omega,by simp only [len]; omega⟩,by simp only [len]; omega,hsm,z1c (fun h1=>?_) (fun h1=>?_)⟩
  ·rw [if_neg h1] at hg
   exact hbad _ h1 hg
  ·rw [if_pos h1] at hg
   obtain ⟨r1,r2,r3⟩:=z1r h1
   refine ⟨by simp only [len]; omega,by simp only [len,z6m]; omega,z1a (fun h2=>?_) (fun h2=>?_)⟩
   ·simp only [len,cat,List.length_append,z6m] at h2
    rw [if_neg (by omega)] at hg
    exact hbad 8 (by decide) hg
   ·simp only [len,cat,List.length_append,z6m] at h2
    rw [if_pos (by omega)] at hg
    rw [z0f (by omega)]
    have e:cat (allW (rs.take k)) (recW x)=allW (rs.take (k+1)):=by rw [ht,zf8]; rfl
    have el:(allW (rs.take (k+1))).length=(allW (rs.take k)).length+1+x.length:=by rw [ht,zf8,List.length_append,z6m]; omega
    rw [e]
    exact zhx ws r fu rs hl hs K hbad hend d (k+1) (by omega) (by omega) (by rw [el]; omega) (by rw [hg,el])
theorem z9s (ws al:List Int) (fu g:Int) (s:Nat) (hs:s≤1) (h64:64≤ws.length) (h192:ws.length≤192) (f1:-1≤fu) (f2:fu≤100000) (hg0:0≤g) (hg1:g≤65535) (hal:al.length≤31) (P:Flash × Int→Prop)
  (hP:P (power (doCh ⟨ws,fu⟩ (wipeCh ((1-s:Nat):Int)++z0c (32*((1-s:Nat):Int)+1) al++z0c (32*((1-s:Nat):Int)) [g+1])))) :
  let o:=w64 (1-(s:Int))
  let a:=doCh ⟨ws,fu⟩ (wipeCh o)
  let b:=doCh ⟨a.1.words,a.1.fuel⟩ (z0c (w64 (w64 (o*32)+1)) al)
  let c:=doCh ⟨b.1.words,b.1.fuel⟩ (z0c (w64 (o*32)) [w64 (g+1)])
  (0≤o∧(o+1)*32≤(ws.length:Int)) ∧
  (a.2=false→P (a.1,7))∧((-1≤a.1.fuel∧a.1.fuel≤100000∧0≤w64 (w64 (o*32)+1)∧w64 (w64 (o*32)+1)+(al.length:Int)≤(a.1.words.length:Int)∧a.1.words.length≤192) ∧
  (a.2=true→b.2=false→P (b.1,7))∧((-1≤b.1.fuel∧b.1.fuel≤100000∧0≤w64 (o*32)∧w64 (o*32)+1≤(b.1.words.length:Int)∧b.1.words.length≤192) ∧
  (a.2=true→b.2=true→P (c.1,powerE c.2)))):=by
 intro o a b c
 have eo:o=((1-s:Nat):Int):=by show w64 (1-(s:Int))=_; rw [z0e (by omega) (by omega)]; omega
 have e1:w64 (o*32)=32*((1-s:Nat):Int):=by rw [eo,z0e (by omega) (by omega)]; omega
 have e2:w64 (w64 (o*32)+1)=32*((1-s:Nat):Int)+1:=by rw [e1,z0e (by omega) (by omega)]
 have e3:w64 (g+1)=g+1:=z0e (by omega) (by omega)
 have fa:=z31 ⟨ws,fu⟩ (wipeCh o) f1 f2
 have la:a.1.words.length=ws.length:=z4i ⟨ws,fu⟩ (wipeCh o)
 have fb:=z31 a.1 (z0c (w64 (w64 (o*32)+1)) al) fa.1 fa.2
 have lb:b.1.words.length=a.1.words.length:=z4i a.1 (z0c (w64 (w64 (o*32)+1)) al)
 rw [z33,z33] at hP
 have ea:doCh ⟨ws,fu⟩ (wipeCh ((1-s:Nat):Int))=a:=by rw [← eo]
 have eb:doCh a.1 (z0c (32*((1-s:Nat):Int)+1) al)=b:=by rw [← e2]
 have ec:doCh b.1 (z0c (32*((1-s:Nat):Int)) [g+1])=c:=by rw [← e1,← e3]
 rw [ea,eb] at hP
 refine ⟨by omega,fun h=>?_,⟨fa.1,fa.2,by omega,by omega,by omega⟩,fun h h'=>?_,⟨fb.1,fb.2,by omega,by omega,by omega⟩,fun h h'=>?_⟩
 ·rw [if_neg (by simp [h]),if_neg (by simp [h])] at hP
  simpa [power,h,powerE] using hP
 ·rw [if_pos h,if_neg (by simp [h'])] at hP
  simpa [power,h',powerE] using hP
 ·rw [if_pos h,if_pos h',ec] at hP
  exact hP
theorem run_q65 (hp:Sm r∧len keep*24≤140737488351232∧smR keep=true) (K:KK) (hK:K (.tup [.agg [dL (z0u ⟨ws,fu⟩ r keep).1.words,dI (z0u ⟨ws,fu⟩ r keep).1.fuel],.one (dI (z0u ⟨ws,fu⟩ r keep).2)]) []):GD Γ_q65 fn_q65 0 K [.agg [dL ws,dI fu],.one (dL r),.one (dR keep)] []:=by
 obtain ⟨hr,hk,hsm⟩:=hp
 refine ⟨(keep++[r]).length+1+1,?_⟩
 rw [z02,q65_vc _ _ _ _ _ _ _ rfl _ rfl]
 unfold z0u appendE at hK
 simp only [len] at hk
 refine z1c (fun h=>?_) (fun h=>?_)
 ·rw [if_neg h,if_neg h] at hK; exact hK
 rw [if_pos h] at hK
 refine ⟨hr,z1c (fun h2=>?_) (fun h2=>?_)⟩
 ·rw [if_neg h2,if_neg h2] at hK; exact hK
 rw [if_pos h2] at hK
 obtain ⟨k1,k2,k3,k4⟩:=z1w h
 obtain ⟨c1,c2,c3,c4⟩:=z10 k1
 obtain ⟨c5,c6⟩:=z6f c1
 simp only at k2 k3 k4 c2 c3 c4 c5 c6
 obtain ⟨r1,r2,r3⟩:=z1r h2
 have hlen:(keep++[r]).length=keep.length+1:=by simp
 obtain ⟨rs,hrs⟩:∃ rs,keep++[r]=rs:=⟨_,rfl⟩
 have hsr:smR rs=true:=by
  rw [← hrs]; unfold smR at hsm ⊢; rw [List.all_append,hsm]
  simp only [List.all_cons,List.all_nil,Bool.and_true,Bool.true_and,decide_eq_true_eq]; omega
 rw [hrs] at hlen ⊢
 refine ⟨by simp only [len]; omega,by simp only [len,List.length_cons,List.length_nil]; omega,?_⟩
 rw [show cat keep [r]=rs from hrs]
 rw [hrs] at hK
 have e0:allW (rs.take 0)=[]:=by simp [allW]
 have l0:(allW (rs.take 0)).length=0:=by rw [e0]; rfl
 refine zhx ws r fu rs (by omega) hsr K (fun e he hg=>?_) (fun M hg hal=>?_) rs.length 0 (by omega) (by omega) (by omega) (by rw [l0,List.drop_zero])
 ·rw [hg,if_neg he] at hK; exact hK
 rw [hg,if_pos rfl] at hK
 rw [z09 (L:=q65_L0),q65_vc0 _ _ _ _ _ _ _ _ _ _ _ _ _ rfl _ rfl _ rfl _ rfl _ rfl _ rfl _ rfl _ rfl _ rfl _ rfl _ rfl _ rfl _ rfl _ rfl _ rfl _ rfl _ rfl _ rfl _ rfl _ rfl,z08]
 unfold appendCh at hK
 have hls:=z6l ws
 have hgr:=z5c c4 (liveS ws)
 have hg1:z0k ws=genOf ws (liveS ws):=rfl
 have es:∀ s:Nat,Int.toNat (s:Int)=s:=fun _=>rfl
 simp only [hrs] at hK
 obtain ⟨s,hs⟩:∃ s,liveS ws=s:=⟨_,rfl⟩
 rw [hs] at hK hls ⊢
 obtain ⟨g,hgg⟩:∃ g,z0k ws=g:=⟨_,rfl⟩
 rw [hgg] at hK hg1 k3 k4 ⊢
 rw [z0e (n:=(s:Int)+1) (by omega) (by omega),z0e (n:=((s:Int)+1)*32) (by omega) (by omega)]
 have e6:(((len (recW r)):Nat):Int)=(r.length:Int)+1:=by simp only [len,z6m]; omega
 have e7:nth (recW r) (Int.toNat (0:Int)) (Ty.dflt Ty.int)=42240+(r.length:Int):=rfl
 rw [e6,e7,es s]
 simp only [len]
 have hthere:=fun (hP:K (.tup [.agg [dL (power (doCh ⟨ws,fu⟩ (thereCh (1-s) rs (g+1)))).1.words,dI (power (doCh ⟨ws,fu⟩ (thereCh (1-s) rs (g+1)))).1.fuel],.one (dI (power (doCh ⟨ws,fu⟩ (thereCh (1-s) rs (g+1)))).2)]) []) =>
  z9s ws (allW rs) fu g s hls k2 c6 c2 c3 (by omega) (by omega) hal (fun x=>K (.tup [.agg [dL x.1.words,dI x.1.fuel],.one (dI x.2)]) []) hP
 refine z22 (by omega) ⟨⟨k2,c4⟩,by omega,by omega,⟨by omega,by omega,k2,c6,c4⟩,?_⟩
 cases hsc:(scanS ws s).2 with
 | none =>
  rw [hsc] at hK
  simp only [room,Bool.false_eq_true,if_false] at hK
  simp only [nextI]
  refine z6r (z11.2 (by omega)) (z27 (fun h5=>?_) (fun h5=>?_))
  ·rw [if_pos h5] at hK; exact hK
  ·rw [if_neg h5] at hK
   obtain ⟨t1,t2,t3,t4,t5,t6⟩:=hthere hK
   refine ⟨⟨c2,c3,t1.1,t1.2,c6⟩,z4n t2 (fun q1=>⟨t3,z4n (t4 q1) (fun q2=>⟨t5,z4n (fun q3=>?_) (fun q3=>?_)⟩)⟩)⟩
   ·have:=t6 q1 q2; rw [q3] at this; exact this
   ·have:=t6 q1 q2; rw [q3] at this; exact this
 | some a =>
  have ha:=scanS_le (by omega) hsc
  rw [hsc] at hK
  simp only [nextI]
  rw [z0e (n:=32*(s:Int)+1+a+((r.length:Int)+1)) (by omega) (by omega),z0e (n:=32*(s:Int)+1+a+1) (by omega) (by omega)]
  refine z97 (z1u.2 (by omega)) (z0l (fun h5=>?_) (fun h5=>?_))
  ·rw [z1u] at h5
   rw [if_pos (show room r.length (some a)=true from by simp only [room,decide_eq_true_eq]; omega)] at hK
   simp only [Option.getD_some,hereCh] at hK
   rw [show ((32*s+1+a:Nat):Int)=32*(s:Int)+1+a by omega,z33] at hK
   obtain ⟨f1,f2⟩:=z31 ⟨ws,fu⟩ (z0c (32*(s:Int)+1+a+1) r) c2 c3
   have l1:=z4i ⟨ws,fu⟩ (z0c (32*(s:Int)+1+a+1) r)
   simp only at l1
   refine ⟨⟨c2,c3,by omega,by omega,c6⟩,z4n (fun q1=>?_) (fun q1=>⟨⟨by omega,by omega⟩,⟨f1,f2,by omega,by simp only [List.length_cons,List.length_nil]; omega,by omega⟩,z4n (fun q2=>?_) (fun q2=>?_)⟩)⟩
   ·rw [if_neg (by simp [q1])] at hK
    simpa only [power,q1,powerE] using hK
   ·rw [if_pos q1] at hK
    simp only [power] at hK
    rw [show (doCh (doCh ⟨ws,fu⟩ (z0c (32*(s:Int)+1+a+1) r)).1 (z0c (32*(s:Int)+1+a) [42240+(r.length:Int)])).2=false from q2] at hK
    exact hK
   ·rw [if_pos q1] at hK
    simp only [power] at hK
    rw [show (doCh (doCh ⟨ws,fu⟩ (z0c (32*(s:Int)+1+a+1) r)).1 (z0c (32*(s:Int)+1+a) [42240+(r.length:Int)])).2=true from q2] at hK
    exact hK
  ·rw [z11] at h5
   rw [if_neg (show ¬ room r.length (some a)=true from by simp only [room,decide_eq_true_eq]; omega)] at hK
   refine z27 (fun h5=>?_) (fun h5=>?_)
   ·rw [if_pos h5] at hK; exact hK
   ·rw [if_neg h5] at hK
    obtain ⟨t1,t2,t3,t4,t5,t6⟩:=hthere hK
    refine ⟨⟨c2,c3,t1.1,t1.2,c6⟩,z4n t2 (fun q1=>⟨t3,z4n (t4 q1) (fun q2=>⟨t5,z4n (fun q3=>?_) (fun q3=>?_)⟩)⟩)⟩
    ·have:=t6 q1 q2; rw [q3] at this; exact this
    ·have:=t6 q1 q2; rw [q3] at this; exact this
theorem sound_q65:z03 Tryz.prog tab n_q65 c_q65:=z01 ok_q65 hg_q65 (by
 intro vs bs p v bs' h hp
 unfold c_q65 at h
 split at h
 ·cases h
  exact ⟨by kernel_rfl,rfl,.inl (run_q65 _ _ _ _ hp.1 _ ⟨rfl,rfl⟩)⟩
 ·cases h)

def c_q135:z00:=fun vs bs=>match vs,bs with
 | [.one (.dat (.list .int) l),.one (.dat .int name)],[]=>some (none,.tup [.agg (cU (newU l name).1),.one (dI (newU l name).2)],[])
 | _,_=>none
def Γ_q135:Ctx:=[(n_q93,c_q93),(n_q26,c_q26),(n_q63,c_q63),(n_q44,c_q44),(n_q46,c_q46),(n_q65,c_q65)]
theorem ok_q135:Ok Tryz.prog tab Γ_q135:=((((((ok_nil.c hg_q65 sound_q65).c hg_q46 sound_q46).c hg_q44 sound_q44).c hg_q63 sound_q63).c hg_q26 sound_q26).c hg_q93 sound_q93)
theorem q135_vc (l:List Int) (name:Int) (rec:RK) (K:KK) v0 (hv0:v0=z0j l) v1 (hv1:v1=z0a (zeros (Int.toNat ((6:Int)*(32:Int))) (65535:Int)) formatCh) v2 (hv2:v2=fillS ⟨v1,(-1)⟩ 0 0 l) v3 (hv3:v3=sealS ⟨v2.fst.words,v2.fst.fuel⟩ 0 (len l:Int) name) v4 (hv4:v4=smR []) v5 (hv5:v5=z0u ⟨v3.fst.words,v3.fst.fuel⟩ ((1:Int)::(0:Int)::(0:Int)::[]) []):segD Γ_q135 tab fn_q135 0 K rec [.code (z05 fn_q135)] (z07 [.one (dL l),.one (dI name)] [])=(
 br (!(eqi v0 0))
 (K (.tup [.agg [dL [],dI (0:Int),dB false,dI (0:Int),dI (0:Int)],.one (dI v0)]) [])
 (List.length l≤140737488355328 ∧
 br (!(eqi v3.snd 0))
 (K (.tup [.agg [dL [],dI (0:Int),dB false,dI (0:Int),dI (0:Int)],.one (dI v3.snd)]) [])
 ((List.length ((1:Int)::(0:Int)::(0:Int)::[])≤140737488355328∧0*24≤140737488351232∧v4=true) ∧
 K (.tup [.agg [dL v5.fst.words,dI v5.fst.fuel,dB true,dI (0:Int),dI (0:Int)],.one (dI 0)]) []))):=by subst_vars; kernel_rfl

theorem run_q135 (K:KK) (hK:K (.tup [.agg (cU (newU l name).1),.one (dI (newU l name).2)]) []):GD Γ_q135 fn_q135 0 K [.one (dL l),.one (dI name)] []:=by
 obtain ⟨F,hF⟩:∃ F,F=z0a (zeros (Int.toNat ((6:Int)*(32:Int))) (65535:Int)) formatCh:=⟨_,rfl⟩
 refine ⟨1,Eq.mpr (q135_vc l name (goD Γ_q135 tab fn_q135 0 K 0) K _ rfl F hF _ rfl _ rfl _ rfl _ rfl) ?_⟩
 have e:(formatF (newFlash 6).1).1=⟨F,-1⟩:=by rw [hF]; kernel_rfl
 clear hF
 unfold newU factoryU at hK
 rw [e] at hK
 refine z1c (fun h=>?_) (fun h=>⟨?_,z1c (fun h2=>?_) (fun h2=>⟨⟨by simp,by omega,rfl⟩,?_⟩)⟩)
 ·rw [if_neg h] at hK; exact hK
 ·have:=z2k h; omega
 ·rw [if_pos h,if_neg (show ¬ (sealS (fillS ⟨F,-1⟩ 0 0 l).1 0 (l.length:Int) name).2=0 from h2)] at hK; exact hK
 ·rw [if_pos h,if_pos (show (sealS (fillS ⟨F,-1⟩ 0 0 l).1 0 (l.length:Int) name).2=0 from h2)] at hK; exact hK
theorem sound_q135:z03 Tryz.prog tab n_q135 c_q135:=z01 ok_q135 hg_q135 (by
 intro vs bs p v bs' h hp
 unfold c_q135 at h
 split at h
 ·cases h
  exact ⟨by kernel_rfl,rfl,.inl (run_q135 _ _ _ ⟨rfl,rfl⟩)⟩
 ·cases h)

def c_q256:z00:=fun vs bs=>match vs,bs with
 | [.one (.dat .int e)],[]=>some (none,.tup [.agg (cV noVehicle (.dat (Ty.list Ty.unitd) noVehicle.units) (.dat (Ty.list Ty.campaign) noVehicle.campaigns) (dM noVehicle.net)),.one (dI e)],[])
 | _,_=>none
def Γ_q256:Ctx:=[]
theorem ok_q256:Ok Tryz.prog tab Γ_q256:=ok_nil
theorem q256_vc (e:Int) (rec:RK) (K:KK):segD Γ_q256 tab fn_q256 0 K rec [.code (z05 fn_q256)] (z07 [.one (dI e)] [])=(
 K (.tup [.agg zV,.one (dI e)]) []):=by kernel_rfl

theorem run_q256 (K:KK) (hK:K (.tup [.agg (cV noVehicle (.dat (Ty.list Ty.unitd) noVehicle.units) (.dat (Ty.list Ty.campaign) noVehicle.campaigns) (dM noVehicle.net)),.one (dI e)]) []):GD Γ_q256 fn_q256 0 K [.one (dI e)] []:=by
 refine ⟨1,?_⟩
 rw [z02,q256_vc _ _ _]
 exact hK
theorem sound_q256:z03 Tryz.prog tab n_q256 c_q256:=z01 ok_q256 hg_q256 (by
 intro vs bs p v bs' h hp
 unfold c_q256 at h
 split at h
 ·cases h
  exact ⟨by kernel_rfl,rfl,.inl (run_q256 _ _ ⟨rfl,rfl⟩)⟩
 ·cases h)

def c_q257:z00:=fun vs bs=>match vs,bs with
 | [.agg [.dat (.list .str) b],.one (.dat (.list .signed) s),.agg [.dat .int rv,.dat (.list .int) rk,.dat .int rt],.one (.dat (.list (.list .int)) im)],[]=>some (some (len rk*8≤140737488355328),.tup [.agg [.dat (Ty.list Ty.str) (newV b s ⟨rv,rk,rt⟩ im).1.b,.dat (Ty.list Ty.signed) (newV b s ⟨rv,rk,rt⟩ im).1.s,dL (newV b s ⟨rv,rk,rt⟩ im).1.g.f.words,dI (newV b s ⟨rv,rk,rt⟩ im).1.g.f.fuel,dB (newV b s ⟨rv,rk,rt⟩ im).1.g.up,dI (newV b s ⟨rv,rk,rt⟩ im).1.g.t.r.version,dL (newV b s ⟨rv,rk,rt⟩ im).1.g.t.r.keys,dI (newV b s ⟨rv,rk,rt⟩ im).1.g.t.r.thr,dI (newV b s ⟨rv,rk,rt⟩ im).1.g.t.version,dLb (newV b s ⟨rv,rk,rt⟩ im).1.g.voted,dLb (newV b s ⟨rv,rk,rt⟩ im).1.g.did,.dat (Ty.list Ty.unitd) (newV b s ⟨rv,rk,rt⟩ im).1.units,.dat (Ty.list Ty.campaign) (newV b s ⟨rv,rk,rt⟩ im).1.campaigns,dM (newV b s ⟨rv,rk,rt⟩ im).1.net,dI (newV b s ⟨rv,rk,rt⟩ im).1.now],.one (dI (newV b s ⟨rv,rk,rt⟩ im).2)],[])
 | _,_=>none
def Γ_q257:Ctx:=[(n_q88,c_q88),(n_q114,c_q114),(n_q170,c_q170),(n_q222,c_q222),(n_q223,c_q223),(n_q97,c_q97),(n_q135,c_q135),(n_q256,c_q256)]
theorem ok_q257:Ok Tryz.prog tab Γ_q257:=((((((((ok_nil.c hg_q256 sound_q256).c hg_q135 sound_q135).c hg_q97 sound_q97).c hg_q223 sound_q223).c hg_q222 sound_q222).c hg_q170 sound_q170).c hg_q114 sound_q114).c hg_q88 sound_q88)
noncomputable def q257_L0:List It:=[.inLoop [63,62,61,15,10,9,8,4] (cSub fn_q257 [1,1,1,1,1,1,1,0,1,0,0]),.inBlock 0,.code (cSub fn_q257 [1,1,1,1,1,1,1,1])]
def q257_S0 (x0 x1:Int) (x2:List (List Int)) (x3:Int) (x4:List (List UInt8)) (x5:List Vm.Signed) (x6:List Int) (x7:Int) (x8:Bool) (x9:Int) (x10:List Int) (x11 x12:Int) (x13 x14:List Bool) (x15 x16:Int) (x17:Bool) (x18 x19 x20 x21:Int) (x22:List (List UInt8)) (x23:List Vm.UnitD) (x24:List Vm.Campaign) (x25:List Vm.Message) (x26:List (List UInt8)) (x27:List Vm.Signed) (x28 x29:List Int) (x30 x31:List Bool) (x32:List Vm.UnitD) (x33:List Vm.Campaign) (x34:List Vm.Message):St:=⟨[(63,.one (dI x0)),(62,.one (dI x1)),(61,.one (dR x2)),(15,.one (.ptr 0 0)),(10,.one (.fn n_q256 [])),(9,.one (dI x3)),(8,.one (.ptr 1 0)),(4,.one (.ptr 2 0))],[(0,.box [.dat (Ty.list Ty.str) x4,.dat (Ty.list Ty.signed) x5,dL x6,dI x7,dB x8,dI x9,dL x10,dI x11,dI x12,dLb x13,dLb x14,.own 3,.own 4,.own 5,dI x15]),(1,.box [.own 6,.own 7,.own 8,dI x16,dB x17,dI x18,.own 9,dI x19,dI x20,.own 10,.own 11,.own 12,.own 13,.own 14,dI x21]),(2,.box [.dat (Ty.list Ty.str) x22]),(3,.arr Ty.unitd x23),(4,.arr Ty.campaign x24),(5,.arr Ty.message x25),(6,.arr Ty.str x26),(7,.arr Ty.signed x27),(8,.arr Ty.int x28),(9,.arr Ty.int x29),(10,.arr Ty.bool x30),(11,.arr Ty.bool x31),(12,.arr Ty.unitd x32),(13,.arr Ty.campaign x33),(14,.arr Ty.message x34)],15⟩
theorem q257_vc (b:List (List UInt8)) (s:List Signed) (rv:Int) (rk:List Int) (rt:Int) (im:List (List Int)) (rec:RK) (K:KK) v0 (hv0:v0=z0r b) v1 (hv1:v1=checkSigned s) v2 (hv2:v2=newG ⟨rv,rk,rt⟩ (len im:Int)):segD Γ_q257 tab fn_q257 0 K rec [.code (z05 fn_q257)] (z07 [.agg [.dat (Ty.list Ty.str) b],.one (.dat (Ty.list Ty.signed) s),.agg [dI rv,dL rk,dI rt],.one (dR im)] [])=(
 br (!(eqi v0 0))
 (K (.tup [.agg zV,.one (dI v0)]) [])
 (br (!(eqi v1 0))
 (K (.tup [.agg zV,.one (dI v1)]) [])
 (len rk*8≤140737488355328 ∧
 br (!(eqi v2.snd 0))
 (K (.tup [.agg zV,.one (dI v2.snd)]) [])
 (len b*16≤140737488355328 ∧
 len s*16≤140737488355328 ∧
 rec q257_L0 (q257_S0 0 (len im:Int) im 0 b s v2.fst.f.words v2.fst.f.fuel v2.fst.up v2.fst.t.r.version v2.fst.t.r.keys v2.fst.t.r.thr v2.fst.t.version v2.fst.voted v2.fst.did 0 0 false 0 0 0 0 b [] [] [] [] [] [] [] [] [] [] [] []))))):=by subst_vars; kernel_rfl
theorem zi7 (x0 x1:Int) (x2:List (List Int)) (x3:Int) (x4:List (List UInt8)) (x5:List Vm.Signed) (x6:List Int) (x7:Int) (x8:Bool) (x9:Int) (x10:List Int) (x11 x12:Int) (x13 x14:List Bool) (x15 x16:Int) (x17:Bool) (x18 x19 x20 x21:Int) (x22:List (List UInt8)) (x23:List Vm.UnitD) (x24:List Vm.Campaign) (x25:List Vm.Message) (x26:List (List UInt8)) (x27:List Vm.Signed) (x28 x29:List Int) (x30 x31:List Bool) (x32:List Vm.UnitD) (x33:List Vm.Campaign) (x34:List Vm.Message) (rec:RK) (K:KK) v0 (hv0:v0=z0m x22 (nth x2 (Int.toNat x0) (Ty.dflt (Ty.list Ty.int)))) v1 (hv1:v1=newU (nth x2 (Int.toNat x0) (Ty.dflt (Ty.list Ty.int))) v0.fst) v2 (hv2:v2=br (!(eqi v0.snd 0))
 (K (.tup [.agg zV,.one (dI v0.snd)]) [])
 (br (!(eqi v1.snd 0))
 (K (.tup [.agg zV,.one (dI v1.snd)]) [])
 ((len x23+len ((⟨⟨v1.fst.f.words,v1.fst.f.fuel⟩,v1.fst.up,v1.fst.n,v1.fst.got⟩:Vm.UnitD)::[]))*56≤140737488355328 ∧
 rec q257_L0 (q257_S0 (w64 (x0+1)) x1 x2 x3 x4 x5 x6 x7 x8 x9 x10 x11 x12 x13 x14 x15 x16 x17 x18 x19 x20 x21 x22 (cat x23 ((⟨⟨v1.fst.f.words,v1.fst.f.fuel⟩,v1.fst.up,v1.fst.n,v1.fst.got⟩:Vm.UnitD)::[])) x24 x25 x26 x27 x28 x29 x30 x31 x32 x33 x34)))):segD Γ_q257 tab fn_q257 0 K rec (ent q257_L0) (q257_S0 x0 x1 x2 x3 x4 x5 x6 x7 x8 x9 x10 x11 x12 x13 x14 x15 x16 x17 x18 x19 x20 x21 x22 x23 x24 x25 x26 x27 x28 x29 x30 x31 x32 x33 x34)=(
 br (lti x0 x1)
 (((0:Int)≤x0∧x0<(len x2:Int)) ∧
 List.length x22≤140737488355328 ∧
 br (eqi v0.snd 0)
 (br (eqi v0.fst 0)
 (K (.tup [.agg zV,.one (dI 5)]) [])
 v2)
 v2)
 (K (.tup [.agg [.dat (Ty.list Ty.str) x4,.dat (Ty.list Ty.signed) x5,dL x6,dI x7,dB x8,dI x9,dL x10,dI x11,dI x12,dLb x13,dLb x14,.dat (Ty.list Ty.unitd) x23,.dat (Ty.list Ty.campaign) x24,dM x25,dI x15],.one (dI 0)]) [])):=by subst_vars; kernel_rfl

def newF (b:List (List UInt8)) (s:List Signed) (G:Gate) (acc:List UnitD) (l:List (List Int)):Vehicle × Int :=
 if (madeU b l).2=0 then (⟨b,s,G,acc++(madeU b l).1,[],[],0⟩,0) else (noVehicle,(madeU b l).2)
theorem zg1 (b:List (List UInt8)) (s:List Signed) (G:Gate) (im:List (List Int)) (hb:b.length≤140737488355328) (hi:im.length≤4) (K:KK):∀ (d k:Nat) (acc:List UnitD),k+d=im.length→acc.length≤k →
  K (.tup [.agg (cV (newF b s G acc (im.drop k)).1 (.dat (Ty.list Ty.unitd) (newF b s G acc (im.drop k)).1.units) (.dat (Ty.list Ty.campaign) (newF b s G acc (im.drop k)).1.campaigns) (dM (newF b s G acc (im.drop k)).1.net)),.one (dI (newF b s G acc (im.drop k)).2)]) [] →
  goD Γ_q257 tab fn_q257 0 K (d+1) q257_L0 (q257_S0 (k:Int) (((len im):Nat):Int) im 0 b s G.f.words G.f.fuel G.up G.t.r.version G.t.r.keys G.t.r.thr G.t.version G.voted G.did 0 0 false 0 0 0 0 b acc [] [] [] [] [] [] [] [] [] [] [])
 | 0,k,acc,hk,ha,hK=>by
  rw [z09 (L:=q257_L0),zi7 _ _ _ _ _ _ _ _ _ _ _ _ _ _ _ _ _ _ _ _ _ _ _ _ _ _ _ _ _ _ _ _ _ _ _ _ _ _ rfl _ rfl _ rfl]
  rw [List.drop_of_length_le (by omega),show newF b s G acc []=(⟨b,s,G,acc,[],[],0⟩,0) from by simp [newF,madeU]] at hK
  exact z22 (by simp only [len]; omega) hK
 | d+1,k,acc,hk,ha,hK=>by
  rw [z09 (L:=q257_L0),zi7 _ _ _ _ _ _ _ _ _ _ _ _ _ _ _ _ _ _ _ _ _ _ _ _ _ _ _ _ _ _ _ _ _ _ _ _ _ _ rfl _ rfl _ rfl,z08]
  rw [z0q (l:=im) (by omega) (Ty.dflt (.list .int))] at hK
  obtain ⟨w,hw⟩:∃ w,nth im k (Ty.dflt (.list .int))=w:=⟨_,rfl⟩
  rw [hw] at hK ⊢
  obtain ⟨r,hr⟩:∃ r,im.drop (k+1)=r:=⟨_,rfl⟩
  refine z2o (by simp only [len]; omega) ⟨⟨by omega,by simp only [len]; omega⟩,hb,?_⟩
  by_cases h1:(z0m b w).2=0
  ·refine zgj h1 (z27 (fun h2=>?_) (fun h2=>z1c (fun h=>absurd h1 h) (fun _=>z1c (fun h3=>?_) (fun h3=>⟨by simp only [len,List.length_cons,List.length_nil]; omega,?_⟩))))
   ·rw [show newF b s G acc (w::im.drop (k+1))=(noVehicle,5) from by simp [newF,madeU,h1,h2]] at hK
    exact hK
   ·rw [show newF b s G acc (w::im.drop (k+1))=(noVehicle,(newU w (z0m b w).1).2) from by simp [newF,madeU,h1,h2,h3]] at hK
    exact hK
   ·rw [show newF b s G acc (w::im.drop (k+1))=newF b s G (acc++[(newU w (z0m b w).1).1]) (im.drop (k+1)) from by
     rw [hr]
     by_cases h4:(madeU b r).2=0
     ·simp [newF,madeU,h1,h2,h3,h4]
     ·simp [newF,madeU,h1,h2,h3,h4]] at hK
    rw [z0f (by omega)]
    exact zg1 b s G im hb hi K d (k+1) (acc++[(newU w (z0m b w).1).1]) (by omega) (by simp; omega) hK
  ·refine zfd h1 (z1c (fun h=>?_) (fun h=>absurd h h1))
   rw [show newF b s G acc (w::im.drop (k+1))=(noVehicle,(z0m b w).2) from by simp [newF,madeU,h1]] at hK
   exact hK
theorem run_q257 (s:List Vm.Signed) (hp:len rk*8≤140737488355328) (K:KK) (hK:K (.tup [.agg [.dat (Ty.list Ty.str) (newV b s ⟨rv,rk,rt⟩ im).1.b,.dat (Ty.list Ty.signed) (newV b s ⟨rv,rk,rt⟩ im).1.s,dL (newV b s ⟨rv,rk,rt⟩ im).1.g.f.words,dI (newV b s ⟨rv,rk,rt⟩ im).1.g.f.fuel,dB (newV b s ⟨rv,rk,rt⟩ im).1.g.up,dI (newV b s ⟨rv,rk,rt⟩ im).1.g.t.r.version,dL (newV b s ⟨rv,rk,rt⟩ im).1.g.t.r.keys,dI (newV b s ⟨rv,rk,rt⟩ im).1.g.t.r.thr,dI (newV b s ⟨rv,rk,rt⟩ im).1.g.t.version,dLb (newV b s ⟨rv,rk,rt⟩ im).1.g.voted,dLb (newV b s ⟨rv,rk,rt⟩ im).1.g.did,.dat (Ty.list Ty.unitd) (newV b s ⟨rv,rk,rt⟩ im).1.units,.dat (Ty.list Ty.campaign) (newV b s ⟨rv,rk,rt⟩ im).1.campaigns,dM (newV b s ⟨rv,rk,rt⟩ im).1.net,dI (newV b s ⟨rv,rk,rt⟩ im).1.now],.one (dI (newV b s ⟨rv,rk,rt⟩ im).2)]) []):GD Γ_q257 fn_q257 0 K [.agg [.dat (Ty.list Ty.str) b],.one (.dat (Ty.list Ty.signed) s),.agg [dI rv,dL rk,dI rt],.one (dR im)] []:=by
 refine ⟨im.length+2,?_⟩
 rw [z02,q257_vc _ _ _ _ _ _ _ _ _ rfl _ rfl _ rfl]
 unfold newV at hK
 refine z1c (fun h=>?_) (fun h=>z1c (fun h2=>?_) (fun h2=>⟨hp,z1c (fun h3=>?_) (fun h3=>?_)⟩))
 ·rw [if_neg h] at hK; exact hK
 ·rw [if_pos h,if_neg h2] at hK; exact hK
 ·rw [if_pos h,if_pos h2,if_neg (show ¬ (newG ⟨rv,rk,rt⟩ im.length).2=0 from h3)] at hK; exact hK
 ·have hb:=z3k h
  have hs:=z6s h2
  have hi:=zjt h3
  rw [if_pos h,if_pos h2,if_pos (show (newG ⟨rv,rk,rt⟩ im.length).2=0 from h3)] at hK
  refine ⟨by simp only [len]; omega,by simp only [len]; omega,?_⟩
  refine zg1 b s (newG ⟨rv,rk,rt⟩ im.length).1 im (by omega) (by simp only [len] at hi; omega) K im.length 0 [] (by omega) (Nat.le_refl _) ?_
  exact hK
theorem sound_q257:z03 Tryz.prog tab n_q257 c_q257:=z01 ok_q257 hg_q257 (by
 intro vs bs p v bs' h hp
 unfold c_q257 at h
 split at h
 ·cases h
  exact ⟨by kernel_rfl,rfl,.inl (run_q257 _ _ _ _ _ _ hp.1 _ ⟨rfl,rfl⟩)⟩
 ·cases h)
end Go.Proofs.YtlbppjmekiemiacGreatDoor
