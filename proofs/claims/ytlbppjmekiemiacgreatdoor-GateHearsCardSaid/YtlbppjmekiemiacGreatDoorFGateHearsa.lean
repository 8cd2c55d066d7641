/- What the functions of GateHears compute (part 1 of 3). No condition. -/
import Derived.Test.YtlbppjmekiemiacGreatDoorTab
import Derived.Test.YtlbppjmekiemiacGreatDoorSpec
import Derived.KernelRfl
import Derived.WalkKit
import Derived.Lib.Mul64
import Derived.Laws.Bits64b
import Derived.Test.YtlbppjmekiemiacGreatDoorShelf
import Derived.Shelf.Spec.SlicesGrow
/- math/bits.Mul: the whole product. Both factors are of 64 bits. -/
namespace Go.Proofs.YtlbppjmekiemiacGreatDoor
open Go.RowKit Go.Lib Vm
namespace Mul64
theorem maskN (a:Nat) (ha:a<18446744073709551616):bits .and .u64 (a:Int) 4294967295=((a % 4294967296:Nat):Int):=by
 have h:=bits_and_u64_nat a 4294967295 ha (by omega)
 have e:a &&& 4294967295=a % 4294967296:=Nat.and_two_pow_sub_one_eq_mod a 32
 rw [e] at h
 exact h
theorem divN (a:Nat):(a:Int) / 4294967296=((a / 4294967296:Nat):Int):=by omega
theorem mulN (a b:Nat):(a:Int)*(b:Int)=((a*b:Nat):Int):=(Int.natCast_mul a b).symm
theorem addN (a b:Nat):(a:Int)+(b:Int)=((a+b:Nat):Int):=(Int.natCast_add a b).symm
theorem wrapN (a:Nat) (ha:a<18446744073709551616):IntKind.u64.wrap (a:Int)=(a:Int):=by rw [IntKind.wrap_u64]; omega
theorem wrapM (a:Nat):IntKind.u64.wrap (a:Int)=((a % 18446744073709551616:Nat):Int):=by rw [IntKind.wrap_u64]; omega
end Mul64
set_option maxHeartbeats 1000000 in
theorem mul64_any (x y:Nat) (hx:x<18446744073709551616) (hy:y<18446744073709551616) (w:World) :
  Calls Tryz.prog 190 #[.int .u64 x,.int .u64 y] w fun e w'=>e=.returned (.tuple #[.int .u64 ((x*y / 18446744073709551616:Nat):Int),.int .u64 ((x*y % 18446744073709551616:Nat):Int)])∧w'=w:=by
 obtain ⟨bd,bt,bw,hhi⟩:=Lib.mul64_hi x y hx hy
 have ba:=Lib.half_mul_le (a:=x / 4294967296) (b:=y / 4294967296) (by omega) (by omega)
 have bb:=Lib.half_mul_le (a:=x / 4294967296) (b:=y % 4294967296) (by omega) (by omega)
 have bc:=Lib.half_mul_le (a:=x % 4294967296) (b:=y / 4294967296) (by omega) (by omega)
 have ba':x / 4294967296*(y / 4294967296)<18446744073709551616:=by omega
 have bb':x / 4294967296*(y % 4294967296)<18446744073709551616:=by omega
 have bc':x % 4294967296*(y / 4294967296)<18446744073709551616:=by omega
 have bh1:x / 4294967296*(y / 4294967296)+(x / 4294967296*(y % 4294967296)+x % 4294967296*(y % 4294967296) / 4294967296) / 4294967296<18446744073709551616:=by omega
 have bh:x / 4294967296*(y / 4294967296)+(x / 4294967296*(y % 4294967296)+x % 4294967296*(y % 4294967296) / 4294967296) / 4294967296+((x / 4294967296*(y % 4294967296)+x % 4294967296*(y % 4294967296) / 4294967296) % 4294967296+x % 4294967296*(y / 4294967296)) / 4294967296<18446744073709551616:=by omega
 go_enter Tryz.func190,Tryz.ntmps190
 go_wp2
 simp only [Mul64.maskN x hx,Mul64.maskN y hy,Mul64.divN,Mul64.mulN,Mul64.addN,Mul64.wrapN _ bd,Mul64.wrapN _ bb',Mul64.wrapN _ bt,Mul64.maskN _ bt,Mul64.wrapN _ bc',Mul64.wrapN _ bw,Mul64.wrapN _ ba',Mul64.wrapN _ bh1,Mul64.wrapN _ bh,Mul64.wrapM (x*y)]
 rw [hhi]
 go_ret2
 exact ⟨rfl,rfl⟩
set_option maxHeartbeats 1000000 in
theorem mul_any (x y:Nat) (hx:x<18446744073709551616) (hy:y<18446744073709551616) (w:World) :
  Calls Tryz.prog 144 #[.int .u64 x,.int .u64 y] w fun e w'=>e=.returned (.tuple #[.int .u64 ((x*y / 18446744073709551616:Nat):Int),.int .u64 ((x*y % 18446744073709551616:Nat):Int)])∧w'=w:=by
 have c64:=mul64_any x y hx hy w
 go_enter Tryz.func144,Tryz.ntmps144
 go_wp2_with (go_at_call 190; refine c64.mono ?_; rintro e w' ⟨rfl,hw⟩; rw [hw])
 go_ret2
 exact ⟨rfl,rfl⟩
def c_q24:Contract:=fun vs bs=>match vs,bs with
 | [.one (.dat .u64 a),.one (.dat .u64 b)],[]=>some (some (inU64 a=true∧inU64 b=true),.tup [.one (.dat .u64 ((a*b) / two64)),.one (.dat .u64 ((a*b) % two64))],[])
 | _,_=>none
theorem sound_q24:SoundC Tryz.prog tab n_q24 c_q24:=by
 intro vs bs p v bs' h hp w S μ xs I hx
 unfold c_q24 at h
 split at h
 ·cases h
  rename_i a b
  obtain ⟨⟨h1,h2⟩,_⟩:=hp
  simp only [inU64,Bool.and_eq_true,decide_eq_true_eq] at h1 h2
  obtain ⟨x,rfl⟩:=Int.eq_ofNat_of_zero_le h1.1
  obtain ⟨y,rfl⟩:=Int.eq_ofNat_of_zero_le h2.1
  match xs,hx with
  | [X,Y],⟨g1,g2,_⟩ =>
   have e1:=rel_u64 g1
   have e2:=rel_u64 g2
   subst e1 e2
   refine (mul_any x y (by omega) (by omega) w).mono fun e w' ⟨he,hw⟩=>?_
   subst hw he
   refine ⟨_,μ,S,rfl,Ext.refl,I,_,rfl,rfl,fun i u hu=>?_⟩
   match i,hu with
   | 0,hu=>cases hu; exact ⟨_,rfl,mk_u64 _⟩
   | 1,hu=>cases hu; exact ⟨_,rfl,mk_u64 _⟩
 ·cases h
end Go.Proofs.YtlbppjmekiemiacGreatDoor

/- strconv.Itoa: the shelf's contract as one of ours. The number is no less than 0. -/
namespace Go.Proofs.YtlbppjmekiemiacGreatDoor
open Go.RowKit Go.Lib Go.Sort Vm
def c_q84:Contract:=fun vs bs=>match vs,bs with
 | [.one (.dat .int n)],[]=>some (some (0≤n∧n≤9223372036854775807),.one (.dat .str (numT n)),[])
 | _,_=>none
theorem sound_q84:SoundC Tryz.prog tab n_q84 c_q84:=by
 intro vs bs p v bs' h hp w S μ xs I hx
 unfold c_q84 at h
 split at h
 ·cases h
  rename_i n
  obtain ⟨⟨h1,h2⟩,_⟩:=hp
  have h1:(0:Int)≤n:=h1
  have h2:(n:Int)≤9223372036854775807:=h2
  match xs,hx with
  | [X],⟨g1,_⟩ =>
   have e1:=rel_int g1
   subst e1
   obtain ⟨g,hg⟩:∃ g,tab.pow=some g:=⟨_,rfl⟩
   obtain ⟨_,ty,m,hb⟩:=I.pow.t g hg
   have htab : Go.Lib.TabIs Tryz.prog w "internal/strconv.uint64pow10" .u64 Go.Lib.pow10Tab := by
    have hgn : Tryz.prog.globalNamed "internal/strconv.uint64pow10" = tab.pow := by kernel_rfl
    unfold Go.Lib.TabIs World.var?
    rw [hgn,hg]
    simp only [Option.bind_some,hb]
    rfl
   refine (Tryz.strconv_Itoa n (by omega) h2 w htab).mono fun e w' ⟨he,k,os,hw⟩=>?_
   subst hw he
   have hsz:(grow (w.drewN k) os).heap=w.heap++os:=rfl
   have E:Ext μ (memL []) w S μ (memL []) (grow (w.drewN k) os) S:=⟨fun _ h=>h,(Ext.refl (μ:=μ) (mem:=memL []) (w:=w) (S:=S)).kinds,fun _ h=>h,by rw [hsz]; simp,fun b hb _=>by rw [hsz,Array.getElem?_append_left hb],fun _ h=>.inl h,fun _ h=>.inl h,rfl,rfl,rfl⟩
   refine ⟨_,μ,S,rfl,E,⟨fun r B h=>by simp [memL] at h,fun r r' _ ⟨B,h,_⟩=>by simp [memL] at h,fun r ⟨B,h,_⟩=>by simp [memL] at h,fun b hb=>Nat.lt_of_lt_of_le (I.lt b hb) E.size,I.powExt E⟩,?_⟩
   rw [itoa_eq h1 h2]
   exact mk_str _
 ·cases h
end Go.Proofs.YtlbppjmekiemiacGreatDoor

/- strings.Join: the shelf's contract as one of ours. What comes of it is no longer than memory holds. -/
namespace Go.Proofs.YtlbppjmekiemiacGreatDoor
open Go.RowKit Go.Lib Vm
theorem below_EI {μ:Mu} {w w':World} {S:Nat→Prop} (I:Inv tab μ (memL []) w S) (hb:Below w.heap.size w w'):Ext μ (memL []) w S μ (memL []) w' S∧Inv tab μ (memL []) w' S:=by
 have E:Ext μ (memL []) w S μ (memL []) w' S:=⟨fun _ h=>h,(Ext.refl (μ:=μ) (mem:=memL []) (w:=w) (S:=S)).kinds,fun _ h=>h,hb.size,fun b hlt _=>hb.block b hlt,fun _ h=>.inl h,fun _ h=>.inl h,hb.os,hb.tape,hb.output⟩
 exact ⟨E,⟨fun r B h=>by simp [memL] at h,fun r r' _ ⟨B,h,_⟩=>by simp [memL] at h,fun r ⟨B,h,_⟩=>by simp [memL] at h,fun b hb=>Nat.lt_of_lt_of_le (I.lt b hb) E.size,I.powExt E⟩⟩
def c_q85:Contract:=fun vs bs=>match vs,bs with
 | [.one (.dat (.list .str) l),.one (.dat .str sep)],[]=>some (some (l.length≤140737488355328∧(joinT sep l).length≤140737488355328),.one (.dat .str (joinT sep l)),[])
 | _,_=>none
theorem sound_q85:SoundC Tryz.prog tab n_q85 c_q85:=by
 intro vs bs p v bs' h hp w S μ xs I hx
 unfold c_q85 at h
 split at h
 ·cases h
  rename_i l sep
  obtain ⟨⟨h1,h2⟩,_⟩:=hp
  match xs,hx with
  | [X,Y],⟨g1,g2,_⟩ =>
   have e2:=rel_str g2
   subst e2
   obtain ⟨_,hr⟩:=g1
   cases hr with
   | empty t a cap =>
    refine (Tryz.strings_Join_none a cap ⟨sep.toArray⟩ w).mono fun e w' ⟨he,hw⟩=>?_
    subst hw he
    exact ⟨_,μ,S,rfl,Ext.refl,I,mk_str []⟩
   | list t l b off cap cs hS hcap hc hr =>
    have hm:(l.map fun s:List UInt8=>(⟨s.toArray⟩:ByteArray)).map (·.data.toList)=l:=by simp [List.map_map,Function.comp_def]
    have hj:(Go.Lib.join ((l.map fun s:List UInt8=>(⟨s.toArray⟩:ByteArray)).map (·.data.toList)) (⟨sep.toArray⟩:ByteArray).data.toList)=joinT sep l:=by rw [hm]; exact join_eq sep l
    have key:=Tryz.strings_Join b off cap (l.map fun s:List UInt8=>(⟨s.toArray⟩:ByteArray)) ⟨sep.toArray⟩ w (fun j x hx=>by
     rw [List.getElem?_map] at hx
     obtain ⟨s,hs,rfl⟩:=Option.map_eq_some_iff.1 hx
     have hjl:j<l.length:=(List.getElem?_eq_some_iff.1 hs).1
     have c1:=hc j 0 hjl (by decide)
     have e:nth l j (Ty.dflt .str)=s:=by simp [nth,List.getD_eq_getElem?_getD,hs]
     have c2:=hr j 0 (.dat .str s) hjl (by rw [e]; rfl)
     have c3:cs j 0=.string ⟨s.toArray⟩:=by
      generalize cs j 0=y at c2
      cases c2; rfl
     rw [c3] at c1
     simpa [at0,Ty.width] using c1) (I.lt b hS) (by simpa using h1) (by simpa using hcap) (by rw [hj]; exact h2)
    rw [List.length_map,hj] at key
    refine key.mono fun e w' ⟨he,hb⟩=>?_
    subst he
    obtain ⟨E,I'⟩:=below_EI I hb
    exact ⟨_,μ,S,rfl,E,I',mk_str _⟩
 ·cases h
end Go.Proofs.YtlbppjmekiemiacGreatDoor

/- slices.Grow of no list: the shelf's contract, laid at this program. n is no less than 0. -/
namespace Go.Proofs.YtlbppjmekiemiacGreatDoor
open Go.RowKit Go.Lib Vm Go.Shelf
def growC_change_ren:Go.Shelf.Ren:=⟨fun | 4=>208 | n=>n,fun | 22=>220 | 25=>256 | n=>n,fun n=>n⟩
theorem growC_change:Lays8.n4 Tryz.prog growC_change_ren:={
 mixed:=by kernel_rfl
 f4:=⟨Tryz.f208.name,by decide,Tryz.func208.trans (congrArg some (by kernel_rfl))⟩
 t0:=by kernel_rfl
 a0:=fun _=>by kernel_rfl
 z0:=fun _=>by kernel_rfl
 v0:=fun _=>by kernel_rfl
 t3:=by kernel_rfl
 a3:=fun _=>by kernel_rfl
 z3:=fun _=>by kernel_rfl
 v3:=fun _=>by kernel_rfl
 t4:=by kernel_rfl
 a4:=fun _=>by kernel_rfl
 z4:=fun _=>by kernel_rfl
 v4:=fun _=>by kernel_rfl
 t9:=by kernel_rfl
 a9:=fun _=>by kernel_rfl
 z9:=fun _=>by kernel_rfl
 v9:=fun _=>by kernel_rfl
 t20:=by kernel_rfl
 a20:=fun _=>by kernel_rfl
 z20:=fun _=>by kernel_rfl
 v20:=fun _=>by kernel_rfl
 t22:=by kernel_rfl
 a22:=fun _=>by kernel_rfl
 z22:=fun _=>by kernel_rfl
 v22:=fun _=>by kernel_rfl }
def c_q74:Contract:=fun vs bs=>match vs,bs with
 | [.one (.nil .change),.one (.dat .int n)],[]=>some (some (0≤n∧n≤100000),.one (.own 0),[.arr .change []])
 | _,_=>none
theorem sound_q74:SoundC Tryz.prog tab n_q74 c_q74:=by
 intro vs bs p v bs' h hp w S μ xs I hx
 unfold c_q74 at h
 split at h
 ·cases h
  rename_i n
  obtain ⟨⟨h1,h2⟩,_⟩:=hp
  obtain ⟨k,rfl⟩:=Int.eq_ofNat_of_zero_le h1
  have h2:(k:Int)≤100000:=h2
  match xs,hx with
  | [X,Y],⟨g1,g2,_⟩ =>
   have e1:X=.slice none 0 0:=g1.2
   have e2:=rel_int g2
   subst e1 e2
   have hm:memL ([]:List Blk) 0=none:=rfl
   have hml:memU [(0,Blk.arr .change [])] (memL [])=memL [.arr .change []]:=by
    funext q
    by_cases e:q=0
    ·subst e; rfl
    ·rw [memU_ne e]
     cases q with
     | zero=>exact absurd rfl e
     | succ q=>rfl
   by_cases hk:k=0
   ·subst hk
    refine (Any8.slices_Grow_room growC_change none 0 0 0 w (by omega) (by omega) (by omega) (by omega)).mono fun e w' ⟨he,hw⟩=>?_
    subst hw he
    obtain ⟨E,I'⟩:=name_EI (t:=.change) I hm
    rw [hml] at E I'
    exact ⟨_,_,S,rfl,E,I',rfl,(fun h=>by cases h),fun _ _ _=>muU_eq⟩
   ·obtain ⟨ti,ht,hkk,hby⟩:∃ ti,tyAt tab 220=some ti∧ti.isSlice .change=true∧ti.bytes=16:=⟨_,rfl,rfl,rfl⟩
    obtain ⟨e,i,z,hs⟩:=und_slice tab_ok ht hkk
    have he:e=256:=by
     have h1:=hs.und
     have h2:Tryz.prog.underlying 220=some (.slice 256):=growC_change.t22
     rw [h2] at h1
     cases h1; rfl
    subst he
    have hw2:Ty.width .change=2:=rfl
    refine (Any8.slices_Grow_grow growC_change i z hs.info hs.zero (by rw [hs.size]; decide) none 0 0 k [] w (by omega) (by omega) (by rw [hs.bytes,hby]; omega) (by omega) (by simp) (fun _=>rfl) (fun a h=>by cases h)).mono fun e w' ⟨he,hw⟩=>?_
    have hge:=grownCap_ge w (0+k) 0 (growC_change_ren.t 25)
    have hgm:=grownCap_le_maxLen w (0+k) 0 (growC_change_ren.t 25) (by unfold maxLen; omega)
    generalize grownCap w (0+k) 0 (growC_change_ren.t 25)=G at he hw hge hgm
    generalize hcur:(([]:List Value).toArray++Builtin.zeroCells z.cells (0+k-0)++Builtin.zeroCells z.cells (G-(0+k)))=cur at hw
    have hcsz:cur.size=G*2:=by
     subst hcur
     simp only [Array.size_append,List.size_toArray,List.length_nil,size_zeroCells,hs.zs,hw2]
     omega
    subst hw he
    have hl:(Loc.ar (.slice (some (at0 w.heap.size 0)) 0 G)).block=some w.drew.heap.size∨(Loc.ar (.slice (some (at0 w.heap.size 0)) 0 G)).block=none:=.inl rfl
    have Ed:Ext μ (memL []) w S μ (memL []) w.drew S:=⟨fun _ h=>h,(Ext.refl (μ:=μ) (mem:=memL []) (w:=w) (S:=S)).kinds,fun _ h=>h,Nat.le_refl _,fun _ _ _=>rfl,fun _ h=>.inl h,fun _ h=>.inl h,rfl,rfl,rfl⟩
    have Id:Inv tab μ (memL []) w.drew S:=⟨fun q B h1 h2=>by obtain ⟨l',e1,e2⟩:=I.rel q B h1 h2; exact ⟨l',e1,e2.ext Ed I fun _ _=>rfl⟩,I.inj,I.sep,I.lt,I.pow.of_heap rfl⟩
    have E1:=alloc_E (μ:=μ) (S:=S) (w:=w.drew) (o:=.cells cur (growC_change_ren.t 25)) (B:=.arr .change []) hm hl
    have I1:=alloc_I (o:=.cells cur (growC_change_ren.t 25)) (B:=.arr .change []) hm hl Id
     (.inr ⟨w.heap.size,G,cur,growC_change_ren.t 25,rfl,heap_alloc_new w.drew _,Nat.zero_le _,hgm,by rw [hcsz,hw2]; exact Nat.le_refl _,fun i j c hi=>by cases hi⟩)
    rw [hml] at E1 I1
    exact ⟨_,_,S,rfl,Ed.trans E1,I1,rfl,(fun h=>by cases h),fun _ _ _=>muU_eq⟩
 ·cases h
end Go.Proofs.YtlbppjmekiemiacGreatDoor
namespace Go.Proofs.YtlbppjmekiemiacGreatDoor
open Vm
set_option maxHeartbeats 4000000
variable (ga gc ge my up x:Bool) (at_ cn cu cv fu gn gv ma mi mk mn mu n rt rv sector t tn tt tv u units v w:Int) (ci keep:List (List Int)) (di vo:List Bool) (ks l mw r rk tk ws:List Int) (ct:List Vm.Target)
abbrev n_q187:Nat:=n_q32
noncomputable abbrev fn_q187:Func:=fn_q32
theorem hg_q187:FnOk Tryz.prog n_q187 fn_q187:=hg_q32
def c_q187:Contract:=fun vs bs=>match vs,bs with
 | [.agg [.dat (.list .int) ws,.dat .int fu]],[]=>some (some (len ws*8≤140737488355328),.agg [dL ws,dI fu],[])
 | _,_=>none
def Γ_q187:Ctx:=[]
theorem ok_q187:Ok Tryz.prog tab Γ_q187:=ok_nil
theorem q187_vc (ws:List Int) (fu:Int) (rec:RK) (K:KK):segD Γ_q187 tab fn_q187 0 K rec [.code (bodyOf fn_q187)] (initSt [.agg [dL ws,dI fu]] [])=(
 (0+len ws)*8≤140737488355328 ∧
 K (.agg [dL (cat [] ws),dI fu]) []):=by kernel_rfl

theorem run_q187 (hp:len ws*8≤140737488355328) (K:KK) (hK:K (.agg [dL ws,dI fu]) []):GD Γ_q187 fn_q187 0 K [.agg [dL ws,dI fu]] []:=by
 refine ⟨1,?_⟩
 rw [goD_code,q187_vc _ _ _ _]
 exact ⟨by simp only [len] at hp ⊢; omega,hK⟩
theorem sound_q187:SoundC Tryz.prog tab n_q187 c_q187:=soundC_f ok_q187 hg_q187 (by
 intro vs bs p v bs' h hp
 unfold c_q187 at h
 split at h
 ·cases h
  exact ⟨by kernel_rfl,rfl,.inl (run_q187 _ _ hp.1 _ ⟨rfl,rfl⟩)⟩
 ·cases h)

abbrev n_q207:Nat:=n_q206
noncomputable abbrev fn_q207:Func:=fn_q206
theorem hg_q207:FnOk Tryz.prog n_q207 fn_q207:=hg_q206
def c_q207:Contract:=fun vs bs=>match vs,bs with
 | [.agg [.dat (.list .int) ws,.dat .int fu,.dat .bool up,.dat .int tv,.dat (.list .int) tk,.dat .int tt,.dat .int tn,.dat (.list .bool) vo,.dat (.list .bool) di]],[]=>some (some (len ws*8≤140737488355328∧len tk*8≤140737488355328∧len vo≤140737488355328∧len di≤140737488355328),.agg [dL ws,dI fu,dB up,dI tv,dL tk,dI tt,dI tn,dLb vo,dLb di],[])
 | _,_=>none
def Γ_q207:Ctx:=[(n_q187,c_q187)]
theorem ok_q207:Ok Tryz.prog tab Γ_q207:=(ok_nil.c hg_q187 sound_q187)
theorem q207_vc (ws:List Int) (fu:Int) (up:Bool) (tv:Int) (tk:List Int) (tt tn:Int) (vo di:List Bool) (rec:RK) (K:KK):segD Γ_q207 tab fn_q207 0 K rec [.code (bodyOf fn_q207)] (initSt [.agg [dL ws,dI fu,dB up,dI tv,dL tk,dI tt,dI tn,dLb vo,dLb di]] [])=(
 len ws*8≤140737488355328 ∧
 (0+len tk)*8≤140737488355328 ∧
 (0+len vo)*1≤140737488355328 ∧
 (0+len di)*1≤140737488355328 ∧
 K (.agg [dL ws,dI fu,dB up,dI tv,dL (cat [] tk),dI tt,dI tn,dLb (cat [] vo),dLb (cat [] di)]) []):=by kernel_rfl

theorem run_q207 (hp:len ws*8≤140737488355328∧len tk*8≤140737488355328∧len vo≤140737488355328∧len di≤140737488355328) (K:KK) (hK:K (.agg [dL ws,dI fu,dB up,dI tv,dL tk,dI tt,dI tn,dLb vo,dLb di]) []):GD Γ_q207 fn_q207 0 K [.agg [dL ws,dI fu,dB up,dI tv,dL tk,dI tt,dI tn,dLb vo,dLb di]] []:=by
 refine ⟨1,?_⟩
 rw [goD_code,q207_vc _ _ _ _ _ _ _ _ _ _ _]
 exact ⟨hp.1,by omega,by omega,by omega,hK⟩
theorem sound_q207:SoundC Tryz.prog tab n_q207 c_q207:=soundC_f ok_q207 hg_q207 (by
 intro vs bs p v bs' h hp
 unfold c_q207 at h
 split at h
 ·cases h
  exact ⟨by kernel_rfl,rfl,.inl (run_q207 _ _ _ _ _ _ _ _ _ hp.1 _ ⟨rfl,rfl⟩)⟩
 ·cases h)

def c_q6:Contract:=fun vs bs=>match vs,bs with
 | [.agg [.dat (.list .int) ws,.dat .int fu]],[]=>some (none,.one (dI (checkFlash ⟨ws,fu⟩)),[])
 | _,_=>none
def Γ_q6:Ctx:=[]
theorem ok_q6:Ok Tryz.prog tab Γ_q6:=ok_nil
noncomputable def q6_L0:List It:=[.inLoop [31,30,29,2] (cSub fn_q6 [1,1,1,0,1,0,0]),.inBlock 0,.code (cSub fn_q6 [1,1,1,1])]
def q6_S0 (x0 x1:Int) (x2:List Int) (x3:Int):St:=⟨[(31,.one (dI x0)),(30,.one (dI x1)),(29,.one (dL x2)),(2,.one (dI x3))],[],0⟩
theorem q6_vc (ws:List Int) (fu:Int) (rec:RK) (K:KK):segD Γ_q6 tab fn_q6 0 K rec [.code (bodyOf fn_q6)] (initSt [.agg [dL ws,dI fu]] [])=(
 br (eqi (len ws:Int) 0)
 (K (.one (dI 4)) [])
 ((32:Int)≠(0:Int) ∧
 br (!(eqi (Int.tmod (len ws:Int) 32) 0))
 (K (.one (dI 4)) [])
 (br (lti 192 (len ws:Int))
 (K (.one (dI 4)) [])
 (br (lti fu (-1))
 (K (.one (dI 3)) [])
 (br (lti 100000 fu)
 (K (.one (dI 3)) [])
 (rec q6_L0 (q6_S0 0 (len ws:Int) ws 0))))))):=by kernel_rfl
theorem q6_vc0 (x0 x1:Int) (x2:List Int) (x3:Int) (rec:RK) (K:KK):segD Γ_q6 tab fn_q6 0 K rec (ent q6_L0) (q6_S0 x0 x1 x2 x3)=(
 br (lti x0 x1)
 (((0:Int)≤x0∧x0<(len x2:Int)) ∧
 br (lti (nth x2 (Int.toNat x0) (Ty.dflt Ty.int)) 0)
 (K (.one (dI 3)) [])
 (br (lti 65535 (nth x2 (Int.toNat x0) (Ty.dflt Ty.int)))
 (K (.one (dI 3)) [])
 (rec q6_L0 (q6_S0 (w64 (x0+1)) x1 x2 x3))))
 (K (.one (dI 0)) [])):=by kernel_rfl

theorem loop_q6 (ws:List Int) (hl:ws.length≤192) (K:KK) (hK:K (.one (dI (if okWords ws then 0 else 3))) []):∀ (d k:Nat),k+d=ws.length→okWords (ws.take k)=true →
  goD Γ_q6 tab fn_q6 0 K (d+1) q6_L0 (q6_S0 (k:Int) (((len ws):Nat):Int) ws (0:Int))
 | 0,k,hk,he=>by
  rw [goD_in (L:=q6_L0),q6_vc0 _ _ _ _ _ _]
  refine lt_f (by simp only [len]; omega) ?_
  rw [List.take_of_length_le (by omega)] at he
  rw [if_pos he] at hK
  exact hK
 | d+1,k,hk,he=>by
  rw [goD_in (L:=q6_L0),q6_vc0 _ _ _ _ _ _]
  have bad:okWord (nth ws k (Ty.dflt Ty.int))=false→K (.one (dI 3)) []:=fun h=>by
   rw [show okWords ws=false from all_false (k:=k) (by omega) _ h] at hK; exact hK
  refine lt_t (by simp only [len]; omega) ⟨⟨by omega,by simp only [len]; omega⟩,lt_s (fun h=>?_) (fun h=>lt_s (fun h2=>?_) (fun h2=>?_))⟩
  ·rw [toNat_nat] at h
   exact bad (by simp only [okWord,Bool.and_eq_false_iff,decide_eq_false_iff_not]; exact .inl (by omega))
  ·rw [toNat_nat] at h2
   exact bad (by simp only [okWord,Bool.and_eq_false_iff,decide_eq_false_iff_not]; exact .inr (by omega))
  ·rw [w64_succ (by omega)]
   rw [toNat_nat] at h h2
   exact loop_q6 ws hl K hK d (k+1) (by omega) (all_take_step (by omega) (Ty.dflt Ty.int) he (by simp [okWord,h,h2]))
theorem run_q6 (K:KK) (hK:K (.one (dI (checkFlash ⟨ws,fu⟩))) []):GD Γ_q6 fn_q6 0 K [.agg [dL ws,dI fu]] []:=by
 refine ⟨ws.length+2,?_⟩
 rw [goD_code,q6_vc _ _ _ _]
 have four:okLen ws.length=false→K (.one (dI 4)) []:=fun h=>by
  rw [show checkFlash ⟨ws,fu⟩=4 from by simp [checkFlash,h]] at hK; exact hK
 refine eq_s (fun h=>four ?_) (fun h=>⟨by decide,ne_s (fun h2=>four ?_) (fun h2=>lt_s (fun h3=>four ?_) (fun h3=>?_))⟩)
 ·simp only [len] at h; simp [okLen]; omega
 ·simp only [len] at h2; rw [Int.tmod_eq_emod_of_nonneg (by omega)] at h2; simp [okLen]; omega
 ·simp only [len] at h3; simp [okLen]; omega
 ·have hlen:okLen ws.length=true:=by simp only [len] at h h2 h3; rw [Int.tmod_eq_emod_of_nonneg (by omega)] at h2; simp [okLen]; omega
  have three:(decide (-1≤fu) && decide (fu≤100000))=false→K (.one (dI 3)) []:=fun h=>by
   rw [show checkFlash ⟨ws,fu⟩=3 from by simp [checkFlash,hlen,h]] at hK; exact hK
  refine lt_s (fun h4=>three ?_) (fun h4=>lt_s (fun h5=>three ?_) (fun h5=>?_))
  ·simp; omega
  ·simp; omega
  ·refine loop_q6 ws (by simp only [len] at h3; omega) K ?_ ws.length 0 (by omega) rfl
   rw [show checkFlash ⟨ws,fu⟩=if okWords ws then 0 else 3 from by simp [checkFlash,hlen,h4,h5]] at hK
   exact hK
theorem sound_q6:SoundC Tryz.prog tab n_q6 c_q6:=soundC_f ok_q6 hg_q6 (by
 intro vs bs p v bs' h hp
 unfold c_q6 at h
 split at h
 ·cases h
  exact ⟨by kernel_rfl,rfl,.inl (run_q6 _ _ _ ⟨rfl,rfl⟩)⟩
 ·cases h)

def c_q60:Contract:=fun vs bs=>match vs,bs with
 | [.agg [.dat (.list .int) ws,.dat .int _]],[]=>some (some (64≤len ws∧okWords ws=true),.tup [.one (dI (liveS ws)),.one (dI (liveG ws)),.one (dB (liveOk ws))],[])
 | _,_=>none
def Γ_q60:Ctx:=[]
theorem ok_q60:Ok Tryz.prog tab Γ_q60:=ok_nil
theorem q60_vc (ws:List Int) (fu:Int) (rec:RK) (K:KK) v0 (hv0:v0=K (.tup [.one (dI 0),.one (dI (nth ws (Int.toNat 0) (Ty.dflt Ty.int))),.one (dB (lti 0 (nth ws (Int.toNat 0) (Ty.dflt Ty.int))))]) []) v1 (hv1:v1=K (.tup [.one (dI 1),.one (dI (nth ws (Int.toNat 32) (Ty.dflt Ty.int))),.one (dB true)]) []) v2 (hv2:v2=K (.tup [.one (dI 0),.one (dI 0),.one (dB (lti 0 0))]) []):segD Γ_q60 tab fn_q60 0 K rec [.code (bodyOf fn_q60)] (initSt [.agg [dL ws,dI fu]] [])=(
 ((0:Int)≤(0:Int)∧(0:Int)<(len ws:Int)) ∧
 ((0:Int)≤(32:Int)∧(32:Int)<(len ws:Int)) ∧
 br (eqi (nth ws (Int.toNat 0) (Ty.dflt Ty.int)) 65535)
 (br (eqi (nth ws (Int.toNat 32) (Ty.dflt Ty.int)) 65535)
 v2
 (br (lti 0 (nth ws (Int.toNat 32) (Ty.dflt Ty.int)))
 v1
 v2))
 (br (eqi (nth ws (Int.toNat 32) (Ty.dflt Ty.int)) 65535)
 (br (lti (nth ws (Int.toNat 0) (Ty.dflt Ty.int)) 0)
 (K (.tup [.one (dI 1),.one (dI 0),.one (dB true)]) [])
 v0)
 (br (lti (nth ws (Int.toNat 0) (Ty.dflt Ty.int)) (nth ws (Int.toNat 32) (Ty.dflt Ty.int)))
 v1
 v0))):=by subst_vars; kernel_rfl

theorem run_q60 (hp:64≤len ws∧okWords ws=true) (K:KK) (hK:K (.tup [.one (dI (liveS ws)),.one (dI (liveG ws)),.one (dB (liveOk ws))]) []):GD Γ_q60 fn_q60 0 K [.agg [dL ws,dI fu]] []:=by
 obtain ⟨hl,hok⟩:=hp
 refine ⟨1,?_⟩
 rw [goD_code,q60_vc _ _ _ _ _ rfl _ rfl _ rfl]
 have o0:=getD_ok hok 0
 have o1:=getD_ok hok 32
 have e0:nth ws (Int.toNat (0:Int)) (Ty.dflt Ty.int)=ws.getD 0 0:=rfl
 have e1:nth ws (Int.toNat (32:Int)) (Ty.dflt Ty.int)=ws.getD 32 0:=rfl
 rw [e0,e1]
 have g0:genOf ws 0=if ws.getD 0 0=65535 then 0 else ws.getD 0 0:=rfl
 have g1:genOf ws 1=if ws.getD 32 0=65535 then 0 else ws.getD 32 0:=rfl
 unfold liveOk liveG liveS at hK
 refine ⟨⟨by omega,by omega⟩,⟨by omega,by omega⟩,eq_s (fun h=>eq_s (fun h2=>?_) (fun h2=>lt_s (fun h3=>?_) (fun h3=>?_))) (fun h=>eq_s (fun h2=>lt_s (fun h3=>?_) (fun h3=>?_)) (fun h2=>lt_s (fun h3=>?_) (fun h3=>?_)))⟩
 ·rw [if_pos h] at g0; rw [if_pos h2] at g1
  rw [if_neg (by omega),g0] at hK; exact hK
 ·rw [if_pos h] at g0; rw [if_neg h2] at g1
  rw [if_pos (by omega),g1,show decide (0<ws.getD 32 0)=true from decide_eq_true h3] at hK; exact hK
 ·rw [if_pos h] at g0; rw [if_neg h2] at g1
  rw [if_neg (by omega),g0] at hK; exact hK
 ·omega
 ·rw [if_neg h] at g0; rw [if_pos h2] at g1
  rw [if_neg (by omega),g0] at hK; exact hK
 ·rw [if_neg h] at g0; rw [if_neg h2] at g1
  rw [if_pos (by omega),g1,show decide (0<ws.getD 32 0)=true from decide_eq_true (by omega)] at hK; exact hK
 ·rw [if_neg h] at g0; rw [if_neg h2] at g1
  rw [if_neg (by omega),g0] at hK; exact hK
theorem sound_q60:SoundC Tryz.prog tab n_q60 c_q60:=soundC_f ok_q60 hg_q60 (by
 intro vs bs p v bs' h hp
 unfold c_q60 at h
 split at h
 ·cases h
  exact ⟨by kernel_rfl,rfl,.inl (run_q60 _ _ hp.1 _ ⟨rfl,rfl⟩)⟩
 ·cases h)

def c_q62:Contract:=fun vs bs=>match vs,bs with
 | [.agg [.dat (.list .int) ws,.dat .int fu]],[]=>some (none,.one (dI (checkLog ⟨ws,fu⟩)),[])
 | _,_=>none
def Γ_q62:Ctx:=[(n_q6,c_q6),(n_q60,c_q60)]
theorem ok_q62:Ok Tryz.prog tab Γ_q62:=((ok_nil.c hg_q60 sound_q60).c hg_q6 sound_q6)
theorem q62_vc (ws:List Int) (fu:Int) (rec:RK) (K:KK) v0 (hv0:v0=checkFlash (⟨ws,fu⟩:Flash)) v1 (hv1:v1=okWords ws) v2 (hv2:v2=liveOk ws) v3 (hv3:v3=liveG ws):segD Γ_q62 tab fn_q62 0 K rec [.code (bodyOf fn_q62)] (initSt [.agg [dL ws,dI fu]] [])=(
 br (!(eqi v0 0))
 (K (.one (dI v0)) [])
 (br (lti (len ws:Int) 64)
 (K (.one (dI 4)) [])
 ((64≤len ws∧v1=true) ∧
 br (!v2)
 (K (.one (dI 5)) [])
 (br (lti 60000 v3)
 (K (.one (dI 5)) [])
 (K (.one (dI 0)) []))))):=by subst_vars; kernel_rfl

theorem run_q62 (K:KK) (hK:K (.one (dI (checkLog ⟨ws,fu⟩))) []):GD Γ_q62 fn_q62 0 K [.agg [dL ws,dI fu]] []:=by
 refine ⟨1,?_⟩
 rw [goD_code,q62_vc _ _ _ _ _ rfl _ rfl _ rfl _ rfl]
 unfold checkLog at hK
 refine ne_s (fun h=>?_) (fun h=>?_)
 ·rw [if_neg h] at hK; exact hK
 rw [if_pos h] at hK
 refine lt_s (fun h2=>?_) (fun h2=>?_)
 ·rw [if_neg (by simp only [len] at h2 ⊢; omega)] at hK; exact hK
 rw [if_pos (by simp only [len] at h2 ⊢; omega)] at hK
 refine ⟨⟨by simp only [len] at h2 ⊢; omega,(checkFlash_ok h).2.2.2⟩,nt_s (fun h3=>?_) (fun h3=>lt_s (fun h4=>?_) (fun h4=>?_))⟩
 ·rw [if_neg (by simp only [liveOk,decide_eq_false_iff_not] at h3 ⊢; omega)] at hK; exact hK
 ·rw [if_neg (by simp only; omega)] at hK; exact hK
 ·rw [if_pos (by simp only [liveOk,decide_eq_true_eq] at h3 ⊢; omega)] at hK; exact hK
theorem sound_q62:SoundC Tryz.prog tab n_q62 c_q62:=soundC_f ok_q62 hg_q62 (by
 intro vs bs p v bs' h hp
 unfold c_q62 at h
 split at h
 ·cases h
  exact ⟨by kernel_rfl,rfl,.inl (run_q62 _ _ _ ⟨rfl,rfl⟩)⟩
 ·cases h)

def c_q91:Contract:=fun vs bs=>match vs,bs with
 | [.agg [.dat .int v,.dat (.list .int) ks,.dat .int t]],[]=>some (none,.one (dI (checkRoot v ks t)),[])
 | _,_=>none
def Γ_q91:Ctx:=[]
theorem ok_q91:Ok Tryz.prog tab Γ_q91:=ok_nil
noncomputable def q91_L0:List It:=[.inLoop [26,25,24,2,1] (cSub fn_q91 [1,1,1,0,1,0,0]),.inBlock 0,.code (cSub fn_q91 [1,1,1,1])]
def q91_S0 (x0 x1:Int) (x2:List Int) (x3 x4:Int) (x5:List Int) (x6:Int):St:=⟨[(26,.one (dI x0)),(25,.one (dI x1)),(24,.one (dL x2)),(2,.one (dI x3)),(1,.one (.ptr 0 0))],[(0,.box [dI x4,dL x5,dI x6])],1⟩
theorem q91_vc (v:Int) (ks:List Int) (t:Int) (rec:RK) (K:KK):segD Γ_q91 tab fn_q91 0 K rec [.code (bodyOf fn_q91)] (initSt [.agg [dI v,dL ks,dI t]] [])=(
 br (lti v 1)
 (K (.one (dI 3)) [])
 (br (lti 1000 v)
 (K (.one (dI 3)) [])
 (br (eqi (len ks:Int) 0)
 (K (.one (dI 2)) [])
 (br (lti 6 (len ks:Int))
 (K (.one (dI 2)) [])
 (rec q91_L0 (q91_S0 0 (len ks:Int) ks 0 v ks t)))))):=by kernel_rfl
theorem q91_vc0 (x0 x1:Int) (x2:List Int) (x3 x4:Int) (x5:List Int) (x6:Int) (rec:RK) (K:KK) v0 (hv0:v0=rec q91_L0 (q91_S0 (w64 (x0+1)) x1 x2 x3 x4 x5 x6)):segD Γ_q91 tab fn_q91 0 K rec (ent q91_L0) (q91_S0 x0 x1 x2 x3 x4 x5 x6)=(
 br (lti x0 x1)
 (((0:Int)≤x0∧x0<(len x2:Int)) ∧
 br (lti (nth x2 (Int.toNat x0) (Ty.dflt Ty.int)) 1)
 (K (.one (dI 3)) [])
 (br (lti 50 (nth x2 (Int.toNat x0) (Ty.dflt Ty.int)))
 (K (.one (dI 3)) [])
 (br (lti 0 x0)
 (((0:Int)≤w64 (x0-1)∧w64 (x0-1)<(len x5:Int)) ∧
 br (lei (nth x2 (Int.toNat x0) (Ty.dflt Ty.int)) (nth x5 (Int.toNat (w64 (x0-1))) (Ty.dflt Ty.int)))
 (K (.one (dI 6)) [])
 v0)
 v0)))
 (br (lti x6 1)
 (K (.one (dI 4)) [])
 (br (lti (len x5:Int) x6)
 (K (.one (dI 4)) [])
 (K (.one (dI 0)) [])))):=by subst_vars; kernel_rfl

theorem loop_q91 (ks:List Int) (v t:Int) (hl:ks.length≤6) (K:KK) (last:Nat→Option Int) (h0:last 0=none) (hs:∀ k,k<ks.length→last (k+1)=some (nth ks k 0)):∀ (d k:Nat),k+d=ks.length →
  K (.one (dI (rootEnd (keysFrom (last k) (ks.drop k)) t ks.length))) [] →
  goD Γ_q91 tab fn_q91 0 K (d+1) q91_L0 (q91_S0 (k:Int) (((len ks):Nat):Int) ks 0 v ks t)
 | 0,k,hk,hK=>by
  rw [goD_in (L:=q91_L0),q91_vc0 _ _ _ _ _ _ _ _ _ _ rfl]
  rw [List.drop_of_length_le (by omega)] at hK
  rw [show rootEnd (keysFrom (last k) []) t ks.length=if t<1∨(ks.length:Int)<t then 4 else 0 from rfl] at hK
  refine lt_f (by simp only [len]; omega) (lt_s (fun h=>?_) (fun h=>lt_s (fun h2=>?_) (fun h2=>?_)))
  ·rw [if_pos (.inl h)] at hK; exact hK
  ·rw [if_pos (.inr h2)] at hK; exact hK
  ·rw [if_neg (by simp only [len] at h2; omega)] at hK; exact hK
 | d+1,k,hk,hK=>by
  rw [goD_in (L:=q91_L0),q91_vc0 _ _ _ _ _ _ _ _ _ _ rfl,toNat_nat]
  rw [drop_step (by omega) (Ty.dflt Ty.int)] at hK
  have hsk:=hs k (by omega)
  have e:nth ks k (Ty.dflt Ty.int)=nth ks k 0:=rfl
  rw [e] at hK ⊢
  obtain ⟨x,hx⟩:∃ x,nth ks k (0:Int)=x:=⟨_,rfl⟩
  rw [hx] at hK hsk ⊢
  have ek:w64 ((k:Int)+1)=((k+1:Nat):Int):=w64_succ (by omega)
  rw [ek]
  refine lt_t (by simp only [len]; omega) ⟨⟨by omega,by simp only [len]; omega⟩,lt_s (fun h=>?_) (fun h=>lt_s (fun h2=>?_) (fun h2=>?_))⟩
  ·rw [show keysFrom (last k) (x::ks.drop (k+1))=3 from if_pos (.inl h)] at hK; exact hK
  ·rw [show keysFrom (last k) (x::ks.drop (k+1))=3 from if_pos (.inr h2)] at hK; exact hK
  ·rw [show keysFrom (last k) (x::ks.drop (k+1))=if notBehind (last k) x then 6 else keysFrom (some x) (ks.drop (k+1)) from if_neg (by omega)] at hK
   refine lt_s (fun h3=>?_) (fun h3=>?_)
   ·obtain ⟨j,rfl⟩:∃ j,k=j+1:=⟨k-1,by omega⟩
    have hj:=hs j (by omega)
    rw [hj] at hK
    rw [w64_id (n:=((j+1:Nat):Int)-1) (by omega) (by omega),show Int.toNat (((j+1:Nat):Int)-1)=j by omega]
    have e2:nth ks j (Ty.dflt Ty.int)=nth ks j 0:=rfl
    rw [e2]
    refine ⟨⟨by omega,by simp only [len]; omega⟩,br_split (fun h4=>?_) (fun h4=>?_)⟩
    ·rw [lei_true] at h4
     rw [if_pos (show notBehind (some (nth ks j 0)) x=true from decide_eq_true h4)] at hK; exact hK
    ·rw [lei_false] at h4
     rw [if_neg (show ¬ notBehind (some (nth ks j 0)) x=true from by simp only [notBehind,decide_eq_true_eq]; omega)] at hK
     refine loop_q91 ks v t hl K last h0 hs d (j+1+1) (by omega) ?_
     rw [hsk]; exact hK
   ·have hk0:k=0:=by omega
    subst hk0
    rw [h0] at hK
    rw [if_neg (show ¬ notBehind none x=true from by simp [notBehind])] at hK
    refine loop_q91 ks v t hl K last h0 hs d 1 (by omega) ?_
    rw [hsk]; exact hK
theorem run_q91 (K:KK) (hK:K (.one (dI (checkRoot v ks t))) []):GD Γ_q91 fn_q91 0 K [.agg [dI v,dL ks,dI t]] []:=by
 refine ⟨ks.length+2,?_⟩
 rw [goD_code,q91_vc _ _ _ _ _]
 unfold checkRoot at hK
 refine lt_s (fun h=>?_) (fun h=>lt_s (fun h2=>?_) (fun h2=>eq_s (fun h3=>?_) (fun h3=>lt_s (fun h4=>?_) (fun h4=>?_))))
 ·rw [if_pos (.inl h)] at hK; exact hK
 ·rw [if_pos (.inr h2)] at hK; exact hK
 ·rw [if_neg (by omega),if_pos (by simp only [len] at h3; omega)] at hK; exact hK
 ·rw [if_neg (by omega),if_pos (by simp only [len] at h4; omega)] at hK; exact hK
 ·rw [if_neg (by omega),if_neg (by simp only [len] at h3 h4; omega)] at hK
  exact loop_q91 ks v t (by simp only [len] at h4; omega) K (fun k=>match k with | 0=>none | k+1=>some (nth ks k 0)) rfl (fun k _=>rfl) ks.length 0 (by omega) hK
theorem sound_q91:SoundC Tryz.prog tab n_q91 c_q91:=soundC_f ok_q91 hg_q91 (by
 intro vs bs p v bs' h hp
 unfold c_q91 at h
 split at h
 ·cases h
  exact ⟨by kernel_rfl,rfl,.inl (run_q91 _ _ _ _ ⟨rfl,rfl⟩)⟩
 ·cases h)

def c_q116:Contract:=fun vs bs=>match vs,bs with
 | [.agg [.dat .int v,.dat (.list .int) ks,.dat .int t,.dat .int n]],[]=>some (none,.one (dI (checkTrust ⟨⟨v,ks,t⟩,n⟩)),[])
 | _,_=>none
def Γ_q116:Ctx:=[(n_q91,c_q91)]
theorem ok_q116:Ok Tryz.prog tab Γ_q116:=(ok_nil.c hg_q91 sound_q91)
theorem q116_vc (v:Int) (ks:List Int) (t n:Int) (rec:RK) (K:KK) v0 (hv0:v0=checkRoot v ks t):segD Γ_q116 tab fn_q116 0 K rec [.code (bodyOf fn_q116)] (initSt [.agg [dI v,dL ks,dI t,dI n]] [])=(
 br (lti n 0)
 (K (.one (dI 3)) [])
 (br (lti 1000 n)
 (K (.one (dI 3)) [])
 (K (.one (dI v0)) []))):=by subst_vars; kernel_rfl

theorem run_q116 (K:KK) (hK:K (.one (dI (checkTrust ⟨⟨v,ks,t⟩,n⟩))) []):GD Γ_q116 fn_q116 0 K [.agg [dI v,dL ks,dI t,dI n]] []:=by
 refine ⟨1,?_⟩
 rw [goD_code,q116_vc _ _ _ _ _ _ _ rfl]
 unfold checkTrust at hK
 simp only at hK
 refine lt_s (fun h=>?_) (fun h=>lt_s (fun h2=>?_) (fun h2=>?_))
 ·rw [if_pos (.inl h)] at hK; exact hK
 ·rw [if_pos (.inr h2)] at hK; exact hK
 ·rw [if_neg (by omega)] at hK; exact hK
theorem sound_q116:SoundC Tryz.prog tab n_q116 c_q116:=soundC_f ok_q116 hg_q116 (by
 intro vs bs p v bs' h hp
 unfold c_q116 at h
 split at h
 ·cases h
  exact ⟨by kernel_rfl,rfl,.inl (run_q116 _ _ _ _ _ ⟨rfl,rfl⟩)⟩
 ·cases h)

def c_q168:Contract:=fun vs bs=>match vs,bs with
 | [.agg [.dat (.list .int) ws,.dat .int fu,.dat .bool up,.dat .int tv,.dat (.list .int) tk,.dat .int tt,.dat .int tn,.dat (.list .bool) vo,.dat (.list .bool) di]],[]=>some (none,.one (dI (checkG ⟨⟨ws,fu⟩,up,⟨⟨tv,tk,tt⟩,tn⟩,vo,di⟩)),[])
 | _,_=>none
def Γ_q168:Ctx:=[(n_q62,c_q62),(n_q116,c_q116)]
theorem ok_q168:Ok Tryz.prog tab Γ_q168:=((ok_nil.c hg_q116 sound_q116).c hg_q62 sound_q62)
theorem q168_vc (ws:List Int) (fu:Int) (up:Bool) (tv:Int) (tk:List Int) (tt tn:Int) (vo di:List Bool) (rec:RK) (K:KK) v0 (hv0:v0=checkLog ⟨ws,fu⟩) v1 (hv1:v1=checkTrust ⟨⟨tv,tk,tt⟩,tn⟩):segD Γ_q168 tab fn_q168 0 K rec [.code (bodyOf fn_q168)] (initSt [.agg [dL ws,dI fu,dB up,dI tv,dL tk,dI tt,dI tn,dLb vo,dLb di]] [])=(
 br (!(eqi v0 0))
 (K (.one (dI v0)) [])
 (br (lti (len vo:Int) 1)
 (K (.one (dI 4)) [])
 (br (lti 4 (len vo:Int))
 (K (.one (dI 4)) [])
 (br (!(eqi (len di:Int) (len vo:Int)))
 (K (.one (dI 4)) [])
 (K (.one (dI v1)) []))))):=by subst_vars; kernel_rfl

theorem run_q168 (K:KK) (hK:K (.one (dI (checkG ⟨⟨ws,fu⟩,up,⟨⟨tv,tk,tt⟩,tn⟩,vo,di⟩))) []):GD Γ_q168 fn_q168 0 K [.agg [dL ws,dI fu,dB up,dI tv,dL tk,dI tt,dI tn,dLb vo,dLb di]] []:=by
 refine ⟨1,?_⟩
 rw [goD_code,q168_vc _ _ _ _ _ _ _ _ _ _ _ _ rfl _ rfl]
 unfold checkG at hK
 simp only at hK
 refine ne_s (fun h=>?_) (fun h=>?_)
 ·rw [if_neg h] at hK; exact hK
 ·rw [if_pos h] at hK
  have l1:((len vo:Nat):Int)=(vo.length:Int):=rfl
  have l2:((len di:Nat):Int)=(di.length:Int):=rfl
  rw [l1,l2]
  by_cases c:vo.length<1∨4<vo.length∨di.length≠vo.length
  ·rw [if_pos c] at hK
   exact lt_s (fun _=>hK) (fun _=>lt_s (fun _=>hK) (fun _=>ne_t (by omega) hK))
  ·rw [if_neg c] at hK
   exact lt_f (by omega) (lt_f (by omega) (ne_f (by omega) hK))
theorem sound_q168:SoundC Tryz.prog tab n_q168 c_q168:=soundC_f ok_q168 hg_q168 (by
 intro vs bs p v bs' h hp
 unfold c_q168 at h
 split at h
 ·cases h
  exact ⟨by kernel_rfl,rfl,.inl (run_q168 _ _ _ _ _ _ _ _ _ _ ⟨rfl,rfl⟩)⟩
 ·cases h)

def c_q175:Contract:=fun vs bs=>match vs,bs with
 | [.agg [.dat (.list .int) ws,.dat .int fu,.dat .bool up,.dat .int tv,.dat (.list .int) tk,.dat .int tt,.dat .int tn,.dat (.list .bool) vo,.dat (.list .bool) di]],[]=>some (none,.one (dI (upG ⟨⟨ws,fu⟩,up,⟨⟨tv,tk,tt⟩,tn⟩,vo,di⟩)),[])
 | _,_=>none
def Γ_q175:Ctx:=[(n_q168,c_q168)]
theorem ok_q175:Ok Tryz.prog tab Γ_q175:=(ok_nil.c hg_q168 sound_q168)
theorem q175_vc (ws:List Int) (fu:Int) (up:Bool) (tv:Int) (tk:List Int) (tt tn:Int) (vo di:List Bool) (rec:RK) (K:KK) v0 (hv0:v0=checkG ⟨⟨ws,fu⟩,up,⟨⟨tv,tk,tt⟩,tn⟩,vo,di⟩):segD Γ_q175 tab fn_q175 0 K rec [.code (bodyOf fn_q175)] (initSt [.agg [dL ws,dI fu,dB up,dI tv,dL tk,dI tt,dI tn,dLb vo,dLb di]] [])=(
 br (!(eqi v0 0))
 (K (.one (dI v0)) [])
 (br (!up)
 (K (.one (dI 7)) [])
 (K (.one (dI 0)) []))):=by subst_vars; kernel_rfl

theorem run_q175 (K:KK) (hK:K (.one (dI (upG ⟨⟨ws,fu⟩,up,⟨⟨tv,tk,tt⟩,tn⟩,vo,di⟩))) []):GD Γ_q175 fn_q175 0 K [.agg [dL ws,dI fu,dB up,dI tv,dL tk,dI tt,dI tn,dLb vo,dLb di]] []:=by
 refine ⟨1,?_⟩
 rw [goD_code,q175_vc _ _ _ _ _ _ _ _ _ _ _ _ rfl]
 unfold upG at hK
 refine ne_s (fun h=>?_) (fun h=>?_)
 ·rw [if_neg h] at hK; exact hK
 ·rw [if_pos h] at hK
  cases up
  ·exact nt_t rfl hK
  ·exact nt_f rfl hK
theorem sound_q175:SoundC Tryz.prog tab n_q175 c_q175:=soundC_f ok_q175 hg_q175 (by
 intro vs bs p v bs' h hp
 unfold c_q175 at h
 split at h
 ·cases h
  exact ⟨by kernel_rfl,rfl,.inl (run_q175 _ _ _ _ _ _ _ _ _ _ ⟨rfl,rfl⟩)⟩
 ·cases h)

def c_q3:Contract:=fun vs bs=>match vs,bs with
 | [.one (.dat (.list .int) l)],[]=>some (some (len l*8≤140737488355328),.one (.own 0),[.arr .int l])
 | _,_=>none
def Γ_q3:Ctx:=[]
theorem ok_q3:Ok Tryz.prog tab Γ_q3:=ok_nil
theorem q3_vc (l:List Int) (rec:RK) (K:KK):segO Γ_q3 tab fn_q3 0 K rec [.code (bodyOf fn_q3)] (initSt [.one (dL l)] [])=(
 (∀ bn:Bool,(bn=true→len l=0)→br bn
 (K (.one (.own 0)) [.arr Ty.int []])
 ((0+len l)*8≤140737488355328 ∧
 K (.one (.own 0)) [.arr Ty.int (cat [] l)]))):=by kernel_rfl

theorem run_q3 (hp:len l*8≤140737488355328) (K:KK) (hK:K (.one (.own 0)) [.arr .int l]):GO Γ_q3 fn_q3 0 K [.one (dL l)] []:=by
 refine ⟨1,?_⟩
 rw [goO_code,q3_vc _ _ _]
 intro bn hb
 refine br_split (fun h=>?_) (fun h=>⟨by simp only [len] at hp ⊢; omega,hK⟩)
 have:l=[]:=List.length_eq_zero_iff.1 (hb h)
 subst this
 exact hK
theorem sound_q3:SoundC Tryz.prog tab n_q3 c_q3:=soundC_f ok_q3 hg_q3 (by
 intro vs bs p v bs' h hp
 unfold c_q3 at h
 split at h
 ·cases h
  exact ⟨by kernel_rfl,rfl,.inr (.inl (run_q3 _ hp.1 _ ⟨rfl,rfl⟩))⟩
 ·cases h)

def c_q61:Contract:=fun vs bs=>match vs,bs with
 | [.agg [.dat (.list .int) ws,.dat .int _],.one (.dat .int sector)],[]=>some (some (0≤sector∧sector≤1∧64≤len ws∧len ws≤192∧okWords ws=true),.tup [.one (dR (scanS ws sector.toNat).1),.one (dI (nextI sector.toNat (scanS ws sector.toNat).2))],[])
 | _,_=>none
def Γ_q61:Ctx:=[(n_q3,c_q3)]
theorem ok_q61:Ok Tryz.prog tab Γ_q61:=(ok_nil.c hg_q3 sound_q3)
noncomputable def q61_L0:List It:=[.inLoop [7,6,5,4,1] (cSub fn_q61 [1,1,1,0,0,0]),.inBlock 0,.code (cSub fn_q61 [1,1,1,1])]
def q61_S0 (x0:Int) (x1:List Int) (x2 x3:Int) (x4:List (List Int)):St:=⟨[(7,.one (dI x0)),(6,.one (dL x1)),(5,.one (dI x2)),(4,.one (.own 0)),(1,.one (dI x3))],[(0,.arr (Ty.list Ty.int) x4)],1⟩
noncomputable def q61_L1:List It:=[.inLoop [74,73,72,7,5,4,1] (cSub fn_q61 [1,1,1,1,0,1,0,0]),.inBlock 2,.code (cSub fn_q61 [1,1,1,1,1])]
def q61_S1 (x0 x1:Int) (x2:List Int) (x3 x4 x5:Int) (x6:List (List Int)):St:=⟨[(74,.one (dI x0)),(73,.one (dI x1)),(72,.one (dL x2)),(7,.one (dI x3)),(5,.one (dI x4)),(4,.one (.own 0)),(1,.one (dI x5))],[(0,.arr (Ty.list Ty.int) x6)],1⟩
theorem q61_vc (ws:List Int) (fu sector:Int) (rec:RK) (K:KK):segD Γ_q61 tab fn_q61 0 K rec [.code (bodyOf fn_q61)] (initSt [.agg [dL ws,dI fu],.one (dI sector)] [])=(
 ((0:Int)≤w64 (sector*32)∧w64 (sector*32)≤w64 (w64 (sector+1)*32)∧w64 (w64 (sector+1)*32)≤(len ws:Int)) ∧
 rec q61_L0 (q61_S0 1 (slc ws (Int.toNat (w64 (sector*32))) (Int.toNat (w64 (w64 (sector+1)*32)))) 0 sector [])):=by kernel_rfl
theorem q61_vc0 (x0:Int) (x1:List Int) (x2 x3:Int) (x4:List (List Int)) (rec:RK) (K:KK) v0 (hv0:v0=rec q61_L1 (q61_S1 0 (((len (slc x1 (Int.toNat (min x0 (len x1:Int))) (Int.toNat (len x1:Int)))):Nat):Int) (slc x1 (Int.toNat (min x0 (len x1:Int))) (Int.toNat (len x1:Int))) x0 x2 x3 x4)):segD Γ_q61 tab fn_q61 0 K rec (ent q61_L0) (q61_S0 x0 x1 x2 x3 x4)=(
 br (lti x0 (len x1:Int))
 (((0:Int)≤x0∧x0<(len x1:Int)) ∧
 br (!(eqi (nth x1 (Int.toNat x0) (Ty.dflt Ty.int)) 65535))
 (((0:Int)≤x0∧x0<(len x1:Int)) ∧
 br (lti (xori (nth x1 (Int.toNat x0) (Ty.dflt Ty.int)) 42240) 1)
 (K (.tup [.one (dR x4),.one (dI (-1))]) [])
 (br (lti 4 (xori (nth x1 (Int.toNat x0) (Ty.dflt Ty.int)) 42240))
 (K (.tup [.one (dR x4),.one (dI (-1))]) [])
 (br (lti (len x1:Int) (w64 (w64 (x0+xori (nth x1 (Int.toNat x0) (Ty.dflt Ty.int)) 42240)+1)))
 (K (.tup [.one (dR x4),.one (dI (-1))]) [])
 (((0:Int)≤w64 (x0+1)∧w64 (x0+1)≤w64 (w64 (x0+1)+xori (nth x1 (Int.toNat x0) (Ty.dflt Ty.int)) 42240)∧w64 (w64 (x0+1)+xori (nth x1 (Int.toNat x0) (Ty.dflt Ty.int)) 42240)≤(len x1:Int)) ∧
 len (slc x1 (Int.toNat (w64 (x0+1))) (Int.toNat (w64 (w64 (x0+1)+xori (nth x1 (Int.toNat x0) (Ty.dflt Ty.int)) 42240))))*8≤140737488355328 ∧
 (len x4+len (slc x1 (Int.toNat (w64 (x0+1))) (Int.toNat (w64 (w64 (x0+1)+xori (nth x1 (Int.toNat x0) (Ty.dflt Ty.int)) 42240)))::[]))*24≤140737488355328 ∧
 rec q61_L0 (q61_S0 (w64 (x0+w64 (xori (nth x1 (Int.toNat x0) (Ty.dflt Ty.int)) 42240+1))) x1 x2 x3 (cat x4 (slc x1 (Int.toNat (w64 (x0+1))) (Int.toNat (w64 (w64 (x0+1)+xori (nth x1 (Int.toNat x0) (Ty.dflt Ty.int)) 42240)))::[])))))))
 (((0:Int)≤min x0 (len x1:Int)∧min x0 (len x1:Int)≤(len x1:Int)∧(len x1:Int)≤(len x1:Int)) ∧
 v0))
 (((0:Int)≤min x0 (len x1:Int)∧min x0 (len x1:Int)≤(len x1:Int)∧(len x1:Int)≤(len x1:Int)) ∧
 v0)):=by subst_vars; kernel_rfl
theorem q61_vc1 (x0 x1:Int) (x2:List Int) (x3 x4 x5:Int) (x6:List (List Int)) (rec:RK) (K:KK):segD Γ_q61 tab fn_q61 0 K rec (ent q61_L1) (q61_S1 x0 x1 x2 x3 x4 x5 x6)=(
 br (lti x0 x1)
 (((0:Int)≤x0∧x0<(len x2:Int)) ∧
 br (!(eqi (nth x2 (Int.toNat x0) (Ty.dflt Ty.int)) 65535))
 (K (.tup [.one (dR x6),.one (dI (-1))]) [])
 (rec q61_L1 (q61_S1 (w64 (x0+1)) x1 x2 x3 x4 x5 x6)))
 (K (.tup [.one (dR x6),.one (dI (w64 (w64 (x5*32)+x3)))]) [])):=by kernel_rfl

theorem clean_log_scan (x3 x4 x5:Int) (x6:List (List Int)) (K:KK) (t:List Int) (ht:t.length≤32)
  (hK:K (.tup [.one (dR x6),.one (dI (if allClean t then w64 (w64 (x5*32)+x3) else -1))]) []):∀ (d k:Nat),t.length≤k+d→k≤t.length→allClean (t.take k)=true →
  goD Γ_q61 tab fn_q61 0 K (d+1) q61_L1 (q61_S1 (k:Int) (((len t):Nat):Int) t x3 x4 x5 x6)
 | 0,k,hk,hk2,he=>by
  rw [goD_in (L:=q61_L1),q61_vc1 _ _ _ _ _ _ _ _ _]
  rw [List.take_of_length_le (by omega)] at he
  rw [if_pos he] at hK
  exact lt_f (by simp only [len]; omega) hK
 | d+1,k,hk,hk2,he=>by
  rw [goD_in (L:=q61_L1),q61_vc1 _ _ _ _ _ _ _ _ _,toNat_nat]
  by_cases c:k=t.length
  ·rw [List.take_of_length_le (by omega)] at he
   rw [if_pos he] at hK
   exact lt_f (by simp only [len]; omega) hK
  refine lt_t (by simp only [len]; omega) ⟨⟨by omega,by simp only [len]; omega⟩,ne_s (fun hne=>?_) (fun heq=>?_)⟩
  ·rw [if_neg (by rw [show allClean t=false from all_false (k:=k) (by omega) (Ty.dflt Ty.int) (by simpa using hne)]; simp)] at hK
   exact hK
  ·rw [w64_succ (by omega)]
   exact clean_log_scan x3 x4 x5 x6 K t ht hK d (k+1) (by omega) (by omega) (all_take_step (by omega) (Ty.dflt Ty.int) he (by simpa using heq))
theorem exit_log_scan (s:List Int) (sec:Nat) (hsec:sec≤1) (hl:s.length=32) (K:KK) (k:Nat) (hk:k≤32) (acc:List (List Int)) (M:Nat)
  (hK:K (.tup [.one (dR acc),.one (dI (if allClean (s.drop k) then 32*(sec:Int)+k else -1))]) []) :
  goD Γ_q61 tab fn_q61 0 K (M+33) q61_L1 (q61_S1 (0:Int) (((len (slc s (Int.toNat (min (k:Int) (((len s):Nat):Int))) (Int.toNat (((len s):Nat):Int)))):Nat):Int) (slc s (Int.toNat (min (k:Int) (((len s):Nat):Int))) (Int.toNat (((len s):Nat):Int))) (k:Int) 0 (sec:Int) acc):=by
 rw [show Int.toNat (min (k:Int) (((len s):Nat):Int))=k by simp only [len]; omega,show Int.toNat (((len s):Nat):Int)=s.length from rfl,slc_drop]
 refine clean_log_scan _ _ _ _ K (s.drop k) (by simp; omega) ?_ (M+32) 0 (by simp; omega) (by omega) rfl
 rw [w64_id (n:=(sec:Int)*32) (by omega) (by omega),w64_id (by omega) (by omega),show (sec:Int)*32+(k:Int)=32*(sec:Int)+k by omega]
 exact hK
theorem loop_q61 (s:List Int) (sec:Nat) (hsec:sec≤1) (hl:s.length=32) (hok:okWords s=true) (K:KK):∀ (m k:Nat) (acc:List (List Int)),k≤32→32≤m+k→acc.length≤k →
  K (.tup [.one (dR (acc++(scanL m (s.drop k)).1)),.one (dI (match (scanL m (s.drop k)).2 with | some n=>32*(sec:Int)+k+n | none=>-1))]) [] →
  goD Γ_q61 tab fn_q61 0 K (m+34) q61_L0 (q61_S0 (k:Int) s 0 (sec:Int) acc)
 | 0,k,acc,hk,hm,ha,hK=>by
  have:k=32:=by omega
  subst this
  rw [show 0+34=33+1 by omega,goD_in (L:=q61_L0),q61_vc0 _ _ _ _ _ _ _ _ rfl]
  simp only [scanL,List.append_nil] at hK
  refine lt_f (by simp only [len]; omega) ⟨⟨by simp only [len]; omega,by simp only [len]; omega,by omega⟩,exit_log_scan s sec hsec hl K 32 (by omega) acc 0 ?_⟩
  rw [List.drop_of_length_le (by omega)]
  simpa [allClean] using hK
 | m+1,k,acc,hk,hm,ha,hK=>by
  rw [show m+1+34=(m+34)+1 by omega,goD_in (L:=q61_L0),q61_vc0 _ _ _ _ _ _ _ _ rfl,toNat_nat]
  by_cases c:k=32
  ·subst c
   rw [List.drop_of_length_le (by omega)] at hK
   simp only [scanL,List.append_nil] at hK
   refine lt_f (by simp only [len]; omega) ⟨⟨by simp only [len]; omega,by simp only [len]; omega,by omega⟩,exit_log_scan s sec hsec hl K 32 (by omega) acc (m+1) ?_⟩
   rw [List.drop_of_length_le (by omega)]
   simpa [allClean] using hK
  rw [drop_step (by omega) (Ty.dflt Ty.int)] at hK
  obtain ⟨x,hx⟩:∃ x,nth s k (Ty.dflt Ty.int)=x:=⟨_,rfl⟩
  have hxo:okWord x=true:=hx ▸ okWords_at hok k (by omega)
  rw [hx] at hK ⊢
  simp only [scanL] at hK
  refine lt_t (by simp only [len]; omega) ⟨⟨by omega,by simp only [len]; omega⟩,ne_s (fun hne=>?_) (fun heq=>?_)⟩
  case refine_2 =>
   rw [if_pos heq] at hK
   refine ⟨⟨by simp only [len]; omega,by simp only [len]; omega,by omega⟩,exit_log_scan s sec hsec hl K k hk acc (m+1) ?_⟩
   rw [drop_step (by omega) (Ty.dflt Ty.int),hx]
   have e:allClean (x::s.drop (k+1))=allClean (s.drop (k+1)):=by simp [allClean,heq]
   rw [e]
   cases hc:allClean (s.drop (k+1))
   ·simpa [hc] using hK
   ·simpa [hc] using hK
  rw [if_neg hne] at hK
  obtain ⟨g1,g2,g3,g4⟩:=xori_head hxo
  have none':headN x=0→K (.tup [.one (dR acc),.one (dI (-1))]) []:=fun h=>by
   rw [if_pos h] at hK
   simpa using hK
  refine ⟨⟨by omega,by simp only [len]; omega⟩,lt_s (fun h1=>none' (g3 (.inl h1))) (fun h1=>lt_s (fun h2=>none' (g3 (.inr h2))) (fun h2=>?_))⟩
  obtain ⟨e1,e2,e3⟩:=g4 h1 h2
  rw [if_neg e2] at hK
  rw [e1]
  obtain ⟨n,hn⟩:∃ n,headN x=n:=⟨_,rfl⟩
  rw [hn] at hK e2 e3 ⊢
  rw [w64_id (n:=(k:Int)+(n:Int)) (by omega) (by omega),w64_id (n:=(k:Int)+(n:Int)+1) (by omega) (by omega),w64_id (n:=(k:Int)+1) (by omega) (by omega),w64_id (n:=(k:Int)+1+(n:Int)) (by omega) (by omega),w64_id (n:=(n:Int)+1) (by omega) (by omega),w64_id (n:=(k:Int)+((n:Int)+1)) (by omega) (by omega)]
  have ld:(s.drop (k+1)).length=31-k:=by simp; omega
  refine lt_s (fun h3=>?_) (fun h3=>?_)
  ·rw [if_neg (by simp only [len] at h3; omega)] at hK
   simpa using hK
  ·simp only [len] at h3
   rw [if_pos (by omega)] at hK
   rw [show Int.toNat ((k:Int)+1)=k+1 by omega,show Int.toNat ((k:Int)+1+(n:Int))=k+1+n by omega,show (k:Int)+((n:Int)+1)=((k+1+n:Nat):Int) by omega]
   have es:slc s (k+1) (k+1+n)=(s.drop (k+1)).take n:=by simp [slc,List.take_drop]
   rw [es]
   refine ⟨⟨by omega,by omega,by simp only [len]; omega⟩,by simp only [len,List.length_take]; omega,by simp only [len,List.length_cons,List.length_nil]; omega,?_⟩
   refine loop_q61 s sec hsec hl hok K m (k+1+n) _ (by omega) (by omega) (by simp only [cat,List.length_append,List.length_cons,List.length_nil]; omega) ?_
   rw [List.drop_drop] at hK
   have hK':=hK
   simp only [cat,List.append_assoc,List.cons_append,List.nil_append] at hK' ⊢
   cases hsc:(scanL m (s.drop (k+1+n))).2 with
   | none=>simpa [hsc] using hK'
   | some p =>
    simp only [hsc,Option.map] at hK'
    rw [show 32*(sec:Int)+(k:Int)+((p+n+1:Nat):Int)=32*(sec:Int)+((k+1+n:Nat):Int)+(p:Int) by omega] at hK'
    exact hK'
theorem run_q61 (hp:0≤sector∧sector≤1∧64≤len ws∧len ws≤192∧okWords ws=true) (K:KK) (hK:K (.tup [.one (dR (scanS ws sector.toNat).1),.one (dI (nextI sector.toNat (scanS ws sector.toNat).2))]) []):GD Γ_q61 fn_q61 0 K [.agg [dL ws,dI fu],.one (dI sector)] []:=by
 obtain ⟨h0,h1,h2,h3,hok⟩:=hp
 obtain ⟨sec,rfl⟩:=Int.eq_ofNat_of_zero_le h0
 refine ⟨32+34+1,?_⟩
 rw [goD_code,q61_vc _ _ _ _ _]
 rw [w64_id (n:=(sec:Int)*32) (by omega) (by omega),w64_id (n:=(sec:Int)+1) (by omega) (by omega),w64_id (by omega) (by omega)]
 simp only [len] at h2 h3 ⊢
 refine ⟨⟨by omega,by omega,by omega⟩,?_⟩
 rw [show Int.toNat ((sec:Int)*32)=32*sec by omega,show Int.toNat (((sec:Int)+1)*32)=32*sec+32 by omega]
 refine loop_q61 (slc ws (32*sec) (32*sec+32)) sec (by omega) (slc_len _ _ _ (by omega)) (slc_ok hok _ _) K 32 1 [] (by omega) (by omega) (by simp) ?_
 rw [toNat_nat] at hK
 unfold scanS sectorW at hK
 rw [List.nil_append]
 cases hsc:(scanL 32 ((slc ws (32*sec) (32*sec+32)).drop 1)).2 with
 | none =>
  simp only [hsc,nextI] at hK
  exact hK
 | some p =>
  simp only [hsc,nextI] at hK
  exact hK
theorem sound_q61:SoundC Tryz.prog tab n_q61 c_q61:=soundC_f ok_q61 hg_q61 (by
 intro vs bs p v bs' h hp
 unfold c_q61 at h
 split at h
 ·cases h
  exact ⟨by kernel_rfl,rfl,.inl (run_q61 _ _ _ hp.1 _ ⟨rfl,rfl⟩)⟩
 ·cases h)

def c_q64:Contract:=fun vs bs=>match vs,bs with
 | [.agg [.dat (.list .int) ws,.dat .int fu]],[]=>some (none,.tup [.one (dR (recordsF ⟨ws,fu⟩).1),.one (dI (recordsF ⟨ws,fu⟩).2)],[])
 | _,_=>none
def Γ_q64:Ctx:=[(n_q62,c_q62),(n_q60,c_q60),(n_q61,c_q61)]
theorem ok_q64:Ok Tryz.prog tab Γ_q64:=(((ok_nil.c hg_q61 sound_q61).c hg_q60 sound_q60).c hg_q62 sound_q62)
theorem q64_vc (ws:List Int) (fu:Int) (rec:RK) (K:KK) v0 (hv0:v0=checkLog (⟨ws,fu⟩:Flash)) v1 (hv1:v1=okWords ws) v2 (hv2:v2=liveS ws) v3 (hv3:v3=scanS ws (Int.toNat ((v2:Nat):Int))):segD Γ_q64 tab fn_q64 0 K rec [.code (bodyOf fn_q64)] (initSt [.agg [dL ws,dI fu]] [])=(
 br (!(eqi v0 0))
 (K (.tup [.one (dR []),.one (dI v0)]) [])
 ((64≤len ws∧v1=true) ∧
 ((0:Int)≤((v2:Nat):Int)∧((v2:Nat):Int)≤(1:Int)∧64≤len ws∧len ws≤192∧v1=true) ∧
 K (.tup [.one (dR v3.fst),.one (dI 0)]) [])):=by subst_vars; kernel_rfl

theorem run_q64 (K:KK) (hK:K (.tup [.one (dR (recordsF ⟨ws,fu⟩).1),.one (dI (recordsF ⟨ws,fu⟩).2)]) []):GD Γ_q64 fn_q64 0 K [.agg [dL ws,dI fu]] []:=by
 refine ⟨1,?_⟩
 rw [goD_code,q64_vc _ _ _ _ _ rfl _ rfl _ rfl _ rfl]
 unfold recordsF at hK
 refine ne_s (fun h=>?_) (fun h=>?_)
 ·rw [if_neg h] at hK; exact hK
 rw [if_pos h] at hK
 obtain ⟨k1,k2,k3,k4⟩:=checkLog_ok h
 obtain ⟨c1,c2,c3,c4⟩:=checkFlash_ok k1
 obtain ⟨c5,c6⟩:=okLen_le c1
 have:=liveS_le ws
 exact ⟨⟨k2,c4⟩,⟨by omega,by omega,k2,c6,c4⟩,hK⟩
theorem sound_q64:SoundC Tryz.prog tab n_q64 c_q64:=soundC_f ok_q64 hg_q64 (by
 intro vs bs p v bs' h hp
 unfold c_q64 at h
 split at h
 ·cases h
  exact ⟨by kernel_rfl,rfl,.inl (run_q64 _ _ _ ⟨rfl,rfl⟩)⟩
 ·cases h)

def c_q165:Contract:=fun vs bs=>match vs,bs with
 | [.one (.dat (.list (.list .int)) l)],[]=>some (some (len l≤1000∧nonE l=true),.agg [dI (stateG l).n,dI (stateG l).version,dB (stateG l).commit,dB (stateG l).abort,dB (stateG l).ended],[])
 | _,_=>none
def Γ_q165:Ctx:=[]
theorem ok_q165:Ok Tryz.prog tab Γ_q165:=ok_nil
noncomputable def q165_L0:List It:=[.inLoop [8,7,6,3,2] (cSub fn_q165 [1,1,0,1,0,0]),.inBlock 0,.code (cSub fn_q165 [1,1,1])]
def q165_S0 (x0 x1:Int) (x2:List (List Int)) (x3 x4:Int) (x5 x6 x7:Bool) (x8 x9:Int) (x10 x11 x12:Bool):St:=⟨[(8,.one (dI x0)),(7,.one (dI x1)),(6,.one (dR x2)),(3,.one (.ptr 0 0)),(2,.one (.ptr 1 0))],[(0,.box [dI x3,dI x4,dB x5,dB x6,dB x7]),(1,.box [dI x8,dI x9,dB x10,dB x11,dB x12])],2⟩
theorem q165_vc (l:List (List Int)) (rec:RK) (K:KK):segD Γ_q165 tab fn_q165 0 K rec [.code (bodyOf fn_q165)] (initSt [.one (dR l)] [])=(
 rec q165_L0 (q165_S0 0 (len l:Int) l 0 0 false false false 0 0 false false false)):=by kernel_rfl
theorem q165_vc0 (x0 x1:Int) (x2:List (List Int)) (x3 x4:Int) (x5 x6 x7:Bool) (x8 x9:Int) (x10 x11 x12:Bool) (rec:RK) (K:KK) v3 (hv3:v3=rec q165_L0 (q165_S0 (w64 (x0+1)) x1 x2 x3 x4 x5 x6 true x8 x9 x10 x11 x12)) v4 (hv4:v4=rec q165_L0 (q165_S0 (w64 (x0+1)) x1 x2 x3 x4 x5 x6 x7 x8 x9 x10 x11 x12)) v2 (hv2:v2=br (eqi (nth (nth x2 (Int.toNat x0) (Ty.dflt (Ty.list Ty.int))) (Int.toNat 0) (Ty.dflt Ty.int)) 4)
 (br x5
 v3
 (br x6
 v3
 v4))
 v4) v1 (hv1:v1=br (eqi (nth (nth x2 (Int.toNat x0) (Ty.dflt (Ty.list Ty.int))) (Int.toNat 0) (Ty.dflt Ty.int)) 3)
 (br (!x5)
 (rec q165_L0 (q165_S0 (w64 (x0+1)) x1 x2 x3 x4 x5 true x7 x8 x9 x10 x11 x12))
 (((0:Int)≤(0:Int)∧(0:Int)<(((len (nth x2 (Int.toNat x0) (Ty.dflt (Ty.list Ty.int)))):Nat):Int)) ∧
 v2))
 (((0:Int)≤(0:Int)∧(0:Int)<(((len (nth x2 (Int.toNat x0) (Ty.dflt (Ty.list Ty.int)))):Nat):Int)) ∧
 v2)) v0 (hv0:v0=br (!(eqi (((len (nth x2 (Int.toNat x0) (Ty.dflt (Ty.list Ty.int)))):Nat):Int) 2))
 v4
 (((0:Int)≤(1:Int)∧(1:Int)<(((len (nth x2 (Int.toNat x0) (Ty.dflt (Ty.list Ty.int)))):Nat):Int)) ∧
 br (!(eqi (nth (nth x2 (Int.toNat x0) (Ty.dflt (Ty.list Ty.int))) (Int.toNat 1) (Ty.dflt Ty.int)) x3))
 v4
 (br (eqi x3 0)
 v4
 (((0:Int)≤(0:Int)∧(0:Int)<(((len (nth x2 (Int.toNat x0) (Ty.dflt (Ty.list Ty.int)))):Nat):Int)) ∧
 br (eqi (nth (nth x2 (Int.toNat x0) (Ty.dflt (Ty.list Ty.int))) (Int.toNat 0) (Ty.dflt Ty.int)) 2)
 (br (!x6)
 (rec q165_L0 (q165_S0 (w64 (x0+1)) x1 x2 x3 x4 true x6 x7 x8 x9 x10 x11 x12))
 (((0:Int)≤(0:Int)∧(0:Int)<(((len (nth x2 (Int.toNat x0) (Ty.dflt (Ty.list Ty.int)))):Nat):Int)) ∧
 v1))
 (((0:Int)≤(0:Int)∧(0:Int)<(((len (nth x2 (Int.toNat x0) (Ty.dflt (Ty.list Ty.int)))):Nat):Int)) ∧
 v1))))):segD Γ_q165 tab fn_q165 0 K rec (ent q165_L0) (q165_S0 x0 x1 x2 x3 x4 x5 x6 x7 x8 x9 x10 x11 x12)=(
 br (lti x0 x1)
 (((0:Int)≤x0∧x0<(len x2:Int)) ∧
 ((0:Int)≤(0:Int)∧(0:Int)<(((len (nth x2 (Int.toNat x0) (Ty.dflt (Ty.list Ty.int)))):Nat):Int)) ∧
 br (eqi (nth (nth x2 (Int.toNat x0) (Ty.dflt (Ty.list Ty.int))) (Int.toNat 0) (Ty.dflt Ty.int)) 1)
 (br (eqi (((len (nth x2 (Int.toNat x0) (Ty.dflt (Ty.list Ty.int)))):Nat):Int) 3)
 (((0:Int)≤(1:Int)∧(1:Int)<(((len (nth x2 (Int.toNat x0) (Ty.dflt (Ty.list Ty.int)))):Nat):Int)) ∧
 br (lei 1 (nth (nth x2 (Int.toNat x0) (Ty.dflt (Ty.list Ty.int))) (Int.toNat 1) (Ty.dflt Ty.int)))
 (((0:Int)≤(1:Int)∧(1:Int)<(((len (nth x2 (Int.toNat x0) (Ty.dflt (Ty.list Ty.int)))):Nat):Int)) ∧
 br (lei (nth (nth x2 (Int.toNat x0) (Ty.dflt (Ty.list Ty.int))) (Int.toNat 1) (Ty.dflt Ty.int)) 8)
 (((0:Int)≤(1:Int)∧(1:Int)<(((len (nth x2 (Int.toNat x0) (Ty.dflt (Ty.list Ty.int)))):Nat):Int)) ∧
 ((0:Int)≤(2:Int)∧(2:Int)<(((len (nth x2 (Int.toNat x0) (Ty.dflt (Ty.list Ty.int)))):Nat):Int)) ∧
 rec q165_L0 (q165_S0 (w64 (x0+1)) x1 x2 (nth (nth x2 (Int.toNat x0) (Ty.dflt (Ty.list Ty.int))) (Int.toNat 1) (Ty.dflt Ty.int)) (nth (nth x2 (Int.toNat x0) (Ty.dflt (Ty.list Ty.int))) (Int.toNat 2) (Ty.dflt Ty.int)) false false false x8 x9 x10 x11 x12))
 v0)
 v0)
 v0)
 v0)
 (K (.agg [dI x3,dI x4,dB x5,dB x6,dB x7]) [])):=by subst_vars; kernel_rfl

set_option maxHeartbeats 4000000 in
theorem step_gate_state (l:List (List Int)) (K:KK) (x8 x9:Int) (x10 x11 x12:Bool) (M k:Nat) (n v:Int) (c a e:Bool) (r:List Int) (hk:k<l.length) (hl:l.length≤1000) (h0:0<r.length) (hr:nth l k (Ty.dflt (Ty.list Ty.int))=r)
  (nx:∀ (n' v':Int) (c' a' e':Bool),stepGt ⟨n,v,c,a,e⟩ r=⟨n',v',c',a',e'⟩→goD Γ_q165 tab fn_q165 0 K M q165_L0 (q165_S0 ((k+1:Nat):Int) (((len l):Nat):Int) l n' v' c' a' e' x8 x9 x10 x11 x12)) :
  goD Γ_q165 tab fn_q165 0 K (M+1) q165_L0 (q165_S0 (k:Int) (((len l):Nat):Int) l n v c a e x8 x9 x10 x11 x12):=by
 rw [goD_in (L:=q165_L0),q165_vc0 _ _ _ _ _ _ _ _ _ _ _ _ _ _ _ _ rfl _ rfl _ rfl _ rfl _ rfl,toNat_nat,hr]
 have ek:w64 ((k:Int)+1)=((k+1:Nat):Int):=w64_succ (by omega)
 rw [ek]
 obtain ⟨u0,e0⟩:∃ u0,r.getD 0 0=u0:=⟨_,rfl⟩
 obtain ⟨u1,e1⟩:∃ u1,r.getD 1 0=u1:=⟨_,rfl⟩
 obtain ⟨u2,e2⟩:∃ u2,r.getD 2 0=u2:=⟨_,rfl⟩
 have es:stepGt ⟨n,v,c,a,e⟩ r=if u0=1∧r.length=3∧1≤u1∧u1≤8 then ⟨u1,u2,false,false,false⟩ else if r.length≠2∨u1≠n∨n=0 then ⟨n,v,c,a,e⟩
   else if u0=2∧a=false then ⟨n,v,true,a,e⟩ else if u0=3∧c=false then ⟨n,v,c,true,e⟩ else if u0=4∧(c=true∨a=true) then ⟨n,v,c,a,true⟩ else ⟨n,v,c,a,e⟩:=by
  unfold stepGt; rw [e0,e1,e2]
 rw [show nth r (Int.toNat 0) (Ty.dflt Ty.int)=u0 from e0,show nth r (Int.toNat 1) (Ty.dflt Ty.int)=u1 from e1,show nth r (Int.toNat 2) (Ty.dflt Ty.int)=u2 from e2]
 have hlen:len r=r.length:=rfl
 rw [hlen]
 rw [es] at nx
 clear es
 refine lt_t (by simp only [len]; omega) ⟨⟨by omega,by simp only [len]; omega⟩,?_⟩
 repeat' first
  | refine ⟨⟨by omega,by omega⟩,?_⟩
  | refine eq_s (fun _=>?_) (fun _=>?_)
  | refine ne_s (fun _=>?_) (fun _=>?_)
  | refine nt_s (fun _=>?_) (fun _=>?_)
  | refine br_split (fun h=>?_) (fun h=>?_)<;>first | rw [lei_true] at h | rw [lei_false] at h
  | refine br_split (fun _=>?_) (fun _=>?_)
 all_goals first
  | (exfalso; omega)
  | exact nx _ _ _ _ _ (if_pos (by omega))
  | exact nx _ _ _ _ _ (by rw [if_neg (by omega),if_pos (by omega)])
  | exact nx _ _ _ _ _ (by rw [if_neg (by omega),if_neg (by omega),if_pos ⟨by omega,by assumption⟩])
  | exact nx _ _ _ _ _ (by rw [if_neg (by omega),if_neg (by omega),if_neg (by first | exact fun h=>absurd h.1 (by omega) | exact fun h=>absurd h.2 (by simp_all)),if_pos ⟨by omega,by assumption⟩])
  | exact nx _ _ _ _ _ (by rw [if_neg (by omega),if_neg (by omega),if_neg (by first | exact fun h=>absurd h.1 (by omega) | exact fun h=>absurd h.2 (by simp_all)),if_neg (by first | exact fun h=>absurd h.1 (by omega) | exact fun h=>absurd h.2 (by simp_all)),if_pos ⟨by omega,.inl (by assumption)⟩])
  | exact nx _ _ _ _ _ (by rw [if_neg (by omega),if_neg (by omega),if_neg (by first | exact fun h=>absurd h.1 (by omega) | exact fun h=>absurd h.2 (by simp_all)),if_neg (by first | exact fun h=>absurd h.1 (by omega) | exact fun h=>absurd h.2 (by simp_all)),if_pos ⟨by omega,.inr (by assumption)⟩])
  | exact nx _ _ _ _ _ (by rw [if_neg (by omega),if_neg (by omega),if_neg (by first | exact fun h=>absurd h.1 (by omega) | exact fun h=>absurd h.2 (by simp_all)),if_neg (by first | exact fun h=>absurd h.1 (by omega) | exact fun h=>absurd h.2 (by simp_all)),if_neg (by first | exact fun h=>absurd h.1 (by omega) | exact fun h=>absurd h.2 (by simp_all))])
theorem loop_q165 (l:List (List Int)) (hl:l.length≤1000) (hn:nonE l=true) (K:KK) (x8 x9:Int) (x10 x11 x12:Bool):∀ (d k:Nat) (n v:Int) (c a e:Bool),k+d=l.length →
  K (.agg [dI ((l.drop k).foldl stepGt ⟨n,v,c,a,e⟩).n,dI ((l.drop k).foldl stepGt ⟨n,v,c,a,e⟩).version,dB ((l.drop k).foldl stepGt ⟨n,v,c,a,e⟩).commit,dB ((l.drop k).foldl stepGt ⟨n,v,c,a,e⟩).abort,dB ((l.drop k).foldl stepGt ⟨n,v,c,a,e⟩).ended]) [] →
  goD Γ_q165 tab fn_q165 0 K (d+1) q165_L0 (q165_S0 (k:Int) (((len l):Nat):Int) l n v c a e x8 x9 x10 x11 x12)
 | 0,k,n,v,c,a,e,hk,hK=>by
  rw [goD_in (L:=q165_L0),q165_vc0 _ _ _ _ _ _ _ _ _ _ _ _ _ _ _ _ rfl _ rfl _ rfl _ rfl _ rfl]
  rw [List.drop_of_length_le (by omega)] at hK
  exact lt_f (by simp only [len]; omega) hK
 | d+1,k,n,v,c,a,e,hk,hK=>by
  have hm:nth l k (Ty.dflt (Ty.list Ty.int))∈l:=by
   have:k<l.length:=by omega
   simp [nth,List.getD_eq_getElem?_getD,this]
  have h0:0<(nth l k (Ty.dflt (Ty.list Ty.int))).length:=by simpa using List.all_eq_true.1 hn _ hm
  rw [drop_step (by omega) (Ty.dflt (Ty.list Ty.int))] at hK
  obtain ⟨r,hr⟩:∃ r,nth l k (Ty.dflt (Ty.list Ty.int))=r:=⟨_,rfl⟩
  rw [hr] at hK h0
  rw [List.foldl_cons] at hK
  refine step_gate_state l K x8 x9 x10 x11 x12 (d+1) k n v c a e r (by omega) hl h0 hr ?_
  have nx:∀ (n' v':Int) (c' a' e':Bool),stepGt ⟨n,v,c,a,e⟩ r=⟨n',v',c',a',e'⟩→goD Γ_q165 tab fn_q165 0 K (d+1) q165_L0 (q165_S0 ((k+1:Nat):Int) (((len l):Nat):Int) l n' v' c' a' e' x8 x9 x10 x11 x12):=fun n' v' c' a' e' h=>by
   rw [h] at hK
   exact loop_q165 l hl hn K x8 x9 x10 x11 x12 d (k+1) n' v' c' a' e' (by omega) hK
  exact nx
theorem run_q165 (l:List (List Int)) (hp:len l≤1000∧nonE l=true) (K:KK) (hK:K (.agg [dI (stateG l).n,dI (stateG l).version,dB (stateG l).commit,dB (stateG l).abort,dB (stateG l).ended]) []):GD Γ_q165 fn_q165 0 K [.one (dR l)] []:=by
 refine ⟨l.length+2,?_⟩
 rw [goD_code,q165_vc _ _ _]
 exact loop_q165 l hp.1 hp.2 K 0 0 false false false l.length 0 0 0 false false false (by omega) hK
theorem sound_q165:SoundC Tryz.prog tab n_q165 c_q165:=soundC_f ok_q165 hg_q165 (by
 intro vs bs p v bs' h hp
 unfold c_q165 at h
 split at h
 ·cases h
  exact ⟨by kernel_rfl,rfl,.inl (run_q165 _ hp.1 _ ⟨rfl,rfl⟩)⟩
 ·cases h)

def c_q166:Contract:=fun vs bs=>match vs,bs with
 | [.agg [.dat (.list .int) ws,.dat .int fu,.dat .bool _,.dat .int _,.dat (.list .int) _,.dat .int _,.dat .int _,.dat (.list .bool) _,.dat (.list .bool) _]],[]=>some (none,.agg [dI (ofG ⟨ws,fu⟩).n,dI (ofG ⟨ws,fu⟩).version,dB (ofG ⟨ws,fu⟩).commit,dB (ofG ⟨ws,fu⟩).abort,dB (ofG ⟨ws,fu⟩).ended],[])
 | _,_=>none
def Γ_q166:Ctx:=[(n_q64,c_q64),(n_q165,c_q165)]
theorem ok_q166:Ok Tryz.prog tab Γ_q166:=((ok_nil.c hg_q165 sound_q165).c hg_q64 sound_q64)
theorem q166_vc (ws:List Int) (fu:Int) (up:Bool) (tv:Int) (tk:List Int) (tt tn:Int) (vo di:List Bool) (rec:RK) (K:KK) v0 (hv0:v0=recordsF ⟨ws,fu⟩) v1 (hv1:v1=nonE v0.fst) v2 (hv2:v2=stateG v0.fst):segD Γ_q166 tab fn_q166 0 K rec [.code (bodyOf fn_q166)] (initSt [.agg [dL ws,dI fu,dB up,dI tv,dL tk,dI tt,dI tn,dLb vo,dLb di]] [])=(
 (len v0.fst≤1000∧v1=true) ∧
 K (.agg [dI v2.n,dI v2.version,dB v2.commit,dB v2.abort,dB v2.ended]) []):=by subst_vars; kernel_rfl

theorem run_q166 (K:KK) (hK:K (.agg [dI (ofG ⟨ws,fu⟩).n,dI (ofG ⟨ws,fu⟩).version,dB (ofG ⟨ws,fu⟩).commit,dB (ofG ⟨ws,fu⟩).abort,dB (ofG ⟨ws,fu⟩).ended]) []):GD Γ_q166 fn_q166 0 K [.agg [dL ws,dI fu,dB up,dI tv,dL tk,dI tt,dI tn,dLb vo,dLb di]] []:=by
 refine ⟨1,?_⟩
 rw [goD_code,q166_vc _ _ _ _ _ _ _ _ _ _ _ _ rfl _ rfl _ rfl]
 have h:=recordsF_ok2 ⟨ws,fu⟩
 exact ⟨⟨by simp only [len]; omega,nonE_of h.2⟩,hK⟩
theorem sound_q166:SoundC Tryz.prog tab n_q166 c_q166:=soundC_f ok_q166 hg_q166 (by
 intro vs bs p v bs' h hp
 unfold c_q166 at h
 split at h
 ·cases h
  exact ⟨by kernel_rfl,rfl,.inl (run_q166 _ _ _ _ _ _ _ _ _ _ ⟨rfl,rfl⟩)⟩
 ·cases h)

def c_q176:Contract:=fun vs bs=>match vs,bs with
 | [.agg [.dat .int gn,.dat .int gv,.dat .bool gc,.dat .bool ga,.dat .bool ge],.one (.dat .int u),.one (.dat .int n)],[]=>some (none,.agg [dI (kindG ⟨gn,gv,gc,ga,ge⟩ n),dI u,dI n,dI 0,dI 0,dL [],dB false],[])
 | _,_=>none
def Γ_q176:Ctx:=[]
theorem ok_q176:Ok Tryz.prog tab Γ_q176:=ok_nil
theorem q176_vc (gn gv:Int) (gc ga ge:Bool) (u n:Int) (rec:RK) (K:KK) v0 (hv0:v0=K (.agg [dI (5:Int),dI u,dI n,dI (0:Int),dI (0:Int),dL [],dB false]) []):segD Γ_q176 tab fn_q176 0 K rec [.code (bodyOf fn_q176)] (initSt [.agg [dI gn,dI gv,dB gc,dB ga,dB ge],.one (dI u),.one (dI n)] [])=(
 br gc
 (br (eqi gn n)
 (K (.agg [dI (4:Int),dI u,dI n,dI (0:Int),dI (0:Int),dL [],dB false]) [])
 v0)
 v0):=by subst_vars; kernel_rfl

theorem run_q176 (K:KK) (hK:K (.agg [dI (kindG ⟨gn,gv,gc,ga,ge⟩ n),dI u,dI n,dI 0,dI 0,dL [],dB false]) []):GD Γ_q176 fn_q176 0 K [.agg [dI gn,dI gv,dB gc,dB ga,dB ge],.one (dI u),.one (dI n)] []:=by
 refine ⟨1,?_⟩
 rw [goD_code,q176_vc _ _ _ _ _ _ _ _ _ _ rfl]
 unfold kindG at hK
 cases gc
 ·rw [if_neg (by simp)] at hK
  exact br_f rfl hK
 ·refine br_t rfl (eq_s (fun h=>?_) (fun h=>?_))
  ·rw [if_pos ⟨rfl,h⟩] at hK; exact hK
  ·rw [if_neg (fun q=>h q.2)] at hK; exact hK
theorem sound_q176:SoundC Tryz.prog tab n_q176 c_q176:=soundC_f ok_q176 hg_q176 (by
 intro vs bs p v bs' h hp
 unfold c_q176 at h
 split at h
 ·cases h
  exact ⟨by kernel_rfl,rfl,.inl (run_q176 _ _ _ _ _ _ _ _ ⟨rfl,rfl⟩)⟩
 ·cases h)

def c_q2:Contract:=fun vs bs=>match vs,bs with
 | [.one (.dat (.list .int) l)],[]=>some (some (len l*8≤140737488355328),.one (.own 0),[.arr .int l])
 | _,_=>none
def Γ_q2:Ctx:=[]
theorem ok_q2:Ok Tryz.prog tab Γ_q2:=ok_nil
theorem q2_vc (l:List Int) (rec:RK) (K:KK):segO Γ_q2 tab fn_q2 0 K rec [.code (bodyOf fn_q2)] (initSt [.one (dL l)] [])=(
 (∀ bn:Bool,(bn=true→len l=0)→br bn
 (K (.one (.own 0)) [.arr Ty.int []])
 ((0+len l)*8≤140737488355328 ∧
 K (.one (.own 0)) [.arr Ty.int (cat [] l)]))):=by kernel_rfl

theorem run_q2 (hp:len l*8≤140737488355328) (K:KK) (hK:K (.one (.own 0)) [.arr .int l]):GO Γ_q2 fn_q2 0 K [.one (dL l)] []:=by
 refine ⟨1,?_⟩
 rw [goO_code,q2_vc _ _ _]
 intro bn hb
 refine br_split (fun h=>?_) (fun h=>⟨by simp only [len] at hp ⊢; omega,hK⟩)
 have:l=[]:=List.length_eq_zero_iff.1 (hb h)
 subst this
 exact hK
theorem sound_q2:SoundC Tryz.prog tab n_q2 c_q2:=soundC_f ok_q2 hg_q2 (by
 intro vs bs p v bs' h hp
 unfold c_q2 at h
 split at h
 ·cases h
  exact ⟨by kernel_rfl,rfl,.inr (.inl (run_q2 _ hp.1 _ ⟨rfl,rfl⟩))⟩
 ·cases h)

def c_q177:Contract:=fun vs bs=>match vs,bs with
 | [.agg [.dat (.list .int) ws,.dat .int fu,.dat .bool up,.dat .int tv,.dat (.list .int) tk,.dat .int tt,.dat .int tn,.dat (.list .bool) vo,.dat (.list .bool) di],.agg [.dat .int cn,.dat .int cv,.dat .int cu,.dat (.list .target) ct,.dat (.list (.list .int)) ci],.one (.dat .int u)],[]=>some (some (ct.length≤140737488355328∧ci.length≤140737488355328),.tup [.one (dM (dueG ⟨⟨ws,fu⟩,up,⟨⟨tv,tk,tt⟩,tn⟩,vo,di⟩ ⟨cn,⟨cv,cu,ct⟩,ci⟩ u).1),.one (dI (dueG ⟨⟨ws,fu⟩,up,⟨⟨tv,tk,tt⟩,tn⟩,vo,di⟩ ⟨cn,⟨cv,cu,ct⟩,ci⟩ u).2)],[])
 | _,_=>none
def Γ_q177:Ctx:=[(n_q175,c_q175),(n_q166,c_q166),(n_q176,c_q176),(n_q2,c_q2)]
theorem ok_q177:Ok Tryz.prog tab Γ_q177:=((((ok_nil.c hg_q2 sound_q2).c hg_q176 sound_q176).c hg_q166 sound_q166).c hg_q175 sound_q175)
noncomputable def q177_L0:List It:=[.inLoop [12,11,10,9,7,6,4,2] (cSub fn_q177 [1,1,1,1,1,1,1,1,1,1,0,1,0,0]),.inBlock 0,.code (cSub fn_q177 [1,1,1,1,1,1,1,1,1,1,1])]
def q177_S0 (x0:Int) (x1:List Int) (x2 x3:Int) (x4:List Vm.Message) (x5 x6:Int) (x7 x8 x9:Bool) (x10:List Vm.Message) (x11 x12 x13:Int) (x14:List Vm.Target) (x15:List (List Int)):St:=⟨[(12,.one (dI x0)),(11,.one (.own 0)),(10,.one (dL x1)),(9,.one (.ptr 1 0)),(7,.one (dI x2)),(6,.one (.own 2)),(4,.one (.ptr 3 0)),(2,.one (dI x3))],[(0,.arr Ty.message x4),(1,.box [dI x5,dI x6,dB x7,dB x8,dB x9]),(2,.arr Ty.message x10),(3,.box [dI x11,dI x12,dI x13,.dat (Ty.list Ty.target) x14,dR x15])],4⟩
theorem q177_vc (ws:List Int) (fu:Int) (up:Bool) (tv:Int) (tk:List Int) (tt tn:Int) (vo di:List Bool) (cn cv cu:Int) (ct:List Vm.Target) (ci:List (List Int)) (u:Int) (rec:RK) (K:KK) v0 (hv0:v0=upG ⟨⟨ws,fu⟩,up,⟨⟨tv,tk,tt⟩,tn⟩,vo,di⟩) v1 (hv1:v1=ofG ⟨ws,fu⟩) v2 (hv2:v2=kindG ⟨v1.n,v1.version,v1.commit,v1.abort,v1.ended⟩ v1.n) v3 (hv3:v3=br (nth di (Int.toNat u) (Ty.dflt Ty.bool))
 (K (.tup [.one (dM []),.one (dI 0)]) [])
 (K (.tup [.one (dM ((⟨v2,u,v1.n,0,0,[],false⟩:Vm.Message)::[])),.one (dI 0)]) [])):segD Γ_q177 tab fn_q177 0 K rec [.code (bodyOf fn_q177)] (initSt [.agg [dL ws,dI fu,dB up,dI tv,dL tk,dI tt,dI tn,dLb vo,dLb di],.agg [dI cn,dI cv,dI cu,.dat (Ty.list Ty.target) ct,dR ci],.one (dI u)] [])=(
 br (!(eqi v0 0))
 (K (.tup [.one (dM []),.one (dI v0)]) [])
 (br (eqi v1.n 0)
 (K (.tup [.one (dM []),.one (dI 12)]) [])
 (br v1.ended
 (K (.tup [.one (dM []),.one (dI 12)]) [])
 (br (lti u 0)
 (K (.tup [.one (dM []),.one (dI 5)]) [])
 (br (lei (len vo:Int) u)
 (K (.tup [.one (dM []),.one (dI 5)]) [])
 (br (!(eqi cn v1.n))
 (K (.tup [.one (dM []),.one (dI 5)]) [])
 (br (lei (len ci:Int) u)
 (K (.tup [.one (dM []),.one (dI 5)]) [])
 (br (lei (len ct:Int) u)
 (K (.tup [.one (dM []),.one (dI 5)]) [])
 (br v1.commit
 (((0:Int)≤u∧u<(len di:Int)) ∧
 v3)
 (br v1.abort
 (((0:Int)≤u∧u<(len di:Int)) ∧
 v3)
 (((0:Int)≤u∧u<(len vo:Int)) ∧
 br (nth vo (Int.toNat u) (Ty.dflt Ty.bool))
 (K (.tup [.one (dM []),.one (dI 0)]) [])
 (((0:Int)≤u∧u<(len ci:Int)) ∧
 br (lti 40 (((len (nth ci (Int.toNat u) (Ty.dflt (Ty.list Ty.int)))):Nat):Int))
 (K (.tup [.one (dM []),.one (dI 2)]) [])
 (rec q177_L0 (q177_S0 0 (nth ci (Int.toNat u) (Ty.dflt (Ty.list Ty.int))) 0 u [] v1.n v1.version v1.commit v1.abort v1.ended [] cn cv cu ct ci)))))))))))))):=by subst_vars; kernel_rfl
theorem q177_vc0 (x0:Int) (x1:List Int) (x2 x3:Int) (x4:List Vm.Message) (x5 x6:Int) (x7 x8 x9:Bool) (x10:List Vm.Message) (x11 x12 x13:Int) (x14:List Vm.Target) (x15:List (List Int)) (rec:RK) (K:KK):segD Γ_q177 tab fn_q177 0 K rec (ent q177_L0) (q177_S0 x0 x1 x2 x3 x4 x5 x6 x7 x8 x9 x10 x11 x12 x13 x14 x15)=(
 br (lti x0 (len x1:Int))
 (((0:Int)≤x0∧x0≤min (w64 (x0+8)) (len x1:Int)∧min (w64 (x0+8)) (len x1:Int)≤(len x1:Int)) ∧
 len (slc x1 (Int.toNat x0) (Int.toNat (min (w64 (x0+8)) (len x1:Int))))*8≤140737488355328 ∧
 (len x4+len ((⟨1,x3,x5,x0,0,slc x1 (Int.toNat x0) (Int.toNat (min (w64 (x0+8)) (len x1:Int))),false⟩:Vm.Message)::[]))*72≤140737488355328 ∧
 rec q177_L0 (q177_S0 (w64 (x0+8)) x1 x2 x3 (cat x4 ((⟨1,x3,x5,x0,0,slc x1 (Int.toNat x0) (Int.toNat (min (w64 (x0+8)) (len x1:Int))),false⟩:Vm.Message)::[])) x5 x6 x7 x8 x9 x10 x11 x12 x13 x14 x15))
 (((0:Int)≤x3∧x3<(len x14:Int)) ∧
 (len x4+len ((⟨2,x3,x5,(len x1:Int),(nth x14 (Int.toNat x3) (Ty.dflt Ty.target)).image,[],false⟩:Vm.Message)::[]))*72≤140737488355328 ∧
 K (.tup [.one (dM (cat x4 ((⟨2,x3,x5,(len x1:Int),(nth x14 (Int.toNat x3) (Ty.dflt Ty.target)).image,[],false⟩:Vm.Message)::[]))),.one (dI 0)]) [])):=by kernel_rfl

theorem loop_q177 (w:List Int) (u n:Int) (hw:w.length≤40) (a b:Int) (c d e:Bool) (ml:List Vm.Message) (cn cv cu:Int) (ct:List Vm.Target) (ci:List (List Int)) (hu:0≤u∧u<(ct.length:Int)) (K:KK) :
  ∀ (f k:Nat) (acc:List Vm.Message),w.length≤k+8*f→k≤48→acc.length+f≤6→K (.tup [.one (dM (acc++(piecesM u n w f k++[⟨2,u,n,(w.length:Int),(nth ct u.toNat ⟨0,0,0⟩).image,[],false⟩]))),.one (dI (0:Int))]) [] →
  goD Γ_q177 tab fn_q177 0 K (f+1) q177_L0 (q177_S0 (k:Int) w a u acc n b c d e ml cn cv cu ct ci)
 | 0,k,acc,hk,h48,ha,hK=>by
  rw [goD_in (L:=q177_L0),q177_vc0 _ _ _ _ _ _ _ _ _ _ _ _ _ _ _ _ _ _]
  exact lt_f (by simp only [len]; omega) ⟨⟨hu.1,by simp only [len]; omega⟩,by simp only [len,List.length_cons,List.length_nil]; omega,hK⟩
 | f+1,k,acc,hk,h48,ha,hK=>by
  rw [goD_in (L:=q177_L0),q177_vc0 _ _ _ _ _ _ _ _ _ _ _ _ _ _ _ _ _ _]
  by_cases c:k<w.length
  ·simp only [piecesM,if_pos c] at hK
   have em:min (w64 ((k:Int)+8)) (((len w:Nat)):Int)=((min (k+8) w.length:Nat):Int):=by rw [w64_id (by omega) (by omega)]; simp only [len]; omega
   rw [em,toNat_nat,toNat_nat,show w64 ((k:Int)+8)=((k+8:Nat):Int) by rw [w64_id (by omega) (by omega)]; omega]
   have lp:len (slc w k (min (k+8) w.length))≤8:=by simp only [len,slc,List.length_drop,List.length_take]; omega
   refine lt_t (by simp only [len]; omega) ⟨⟨by omega,by omega,by simp only [len]; omega⟩,by omega,by simp only [len,List.length_cons,List.length_nil]; omega,?_⟩
   refine loop_q177 w u n hw a b _ d e ml cn cv cu ct ci hu K f (k+8) _ (by omega) (by omega) (by simp only [cat,List.length_append,List.length_cons,List.length_nil]; omega) ?_
   simp only [cat,List.append_assoc,List.cons_append,List.nil_append] at hK ⊢
   exact hK
  ·simp only [piecesM,if_neg c] at hK
   exact lt_f (by simp only [len]; omega) ⟨⟨hu.1,by simp only [len]; omega⟩,by simp only [len,List.length_cons,List.length_nil]; omega,hK⟩
theorem run_q177 (hp:ct.length≤140737488355328∧ci.length≤140737488355328) (K:KK) (hK:K (.tup [.one (dM (dueG ⟨⟨ws,fu⟩,up,⟨⟨tv,tk,tt⟩,tn⟩,vo,di⟩ ⟨cn,⟨cv,cu,ct⟩,ci⟩ u).1),.one (dI (dueG ⟨⟨ws,fu⟩,up,⟨⟨tv,tk,tt⟩,tn⟩,vo,di⟩ ⟨cn,⟨cv,cu,ct⟩,ci⟩ u).2)]) []):GD Γ_q177 fn_q177 0 K [.agg [dL ws,dI fu,dB up,dI tv,dL tk,dI tt,dI tn,dLb vo,dLb di],.agg [dI cn,dI cv,dI cu,.dat (.list .target) ct,dR ci],.one (dI u)] []:=by
 unfold dueG dueE duesG at hK
 simp only at hK
 have lv:((len vo:Nat):Int)=(vo.length:Int):=rfl
 have ld:((len di:Nat):Int)=(di.length:Int):=rfl
 have lc:((len ci:Nat):Int)=(ci.length:Int):=rfl
 have lt:((len ct:Nat):Int)=(ct.length:Int):=rfl
 obtain ⟨s,hs⟩:∃ s,ofG ⟨ws,fu⟩=s:=⟨_,rfl⟩
 rw [hs] at hK
 refine ⟨7+1,?_⟩
 rw [goD_code,q177_vc _ _ _ _ _ _ _ _ _ _ _ _ _ _ _ _ _ _ rfl _ rfl _ rfl _ rfl,hs,lv,ld,lc,lt]
 refine ne_s (fun h=>?_) (fun h=>?_)
 ·rw [if_neg h,if_neg h] at hK; exact hK
 have hc:checkG ⟨⟨ws,fu⟩,up,⟨⟨tv,tk,tt⟩,tn⟩,vo,di⟩=0:=upG_check h
 obtain ⟨_,v1,v2,v3,_⟩:=checkG_ok hc
 simp only at v1 v2 v3
 rw [if_pos h] at hK
 by_cases c1:s.n=0∨s.ended=true
 ·rw [if_pos c1,if_neg (by decide)] at hK
  exact eq_s (fun _=>hK) (fun q=>br_t (c1.resolve_left q) hK)
 rw [if_neg c1] at hK
 simp only [not_or,Bool.not_eq_true] at c1
 refine eq_f c1.1 (br_f c1.2 ?_)
 by_cases c2:u<0∨(vo.length:Int)≤u∨cn≠s.n∨(ci.length:Int)≤u∨(ct.length:Int)≤u
 ·rw [if_pos c2,if_neg (by decide)] at hK
  exact lt_s (fun _=>hK) (fun q1=>br_split (fun _=>hK) (fun q2=>ne_s (fun _=>hK) (fun q3=>br_split (fun _=>hK) (fun q4=>br_t (lei_true.2 (by rw [lei_false] at q2 q4; omega)) hK))))
 rw [if_neg c2,if_pos rfl] at hK
 refine lt_f (by omega) (br_f (lei_false.2 (by omega)) (ne_f (by omega) (br_f (lei_false.2 (by omega)) (br_f (lei_false.2 (by omega)) ?_))))
 have dec:s.commit=true∨s.abort=true→br (nth di (Int.toNat u) (Ty.dflt Ty.bool)) (K (.tup [.one (dM []),.one (dI (0:Int))]) [])
   (K (.tup [.one (dM ((⟨kindG s s.n,u,s.n,(0:Int),(0:Int),[],false⟩:Vm.Message)::[])),.one (dI (0:Int))]) []):=fun hd=>by
  rw [if_pos hd] at hK
  refine br_split (fun q=>?_) (fun q=>?_)
  ·rw [if_pos (by exact q)] at hK; exact hK
  ·rw [if_neg (by exact Bool.eq_false_iff.1 q)] at hK; exact hK
 refine br_split (fun d1=>⟨⟨by omega,by omega⟩,dec (.inl d1)⟩) (fun d1=>br_split (fun d2=>⟨⟨by omega,by omega⟩,dec (.inr d2)⟩) (fun d2=>⟨⟨by omega,by omega⟩,?_⟩))
 rw [if_neg (by rw [d1,d2]; simp)] at hK
 refine br_split (fun q=>?_) (fun q=>⟨⟨by omega,by omega⟩,?_⟩)
 ·rw [if_pos (by exact q)] at hK; exact hK
 rw [if_neg (by exact Bool.eq_false_iff.1 q)] at hK
 unfold imageM at hK
 simp only at hK
 obtain ⟨w,hw⟩:∃ w,nth ci (Int.toNat u) (Ty.dflt (Ty.list Ty.int))=w:=⟨_,rfl⟩
 have hw':nth ci (Int.toNat u) []=w:=hw
 rw [hw]
 rw [hw'] at hK
 have lw:((len w:Nat):Int)=(w.length:Int):=rfl
 rw [lw]
 by_cases c3:40<w.length
 ·rw [if_pos c3] at hK
  exact lt_t (by omega) hK
 ·rw [if_neg c3] at hK
  have hl:=loop_q177 w u s.n (by omega) 0 s.version s.commit s.abort s.ended [] cn cv cu ct ci ⟨by omega,by omega⟩ K 6 0 [] (by omega) (by omega) (by simp) (by rw [List.nil_append]; exact hK)
  exact lt_f (by omega) hl
theorem sound_q177:SoundC Tryz.prog tab n_q177 c_q177:=soundC_f ok_q177 hg_q177 (by
 intro vs bs p v bs' h hp
 unfold c_q177 at h
 split at h
 ·cases h
  exact ⟨by kernel_rfl,rfl,.inl (run_q177 _ _ _ _ _ _ _ _ _ _ _ _ _ _ _ hp.1 _ ⟨rfl,rfl⟩)⟩
 ·cases h)

abbrev n_q159:Nat:=n_q7
noncomputable abbrev fn_q159:Func:=fn_q7
theorem hg_q159:FnOk Tryz.prog n_q159 fn_q159:=hg_q7
def c_q159:Contract:=fun vs bs=>match vs,bs with
 | [.agg [.dat (.list .int) ws,.dat .int fu]],[]=>some (some (len ws*8≤140737488355328),.agg [dL ws,dI fu],[])
 | _,_=>none
def Γ_q159:Ctx:=[(n_q2,c_q2)]
theorem ok_q159:Ok Tryz.prog tab Γ_q159:=(ok_nil.c hg_q2 sound_q2)
theorem q159_vc (ws:List Int) (fu:Int) (rec:RK) (K:KK):segD Γ_q159 tab fn_q159 0 K rec [.code (bodyOf fn_q159)] (initSt [.agg [dL ws,dI fu]] [])=(
 len ws*8≤140737488355328 ∧
 K (.agg [dL ws,dI fu]) []):=by kernel_rfl

theorem run_q159 (hp:len ws*8≤140737488355328) (K:KK) (hK:K (.agg [dL ws,dI fu]) []):GD Γ_q159 fn_q159 0 K [.agg [dL ws,dI fu]] []:=by
 refine ⟨1,?_⟩
 rw [goD_code,q159_vc _ _ _ _]
 exact ⟨hp,hK⟩
theorem sound_q159:SoundC Tryz.prog tab n_q159 c_q159:=soundC_f ok_q159 hg_q159 (by
 intro vs bs p v bs' h hp
 unfold c_q159 at h
 split at h
 ·cases h
  exact ⟨by kernel_rfl,rfl,.inl (run_q159 _ _ hp.1 _ ⟨rfl,rfl⟩)⟩
 ·cases h)

abbrev n_q160:Nat:=n_q2
noncomputable abbrev fn_q160:Func:=fn_q2
theorem hg_q160:FnOk Tryz.prog n_q160 fn_q160:=hg_q2
def c_q160:Contract:=fun vs bs=>match vs,bs with
 | [.one (.dat (.list .int) l)],[]=>some (some (len l*8≤140737488355328),.one (dL l),[])
 | _,_=>none
def Γ_q160:Ctx:=[]
theorem ok_q160:Ok Tryz.prog tab Γ_q160:=ok_nil
theorem q160_vc (l:List Int) (rec:RK) (K:KK):segD Γ_q160 tab fn_q160 0 K rec [.code (bodyOf fn_q160)] (initSt [.one (dL l)] [])=(
 (∀ bn:Bool,(bn=true→len l=0)→br bn
 (K (.one (dL [])) [])
 ((0+len l)*8≤140737488355328 ∧
 K (.one (dL (cat [] l))) []))):=by kernel_rfl

theorem run_q160 (hp:len l*8≤140737488355328) (K:KK) (hK:K (.one (dL l)) []):GD Γ_q160 fn_q160 0 K [.one (dL l)] []:=by
 refine ⟨1,?_⟩
 rw [goD_code,q160_vc _ _ _]
 intro bn hb
 refine br_split (fun h=>?_) (fun h=>⟨by simp only [len] at hp ⊢; omega,hK⟩)
 have:l=[]:=List.length_eq_zero_iff.1 (hb h)
 subst this
 exact hK
theorem sound_q160:SoundC Tryz.prog tab n_q160 c_q160:=soundC_f ok_q160 hg_q160 (by
 intro vs bs p v bs' h hp
 unfold c_q160 at h
 split at h
 ·cases h
  exact ⟨by kernel_rfl,rfl,.inl (run_q160 _ hp.1 _ ⟨rfl,rfl⟩)⟩
 ·cases h)

def c_q161:Contract:=fun vs bs=>match vs,bs with
 | [.one (.dat (.list .bool) l)],[]=>some (some (len l≤1000),.one (.own 0),[.arr .bool l])
 | _,_=>none
def Γ_q161:Ctx:=[]
theorem ok_q161:Ok Tryz.prog tab Γ_q161:=ok_nil
theorem q161_vc (l:List Bool) (rec:RK) (K:KK):segO Γ_q161 tab fn_q161 0 K rec [.code (bodyOf fn_q161)] (initSt [.one (dLb l)] [])=(
 (∀ bn:Bool,(bn=true→len l=0)→br bn
 (K (.one (.own 0)) [.arr Ty.bool []])
 ((0+len l)*1≤140737488355328 ∧
 K (.one (.own 0)) [.arr Ty.bool (cat [] l)]))):=by kernel_rfl

theorem run_q161 (l:List Bool) (hp:len l≤1000) (K:KK) (hK:K (.one (.own 0)) [.arr .bool l]):GO Γ_q161 fn_q161 0 K [.one (dLb l)] []:=by
 refine ⟨1,?_⟩
 rw [goO_code,q161_vc _ _ _]
 intro bn hb
 refine br_split (fun h=>?_) (fun h=>⟨by simp only [len] at hp ⊢; omega,hK⟩)
 have:l=[]:=List.length_eq_zero_iff.1 (hb h)
 subst this
 exact hK
theorem sound_q161:SoundC Tryz.prog tab n_q161 c_q161:=soundC_f ok_q161 hg_q161 (by
 intro vs bs p v bs' h hp
 unfold c_q161 at h
 split at h
 ·cases h
  exact ⟨by kernel_rfl,rfl,.inr (.inl (run_q161 _ hp.1 _ ⟨rfl,rfl⟩))⟩
 ·cases h)

def c_q171:Contract:=fun vs bs=>match vs,bs with
 | [.agg [.dat (.list .int) ws,.dat .int fu,.dat .bool up,.dat .int tv,.dat (.list .int) tk,.dat .int tt,.dat .int tn,.dat (.list .bool) vo,.dat (.list .bool) di]],[]=>some (some (len ws*8≤140737488355328∧len tk*8≤140737488355328∧len vo≤1000∧len di≤1000),.agg [dL ws,dI fu,dB up,dI tv,dL tk,dI tt,dI tn,.own 0,.own 1],[.arr .bool vo,.arr .bool di])
 | _,_=>none
def Γ_q171:Ctx:=[(n_q159,c_q159),(n_q160,c_q160),(n_q161,c_q161)]
theorem ok_q171:Ok Tryz.prog tab Γ_q171:=(((ok_nil.c hg_q161 sound_q161).c hg_q160 sound_q160).c hg_q159 sound_q159)
theorem q171_vc (ws:List Int) (fu:Int) (up:Bool) (tv:Int) (tk:List Int) (tt tn:Int) (vo di:List Bool) (rec:RK) (K:KK):segO Γ_q171 tab fn_q171 0 K rec [.code (bodyOf fn_q171)] (initSt [.agg [dL ws,dI fu,dB up,dI tv,dL tk,dI tt,dI tn,dLb vo,dLb di]] [])=(
 len ws*8≤140737488355328 ∧
 len tk*8≤140737488355328 ∧
 len vo≤1000 ∧
 len di≤1000 ∧
 K (.agg [dL ws,dI fu,dB up,dI tv,dL tk,dI tt,dI tn,.own 0,.own 1]) [.arr Ty.bool vo,.arr Ty.bool di]):=by kernel_rfl

theorem run_q171 (hp:len ws*8≤140737488355328∧len tk*8≤140737488355328∧len vo≤1000∧len di≤1000) (K:KK) (hK:K (.agg [dL ws,dI fu,dB up,dI tv,dL tk,dI tt,dI tn,.own 0,.own 1]) [.arr .bool vo,.arr .bool di]):GO Γ_q171 fn_q171 0 K [.agg [dL ws,dI fu,dB up,dI tv,dL tk,dI tt,dI tn,dLb vo,dLb di]] []:=by
 refine ⟨1,?_⟩
 rw [goO_code,q171_vc _ _ _ _ _ _ _ _ _ _ _]
 exact ⟨hp.1,hp.2.1,hp.2.2.1,hp.2.2.2,hK⟩
theorem sound_q171:SoundC Tryz.prog tab n_q171 c_q171:=soundC_f ok_q171 hg_q171 (by
 intro vs bs p v bs' h hp
 unfold c_q171 at h
 split at h
 ·cases h
  exact ⟨by kernel_rfl,rfl,.inr (.inl (run_q171 _ _ _ _ _ _ _ _ _ hp.1 _ ⟨rfl,rfl⟩))⟩
 ·cases h)

abbrev n_q167:Nat:=n_q166
noncomputable abbrev fn_q167:Func:=fn_q166
theorem hg_q167:FnOk Tryz.prog n_q167 fn_q167:=hg_q166
def c_q167:Contract:=fun vs bs=>match vs,bs with
 | [.agg [.dat (.list .int) ws,.dat .int fu,.dat .bool _,.dat .int _,.dat (.list .int) _,.dat .int _,.dat .int _,.own 0,.own 1]],[.arr .bool vo,.arr .bool di]=>some (none,.agg [dI (ofG ⟨ws,fu⟩).n,dI (ofG ⟨ws,fu⟩).version,dB (ofG ⟨ws,fu⟩).commit,dB (ofG ⟨ws,fu⟩).abort,dB (ofG ⟨ws,fu⟩).ended],[.arr .bool vo,.arr .bool di])
 | _,_=>none
def Γ_q167:Ctx:=[(n_q64,c_q64),(n_q165,c_q165)]
theorem ok_q167:Ok Tryz.prog tab Γ_q167:=((ok_nil.c hg_q165 sound_q165).c hg_q64 sound_q64)
theorem q167_vc (ws:List Int) (fu:Int) (up:Bool) (tv:Int) (tk:List Int) (tt tn:Int) (vo di:List Bool) (rec:RK) (K:KK) v0 (hv0:v0=recordsF ⟨ws,fu⟩) v1 (hv1:v1=nonE v0.fst) v2 (hv2:v2=stateG v0.fst):segD Γ_q167 tab fn_q167 2 K rec [.code (bodyOf fn_q167)] (initSt [.agg [dL ws,dI fu,dB up,dI tv,dL tk,dI tt,dI tn,.own 0,.own 1]] [.arr Ty.bool vo,.arr Ty.bool di])=(
 (len v0.fst≤1000∧v1=true) ∧
 K (.agg [dI v2.n,dI v2.version,dB v2.commit,dB v2.abort,dB v2.ended]) [.arr Ty.bool vo,.arr Ty.bool di]):=by subst_vars; kernel_rfl

theorem run_q167 (K:KK) (hK:K (.agg [dI (ofG ⟨ws,fu⟩).n,dI (ofG ⟨ws,fu⟩).version,dB (ofG ⟨ws,fu⟩).commit,dB (ofG ⟨ws,fu⟩).abort,dB (ofG ⟨ws,fu⟩).ended]) [.arr .bool vo,.arr .bool di]):GD Γ_q167 fn_q167 2 K [.agg [dL ws,dI fu,dB up,dI tv,dL tk,dI tt,dI tn,.own 0,.own 1]] [.arr .bool vo,.arr .bool di]:=by
 refine ⟨1,?_⟩
 rw [goD_code,q167_vc _ _ _ _ _ _ _ _ _ _ _ _ rfl _ rfl _ rfl]
 have h:=recordsF_ok2 ⟨ws,fu⟩
 exact ⟨⟨by simp only [len]; omega,nonE_of h.2⟩,hK⟩
theorem sound_q167:SoundC Tryz.prog tab n_q167 c_q167:=soundC_f ok_q167 hg_q167 (by
 intro vs bs p v bs' h hp
 unfold c_q167 at h
 split at h
 ·cases h
  exact ⟨by kernel_rfl,rfl,.inl (run_q167 _ _ _ _ _ _ _ _ _ _ ⟨rfl,rfl⟩)⟩
 ·cases h)

abbrev n_q162:Nat:=n_slices_Index_Lbool
noncomputable abbrev fn_q162:Func:=fn_slices_Index_Lbool
theorem hg_q162:FnOk Tryz.prog n_q162 fn_q162:=hg_slices_Index_Lbool
def c_q162:Contract:=fun vs bs=>match vs,bs with
 | [.one (.own 0),.one (.dat .bool x)],[.arr .bool l]=>some (some (len l≤1000),.one (dI (indexB x 0 l)),[.arr .bool l])
 | _,_=>none
def Γ_q162:Ctx:=[]
theorem ok_q162:Ok Tryz.prog tab Γ_q162:=ok_nil
noncomputable def q162_L0:List It:=[.inLoop [8,7,4,0,1] (cSub fn_q162 [1,0,1,0,0]),.inBlock 0,.code (cSub fn_q162 [1,1])]
def q162_S0 (x0 x1 x2:Int) (x3:Bool) (x4:List Bool):St:=⟨[(8,.one (dI x0)),(7,.one (dI x1)),(4,.one (dI x2)),(0,.one (.own 0)),(1,.one (dB x3))],[(0,.arr Ty.bool x4)],1⟩
theorem q162_vc (l:List Bool) (x:Bool) (rec:RK) (K:KK):segD Γ_q162 tab fn_q162 1 K rec [.code (bodyOf fn_q162)] (initSt [.one (.own 0),.one (dB x)] [.arr Ty.bool l])=(
 rec q162_L0 (q162_S0 0 (len l:Int) 0 x l)):=by kernel_rfl
theorem q162_vc0 (x0 x1 x2:Int) (x3:Bool) (x4:List Bool) (rec:RK) (K:KK):segD Γ_q162 tab fn_q162 1 K rec (ent q162_L0) (q162_S0 x0 x1 x2 x3 x4)=(
 br (lti x0 x1)
 (((0:Int)≤x0∧x0<(len x4:Int)) ∧
 Int.toNat x0<len x4 ∧
 br (eqb x3 (nth x4 (Int.toNat x0) (Ty.dflt Ty.bool)))
 (K (.one (dI x0)) [.arr Ty.bool x4])
 (rec q162_L0 (q162_S0 (w64 (x0+1)) x1 x2 x3 x4)))
 (K (.one (dI (-1))) [.arr Ty.bool x4])):=by kernel_rfl

theorem loop_q162 (l:List Bool) (s:Bool) (hl:l.length≤1000) (K:KK):∀ (d k:Nat),k+d=l.length→K (.one (dI (indexB s k (l.drop k)))) [.arr .bool l] →
  goD Γ_q162 tab fn_q162 1 K (d+1) q162_L0 (q162_S0 (k:Int) (((len l):Nat):Int) 0 s l)
 | 0,k,hk,hK=>by
  rw [goD_in (L:=q162_L0),q162_vc0 _ _ _ _ _ _ _]
  rw [List.drop_of_length_le (by omega)] at hK
  exact lt_f (by simp only [len]; omega) hK
 | d+1,k,hk,hK=>by
  rw [goD_in (L:=q162_L0),q162_vc0 _ _ _ _ _ _ _,toNat_nat]
  rw [drop_step (by omega) (Ty.dflt Ty.bool)] at hK
  simp only [indexB] at hK
  refine lt_t (by simp only [len]; omega) ⟨⟨by omega,by simp only [len]; omega⟩,by simp only [len]; omega,br_split (fun h=>?_) (fun h=>?_)⟩
  ·rw [if_pos (of_decide_eq_true h).symm] at hK; exact hK
  ·rw [if_neg (fun e=>of_decide_eq_false h e.symm)] at hK
   rw [w64_succ (by omega)]
   exact loop_q162 l s hl K d (k+1) (by omega) hK
theorem run_q162 (l:List Bool) (hp:len l≤1000) (K:KK) (hK:K (.one (dI (indexB x 0 l))) [.arr .bool l]):GD Γ_q162 fn_q162 1 K [.one (.own 0),.one (dB x)] [.arr .bool l]:=by
 refine ⟨l.length+2,?_⟩
 rw [goD_code,q162_vc _ _ _ _]
 exact loop_q162 l x hp K l.length 0 (by omega) hK
theorem sound_q162:SoundC Tryz.prog tab n_q162 c_q162:=soundC_f ok_q162 hg_q162 (by
 intro vs bs p v bs' h hp
 unfold c_q162 at h
 split at h
 ·cases h
  exact ⟨by kernel_rfl,rfl,.inl (run_q162 _ _ hp.1 _ ⟨rfl,rfl⟩)⟩
 ·cases h)

abbrev n_q163:Nat:=n_slices_Contains_Lbool
noncomputable abbrev fn_q163:Func:=fn_slices_Contains_Lbool
theorem hg_q163:FnOk Tryz.prog n_q163 fn_q163:=hg_slices_Contains_Lbool
def c_q163:Contract:=fun vs bs=>match vs,bs with
 | [.one (.own 0),.one (.dat .bool x)],[.arr .bool l]=>some (some (len l≤1000),.one (dB (hasB x l)),[.arr .bool l])
 | _,_=>none
def Γ_q163:Ctx:=[(n_q162,c_q162)]
theorem ok_q163:Ok Tryz.prog tab Γ_q163:=(ok_nil.c hg_q162 sound_q162)
theorem q163_vc (l:List Bool) (x:Bool) (rec:RK) (K:KK) v0 (hv0:v0=indexB x 0 l):segD Γ_q163 tab fn_q163 1 K rec [.code (bodyOf fn_q163)] (initSt [.one (.own 0),.one (dB x)] [.arr Ty.bool l])=(
 len l≤1000 ∧
 K (.one (dB (lei 0 v0))) [.arr Ty.bool l]):=by subst_vars; kernel_rfl

theorem run_q163 (l:List Bool) (hp:len l≤1000) (K:KK) (hK:K (.one (dB (hasB x l))) [.arr .bool l]):GD Γ_q163 fn_q163 1 K [.one (.own 0),.one (dB x)] [.arr .bool l]:=by
 refine ⟨1,?_⟩
 rw [goD_code,q163_vc _ _ _ _ _ rfl]
 exact ⟨hp,hK⟩
theorem sound_q163:SoundC Tryz.prog tab n_q163 c_q163:=soundC_f ok_q163 hg_q163 (by
 intro vs bs p v bs' h hp
 unfold c_q163 at h
 split at h
 ·cases h
  exact ⟨by kernel_rfl,rfl,.inl (run_q163 _ _ hp.1 _ ⟨rfl,rfl⟩)⟩
 ·cases h)

def c_q173:Contract:=fun vs bs=>match vs,bs with
 | [.agg [.dat .int gn,.dat .int gv,.dat .bool gc,.dat .bool ga,.dat .bool ge]],[]=>some (none,.one (dR (keepG ⟨gn,gv,gc,ga,ge⟩)),[])
 | _,_=>none
def Γ_q173:Ctx:=[]
theorem ok_q173:Ok Tryz.prog tab Γ_q173:=ok_nil
theorem q173_vc (gn gv:Int) (gc ga ge:Bool) (rec:RK) (K:KK):segD Γ_q173 tab fn_q173 0 K rec [.code (bodyOf fn_q173)] (initSt [.agg [dI gn,dI gv,dB gc,dB ga,dB ge]] [])=(
 br (eqi gn 0)
 (K (.one (dR [])) [])
 (br gc
 ((len (((1:Int)::gn::gv::[])::[])+len (((2:Int)::gn::[])::[]))*24≤140737488355328 ∧
 br ga
 ((len (cat (((1:Int)::gn::gv::[])::[]) (((2:Int)::gn::[])::[]))+len (((3:Int)::gn::[])::[]))*24≤140737488355328 ∧
 br ge
 ((len (cat (cat (((1:Int)::gn::gv::[])::[]) (((2:Int)::gn::[])::[])) (((3:Int)::gn::[])::[]))+len (((4:Int)::gn::[])::[]))*24≤140737488355328 ∧
 K (.one (dR (cat (cat (cat (((1:Int)::gn::gv::[])::[]) (((2:Int)::gn::[])::[])) (((3:Int)::gn::[])::[])) (((4:Int)::gn::[])::[])))) [])
 (K (.one (dR (cat (cat (((1:Int)::gn::gv::[])::[]) (((2:Int)::gn::[])::[])) (((3:Int)::gn::[])::[])))) []))
 (br ge
 ((len (cat (((1:Int)::gn::gv::[])::[]) (((2:Int)::gn::[])::[]))+len (((4:Int)::gn::[])::[]))*24≤140737488355328 ∧
 K (.one (dR (cat (cat (((1:Int)::gn::gv::[])::[]) (((2:Int)::gn::[])::[])) (((4:Int)::gn::[])::[])))) [])
 (K (.one (dR (cat (((1:Int)::gn::gv::[])::[]) (((2:Int)::gn::[])::[])))) [])))
 (br ga
 ((len (((1:Int)::gn::gv::[])::[])+len (((3:Int)::gn::[])::[]))*24≤140737488355328 ∧
 br ge
 ((len (cat (((1:Int)::gn::gv::[])::[]) (((3:Int)::gn::[])::[]))+len (((4:Int)::gn::[])::[]))*24≤140737488355328 ∧
 K (.one (dR (cat (cat (((1:Int)::gn::gv::[])::[]) (((3:Int)::gn::[])::[])) (((4:Int)::gn::[])::[])))) [])
 (K (.one (dR (cat (((1:Int)::gn::gv::[])::[]) (((3:Int)::gn::[])::[])))) []))
 (br ge
 ((len (((1:Int)::gn::gv::[])::[])+len (((4:Int)::gn::[])::[]))*24≤140737488355328 ∧
 K (.one (dR (cat (((1:Int)::gn::gv::[])::[]) (((4:Int)::gn::[])::[])))) [])
 (K (.one (dR (((1:Int)::gn::gv::[])::[]))) []))))):=by kernel_rfl

theorem run_q173 (K:KK) (hK:K (.one (dR (keepG ⟨gn,gv,gc,ga,ge⟩))) []):GD Γ_q173 fn_q173 0 K [.agg [dI gn,dI gv,dB gc,dB ga,dB ge]] []:=by
 refine ⟨1,?_⟩
 rw [goD_code,q173_vc _ _ _ _ _ _ _]
 unfold keepG at hK
 refine eq_s (fun h=>?_) (fun h=>?_)
 ·rw [if_pos (by exact h)] at hK; exact hK
 ·rw [if_neg (by exact h)] at hK
  cases gc<;>cases ga<;>cases ge
  ·exact br_f rfl (br_f rfl (br_f rfl hK))
  ·exact br_f rfl (br_f rfl (br_t rfl ⟨by simp [len],hK⟩))
  ·exact br_f rfl (br_t rfl ⟨by simp [len],br_f rfl hK⟩)
  ·exact br_f rfl (br_t rfl ⟨by simp [len],br_t rfl ⟨by simp [len,cat],hK⟩⟩)
  ·exact br_t rfl ⟨by simp [len],br_f rfl (br_f rfl hK)⟩
  ·exact br_t rfl ⟨by simp [len],br_f rfl (br_t rfl ⟨by simp [len,cat],hK⟩)⟩
  ·exact br_t rfl ⟨by simp [len],br_t rfl ⟨by simp [len,cat],br_f rfl hK⟩⟩
  ·exact br_t rfl ⟨by simp [len],br_t rfl ⟨by simp [len,cat],br_t rfl ⟨by simp [len,cat],hK⟩⟩⟩
theorem sound_q173:SoundC Tryz.prog tab n_q173 c_q173:=soundC_f ok_q173 hg_q173 (by
 intro vs bs p v bs' h hp
 unfold c_q173 at h
 split at h
 ·cases h
  exact ⟨by kernel_rfl,rfl,.inl (run_q173 _ _ _ _ _ _ ⟨rfl,rfl⟩)⟩
 ·cases h)

def c_q14:Contract:=fun vs bs=>match vs,bs with
 | [.one (.dat .int w)],[]=>some (none,.one (dB (!okWord w)),[])
 | _,_=>none
def Γ_q14:Ctx:=[]
theorem ok_q14:Ok Tryz.prog tab Γ_q14:=ok_nil
theorem q14_vc (w:Int) (rec:RK) (K:KK):segD Γ_q14 tab fn_q14 0 K rec [.code (bodyOf fn_q14)] (initSt [.one (dI w)] [])=(
 br (lti w 0)
 (K vT [])
 (K (.one (dB (lti 65535 w))) [])):=by kernel_rfl

theorem run_q14 (K:KK) (hK:K (.one (dB (!okWord w))) []):GD Γ_q14 fn_q14 0 K [.one (dI w)] []:=by
 refine ⟨1,?_⟩
 rw [goD_code,q14_vc _ _ _]
 refine lt_s (fun h=>?_) (fun h=>?_)
 ·rw [show (!okWord w)=true from by simp [okWord]; omega] at hK; exact hK
 ·rw [show (!okWord w)=lti 65535 w from by simp [okWord,lti,h]; by_cases h2:w≤65535<;>simp [h2]<;>omega] at hK; exact hK
theorem sound_q14:SoundC Tryz.prog tab n_q14 c_q14:=soundC_f ok_q14 hg_q14 (by
 intro vs bs p v bs' h hp
 unfold c_q14 at h
 split at h
 ·cases h
  exact ⟨by kernel_rfl,rfl,.inl (run_q14 _ _ ⟨rfl,rfl⟩)⟩
 ·cases h)

def c_q16:Contract:=fun vs bs=>match vs,bs with
 | [.one (.dat (.list .int) l),.one (.fn f [])],[]=>(match Nat.beq f n_q14 with | true=>some (some (Sm l),.one (dI (firstBad l)),[]) | false=>none)
 | _,_=>none
def Γ_q16:Ctx:=[(n_q14,c_q14)]
theorem ok_q16:Ok Tryz.prog tab Γ_q16:=(ok_nil.c hg_q14 sound_q14)
noncomputable def q16_0_L0:List It:=[.inLoop [8,7,4,0,1] (cSub fn_q16 [1,0,1,0,0]),.inBlock 0,.code (cSub fn_q16 [1,1])]
def q16_0_S0 (x0 x1 x2:Int) (x3:List Int):St:=⟨[(8,.one (dI x0)),(7,.one (dI x1)),(4,.one (dI x2)),(0,.one (dL x3)),(1,.one (.fn n_q14 []))],[],0⟩
theorem q16_0_vc (l:List Int) (rec:RK) (K:KK):segD Γ_q16 tab fn_q16 0 K rec [.code (bodyOf fn_q16)] (initSt [.one (dL l),.one (.fn n_q14 [])] [])=(
 rec q16_0_L0 (q16_0_S0 0 (len l:Int) 0 l)):=by kernel_rfl
theorem q16_0_vc0 (x0 x1 x2:Int) (x3:List Int) (rec:RK) (K:KK) v0 (hv0:v0=okWord (nth x3 (Int.toNat x0) (Ty.dflt Ty.int))):segD Γ_q16 tab fn_q16 0 K rec (ent q16_0_L0) (q16_0_S0 x0 x1 x2 x3)=(
 br (lti x0 x1)
 (((0:Int)≤x0∧x0<(len x3:Int)) ∧
 br (!v0)
 (K (.one (dI x0)) [])
 (rec q16_0_L0 (q16_0_S0 (w64 (x0+1)) x1 x2 x3)))
 (K (.one (dI (-1))) [])):=by subst_vars; kernel_rfl

theorem loop_q16_0 (l:List Int) (hs:Sm l) (K:KK):∀ (d k:Nat),k+d=l.length→K (.one (dI (firstBadFrom k (l.drop k)))) [] →
  goD Γ_q16 tab fn_q16 0 K (d+1) q16_0_L0 (q16_0_S0 (k:Int) (((len l):Nat):Int) 0 l)
 | 0,k,hk,hK=>by
  rw [goD_in (L:=q16_0_L0),q16_0_vc0 _ _ _ _ _ _ _ rfl]
  refine lt_f (by simp only [len]; omega) ?_
  rw [List.drop_of_length_le (by omega)] at hK
  exact hK
 | d+1,k,hk,hK=>by
  have hs':=hs
  unfold Sm at hs'
  rw [goD_in (L:=q16_0_L0),q16_0_vc0 _ _ _ _ _ _ _ rfl]
  rw [drop_step (by omega) (Ty.dflt Ty.int)] at hK
  simp only [firstBadFrom] at hK
  refine lt_t (by simp only [len]; omega) ⟨⟨by omega,by simp only [len]; omega⟩,nt_s (fun h=>?_) (fun h=>?_)⟩
  ·rw [toNat_nat] at h
   rw [if_neg (by rw [h]; simp)] at hK
   exact hK
  ·rw [toNat_nat] at h
   rw [if_pos h] at hK
   rw [w64_succ (by omega)]
   exact loop_q16_0 l hs K d (k+1) (by omega) hK
theorem run_q16_0 (hp:Sm l) (K:KK) (hK:K (.one (dI (firstBad l))) []):GD Γ_q16 fn_q16 0 K [.one (dL l),.one (.fn n_q14 [])] []:=by
 refine ⟨l.length+2,?_⟩
 rw [goD_code,q16_0_vc _ _ _]
 exact loop_q16_0 l hp K l.length 0 (by omega) hK
theorem sound_q16:SoundC Tryz.prog tab n_q16 c_q16:=soundC_f ok_q16 hg_q16 (by
 intro vs bs p v bs' h hp
 unfold c_q16 at h
 split at h
 ·split at h
  ·rename_i hfn
   have hfn:=Nat.eq_of_beq_eq_true hfn
   subst hfn
   cases h
   exact ⟨by kernel_rfl,rfl,.inl (run_q16_0 _ hp.1 _ ⟨rfl,rfl⟩)⟩
  ·cases h
 ·cases h)

def c_q18:Contract:=fun vs bs=>match vs,bs with
 | [.one (.dat (.list .int) l),.one (.fn f [])],[]=>(match Nat.beq f n_q14 with | true=>some (some (Sm l),.one (dB (!okWords l)),[]) | false=>none)
 | _,_=>none
def Γ_q18:Ctx:=[(n_q16,c_q16),(n_q14,c_q14)]
theorem ok_q18:Ok Tryz.prog tab Γ_q18:=((ok_nil.c hg_q14 sound_q14).c hg_q16 sound_q16)
theorem q18_0_vc (l:List Int) (rec:RK) (K:KK) v0 (hv0:v0=firstBad l):segD Γ_q18 tab fn_q18 0 K rec [.code (bodyOf fn_q18)] (initSt [.one (dL l),.one (.fn n_q14 [])] [])=(
 List.length l≤140737488355328 ∧
 K (.one (dB (lei 0 v0))) []):=by subst_vars; kernel_rfl

theorem firstBad_slices_ContainsFunc_Record:∀ (l:List Int) (k:Int),0≤k→lei 0 (firstBadFrom k l)=!okWords l
 | [],k,hk=>by simp [firstBadFrom,okWords,lei]
 | w::l,k,hk=>by
  simp only [firstBadFrom,okWords,List.all_cons]
  cases h:okWord w with
  | true=>simpa [okWords] using firstBad_slices_ContainsFunc_Record l (k+1) (by omega)
  | false=>simp [lei,hk]
theorem run_q18_0 (hp:Sm l) (K:KK) (hK:K (.one (dB (!okWords l))) []):GD Γ_q18 fn_q18 0 K [.one (dL l),.one (.fn n_q14 [])] []:=by
 refine ⟨1,?_⟩
 rw [goD_code,q18_0_vc _ _ _ _ rfl]
 refine ⟨hp,?_⟩
 rw [show lei 0 (firstBad l)=!okWords l from firstBad_slices_ContainsFunc_Record l 0 (by omega)]
 exact hK
theorem sound_q18:SoundC Tryz.prog tab n_q18 c_q18:=soundC_f ok_q18 hg_q18 (by
 intro vs bs p v bs' h hp
 unfold c_q18 at h
 split at h
 ·split at h
  ·rename_i hfn
   have hfn:=Nat.eq_of_beq_eq_true hfn
   subst hfn
   cases h
   exact ⟨by kernel_rfl,rfl,.inl (run_q18_0 _ hp.1 _ ⟨rfl,rfl⟩)⟩
  ·cases h
 ·cases h)

def c_q58:Contract:=fun vs bs=>match vs,bs with
 | [.one (.dat (.list .int) l)],[]=>some (some (Sm l),.one (dI (checkRec l)),[])
 | _,_=>none
def Γ_q58:Ctx:=[(n_q18,c_q18),(n_q14,c_q14)]
theorem ok_q58:Ok Tryz.prog tab Γ_q58:=((ok_nil.c hg_q14 sound_q14).c hg_q18 sound_q18)
theorem q58_vc (l:List Int) (rec:RK) (K:KK) v0 (hv0:v0=okWords l):segD Γ_q58 tab fn_q58 0 K rec [.code (bodyOf fn_q58)] (initSt [.one (dL l)] [])=(
 br (eqi (len l:Int) 0)
 (K (.one (dI 2)) [])
 (br (lti 4 (len l:Int))
 (K (.one (dI 2)) [])
 (List.length l≤140737488355328 ∧
 br (!v0)
 (K (.one (dI 3)) [])
 (K (.one (dI 0)) [])))):=by subst_vars; kernel_rfl

theorem run_q58 (hp:Sm l) (K:KK) (hK:K (.one (dI (checkRec l))) []):GD Γ_q58 fn_q58 0 K [.one (dL l)] []:=by
 refine ⟨1,?_⟩
 rw [goD_code,q58_vc _ _ _ _ rfl]
 unfold checkRec at hK
 refine eq_s (fun h=>?_) (fun h=>lt_s (fun h2=>?_) (fun h2=>⟨hp,nt_s (fun h3=>?_) (fun h3=>?_)⟩))
 ·rw [if_neg (by simp only [len] at h; omega)] at hK; exact hK
 ·rw [if_neg (by simp only [len] at h2; omega)] at hK; exact hK
 ·rw [if_pos (by simp only [len] at h h2; omega),if_neg (by rw [h3]; simp)] at hK; exact hK
 ·rw [if_pos (by simp only [len] at h h2; omega),if_pos h3] at hK; exact hK
theorem sound_q58:SoundC Tryz.prog tab n_q58 c_q58:=soundC_f ok_q58 hg_q58 (by
 intro vs bs p v bs' h hp
 unfold c_q58 at h
 split at h
 ·cases h
  exact ⟨by kernel_rfl,rfl,.inl (run_q58 _ hp.1 _ ⟨rfl,rfl⟩)⟩
 ·cases h)

def c_q4:Contract:=fun vs bs=>match vs,bs with
 | [.one (.dat (.list (.list .int)) l)],[]=>some (some (len l*24≤140737488355328),.one (.own 0),[.arr (.list .int) l])
 | _,_=>none
def Γ_q4:Ctx:=[]
theorem ok_q4:Ok Tryz.prog tab Γ_q4:=ok_nil
theorem q4_vc (l:List (List Int)) (rec:RK) (K:KK):segO Γ_q4 tab fn_q4 0 K rec [.code (bodyOf fn_q4)] (initSt [.one (dR l)] [])=(
 (∀ bn:Bool,(bn=true→len l=0)→br bn
 (K (.one (.own 0)) [.arr (Ty.list Ty.int) []])
 ((0+len l)*24≤140737488355328 ∧
 K (.one (.own 0)) [.arr (Ty.list Ty.int) (cat [] l)]))):=by kernel_rfl

theorem run_q4 (l:List (List Int)) (hp:len l*24≤140737488355328) (K:KK) (hK:K (.one (.own 0)) [.arr (.list .int) l]):GO Γ_q4 fn_q4 0 K [.one (dR l)] []:=by
 refine ⟨1,?_⟩
 rw [goO_code,q4_vc _ _ _]
 intro bn hb
 refine br_split (fun h=>?_) (fun h=>⟨by simp only [len] at hp ⊢; omega,hK⟩)
 have:l=[]:=List.length_eq_zero_iff.1 (hb h)
 subst this
 exact hK
theorem sound_q4:SoundC Tryz.prog tab n_q4 c_q4:=soundC_f ok_q4 hg_q4 (by
 intro vs bs p v bs' h hp
 unfold c_q4 at h
 split at h
 ·cases h
  exact ⟨by kernel_rfl,rfl,.inr (.inl (run_q4 _ hp.1 _ ⟨rfl,rfl⟩))⟩
 ·cases h)

def c_q57:Contract:=fun vs bs=>match vs,bs with
 | [.one (.dat .int n)],[]=>some (some (0≤n∧n≤255),.one (dI (42240+n)),[])
 | _,_=>none
def Γ_q57:Ctx:=[]
theorem ok_q57:Ok Tryz.prog tab Γ_q57:=ok_nil
theorem q57_vc (n:Int) (rec:RK) (K:KK):segD Γ_q57 tab fn_q57 0 K rec [.code (bodyOf fn_q57)] (initSt [.one (dI n)] [])=(
 K (.one (dI (ori 42240 n))) []):=by kernel_rfl

theorem run_q57 (hp:0≤n∧n≤255) (K:KK) (hK:K (.one (dI (42240+n))) []):GD Γ_q57 fn_q57 0 K [.one (dI n)] []:=by
 refine ⟨1,?_⟩
 rw [goD_code,q57_vc _ _ _,ori_head hp.1 hp.2]
 exact hK
theorem sound_q57:SoundC Tryz.prog tab n_q57 c_q57:=soundC_f ok_q57 hg_q57 (by
 intro vs bs p v bs' h hp
 unfold c_q57 at h
 split at h
 ·cases h
  exact ⟨by kernel_rfl,rfl,.inl (run_q57 _ hp.1 _ ⟨rfl,rfl⟩)⟩
 ·cases h)

def c_q59:Contract:=fun vs bs=>match vs,bs with
 | [.one (.dat (.list .int) l)],[]=>some (some (len l≤255),.one (dL (recW l)),[])
 | _,_=>none
def Γ_q59:Ctx:=[(n_q57,c_q57)]
theorem ok_q59:Ok Tryz.prog tab Γ_q59:=(ok_nil.c hg_q57 sound_q57)
theorem q59_vc (l:List Int) (rec:RK) (K:KK):segD Γ_q59 tab fn_q59 0 K rec [.code (bodyOf fn_q59)] (initSt [.one (dL l)] [])=(
 ((0:Int)≤(len l:Int)∧(len l:Int)≤(255:Int)) ∧
 (len (((42240:Int)+(len l:Int))::[])+len l)*8≤140737488355328 ∧
 K (.one (dL (cat (((42240:Int)+(len l:Int))::[]) l))) []):=by kernel_rfl

theorem run_q59 (hp:len l≤255) (K:KK) (hK:K (.one (dL (recW l))) []):GD Γ_q59 fn_q59 0 K [.one (dL l)] []:=by
 refine ⟨1,?_⟩
 rw [goD_code,q59_vc _ _ _]
 exact ⟨⟨by omega,by omega⟩,by simp only [len,List.length_cons,List.length_nil] at hp ⊢; omega,hK⟩
theorem sound_q59:SoundC Tryz.prog tab n_q59 c_q59:=soundC_f ok_q59 hg_q59 (by
 intro vs bs p v bs' h hp
 unfold c_q59 at h
 split at h
 ·cases h
  exact ⟨by kernel_rfl,rfl,.inl (run_q59 _ hp.1 _ ⟨rfl,rfl⟩)⟩
 ·cases h)

def c_q7:Contract:=fun vs bs=>match vs,bs with
 | [.agg [.dat (.list .int) ws,.dat .int fu]],[]=>some (some (len ws*8≤140737488355328),.agg [.own 0,dI fu],[.arr .int ws])
 | _,_=>none
def Γ_q7:Ctx:=[(n_q2,c_q2)]
theorem ok_q7:Ok Tryz.prog tab Γ_q7:=(ok_nil.c hg_q2 sound_q2)
theorem q7_vc (ws:List Int) (fu:Int) (rec:RK) (K:KK):segO Γ_q7 tab fn_q7 0 K rec [.code (bodyOf fn_q7)] (initSt [.agg [dL ws,dI fu]] [])=(
 len ws*8≤140737488355328 ∧
 K (.agg [.own 0,dI fu]) [.arr Ty.int ws]):=by kernel_rfl

theorem run_q7 (hp:len ws*8≤140737488355328) (K:KK) (hK:K (.agg [.own 0,dI fu]) [.arr .int ws]):GO Γ_q7 fn_q7 0 K [.agg [dL ws,dI fu]] []:=by
 refine ⟨1,?_⟩
 rw [goO_code,q7_vc _ _ _ _]
 exact ⟨hp,hK⟩
theorem sound_q7:SoundC Tryz.prog tab n_q7 c_q7:=soundC_f ok_q7 hg_q7 (by
 intro vs bs p v bs' h hp
 unfold c_q7 at h
 split at h
 ·cases h
  exact ⟨by kernel_rfl,rfl,.inr (.inl (run_q7 _ _ hp.1 _ ⟨rfl,rfl⟩))⟩
 ·cases h)

def c_q5:Contract:=fun vs bs=>match vs,bs with
 | [.one (.ptr 0 0)],[.box [.own 1,.dat .int fu],.arr .int ws]=>some (some (fu≤100000),.one (dB (!eqi fu 0)),[.box [.own 1,dI (burnFuel fu)],.arr .int ws])
 | _,_=>none
def Γ_q5:Ctx:=[]
theorem ok_q5:Ok Tryz.prog tab Γ_q5:=ok_nil
theorem q5_vc (ws:List Int) (fu:Int) (rec:RK) (K:KK):segD Γ_q5 tab fn_q5 2 K rec [.code (bodyOf fn_q5)] (initSt [.one (.ptr 0 0)] [.box [.own 1,dI fu],.arr Ty.int ws])=(
 br (eqi fu 0)
 (K (.one (dB false)) [.box [.own 1,dI fu],.arr Ty.int ws])
 (br (lti 0 fu)
 (K (.one (dB true)) [.box [.own 1,dI (w64 (fu-1))],.arr Ty.int ws])
 (K (.one (dB true)) [.box [.own 1,dI fu],.arr Ty.int ws]))):=by kernel_rfl

theorem run_q5 (hp:fu≤100000) (K:KK) (hK:K (.one (dB (!eqi fu 0))) [.box [.own 1,dI (burnFuel fu)],.arr .int ws]):GD Γ_q5 fn_q5 2 K [.one (.ptr 0 0)] [.box [.own 1,dI fu],.arr .int ws]:=by
 refine ⟨1,?_⟩
 rw [goD_code,q5_vc _ _ _ _]
 refine eq_s (fun h=>?_) (fun h=>lt_s (fun h2=>?_) (fun h2=>?_))
 ·rw [show (!eqi fu 0)=false from by simp [eqi,h],show burnFuel fu=fu from by simp [burnFuel,h]] at hK; exact hK
 ·rw [show (!eqi fu 0)=true from by simp [eqi,h],show burnFuel fu=fu-1 from by simp [burnFuel,h2]] at hK
  rw [w64_id (by omega) (by omega)]; exact hK
 ·rw [show (!eqi fu 0)=true from by simp [eqi,h],show burnFuel fu=fu from by simp only [burnFuel]; rw [if_neg (by omega)]] at hK; exact hK
theorem sound_q5:SoundC Tryz.prog tab n_q5 c_q5:=soundC_f ok_q5 hg_q5 (by
 intro vs bs p v bs' h hp
 unfold c_q5 at h
 split at h
 ·cases h
  exact ⟨by kernel_rfl,rfl,.inl (run_q5 _ _ hp.1 _ ⟨rfl,rfl⟩)⟩
 ·cases h)

abbrev n_q9:Nat:=n_q10
noncomputable abbrev fn_q9:Func:=fn_q10
theorem hg_q9:FnOk Tryz.prog n_q9 fn_q9:=hg_q10
def c_q9:Contract:=fun vs bs=>match vs,bs with
 | [.one (.ptr 0 0),.one (.dat .int at_),.one (.own 1)],[.box [.own 2,.dat .int fu],.arr .int l,.arr .int ws]=>some (some (-1≤fu∧fu≤100000∧0≤at_∧at_+(len l:Nat)≤(len ws:Nat)∧len ws≤192),.one (dB (doCh ⟨ws,fu⟩ (burnCh at_ l)).2),[.box [.own 2,dI (doCh ⟨ws,fu⟩ (burnCh at_ l)).1.fuel],.arr .int l,.arr .int (doCh ⟨ws,fu⟩ (burnCh at_ l)).1.words])
 | _,_=>none
def Γ_q9:Ctx:=[(n_q5,c_q5)]
theorem ok_q9:Ok Tryz.prog tab Γ_q9:=(ok_nil.c hg_q5 sound_q5)
noncomputable def q9_L0:List It:=[.inLoop [11,10,9,6,0,1] (cSub fn_q9 [1,0,1,0,0]),.inBlock 0,.code (cSub fn_q9 [1,1])]
def q9_S0 (x0 x1:Int) (x2:Bool) (x3 x4:Int) (x5 x6:List Int):St:=⟨[(11,.one (dI x0)),(10,.one (dI x1)),(9,.one (.own 1)),(6,.one (dB x2)),(0,.one (.ptr 0 0)),(1,.one (dI x3))],[(0,.box [.own 2,dI x4]),(1,.arr Ty.int x5),(2,.arr Ty.int x6)],3⟩
theorem q9_vc (ws:List Int) (fu at_:Int) (l:List Int) (rec:RK) (K:KK):segD Γ_q9 tab fn_q9 3 K rec [.code (bodyOf fn_q9)] (initSt [.one (.ptr 0 0),.one (dI at_),.one (.own 1)] [.box [.own 2,dI fu],.arr Ty.int l,.arr Ty.int ws])=(
 rec q9_L0 (q9_S0 0 (len l:Int) false at_ fu l ws)):=by kernel_rfl
theorem q9_vc0 (x0 x1:Int) (x2:Bool) (x3 x4:Int) (x5 x6:List Int) (rec:RK) (K:KK) v0 (hv0:v0=burnFuel x4):segD Γ_q9 tab fn_q9 3 K rec (ent q9_L0) (q9_S0 x0 x1 x2 x3 x4 x5 x6)=(
 br (lti x0 x1)
 (((0:Int)≤x0∧x0<(len x5:Int)) ∧
 Int.toNat x0<len x5 ∧
 x4≤100000 ∧
 br (!(!(eqi x4 0)))
 (K (.one (dB false)) [.box [.own 2,dI v0],.arr Ty.int x5,.arr Ty.int x6])
 (((0:Int)≤w64 (x3+x0)∧w64 (x3+x0)<(len x6:Int)) ∧
 Int.toNat (w64 (x3+x0))<len x6 ∧
 ((0:Int)≤w64 (x3+x0)∧w64 (x3+x0)<(len x6:Int)) ∧
 Int.toNat (w64 (x3+x0))<len x6 ∧
 rec q9_L0 (q9_S0 (w64 (x0+1)) x1 x2 x3 v0 x5 (setAt x6 (Int.toNat (w64 (x3+x0))) (andi (nth x6 (Int.toNat (w64 (x3+x0))) (Ty.dflt Ty.int)) (nth x5 (Int.toNat x0) (Ty.dflt Ty.int)))))))
 (K (.one (dB true)) [.box [.own 2,dI x4],.arr Ty.int x5,.arr Ty.int x6])):=by subst_vars; kernel_rfl

theorem loop_q9 (at_:Int) (hs:0≤at_) (l:List Int) (K:KK):∀ (n:Nat) (k:Nat) (ws:List Int) (fu:Int),k+n=l.length→-1≤fu→fu≤100000→at_+(l.length:Nat)≤(ws.length:Nat)→ws.length≤192 →
  K (.one (dB (doCh ⟨ws,fu⟩ (burnCh (at_+k) (l.drop k))).2)) [.box [.own 2,dI (doCh ⟨ws,fu⟩ (burnCh (at_+k) (l.drop k))).1.fuel],.arr .int l,.arr .int (doCh ⟨ws,fu⟩ (burnCh (at_+k) (l.drop k))).1.words] →
  goD Γ_q9 tab fn_q9 3 K (n+1) q9_L0 (q9_S0 (k:Int) (((len l):Nat):Int) false at_ fu l ws)
 | 0,k,ws,fu,hk,h1,h2,h3,h4,hK=>by
  rw [goD_in (L:=q9_L0),q9_vc0 _ _ _ _ _ _ _ _ _ _ rfl]
  refine lt_f (by simp only [len]; omega) ?_
  rw [List.drop_of_length_le (by omega)] at hK
  simp only [burnCh,doCh_nil] at hK
  exact hK
 | n+1,k,ws,fu,hk,h1,h2,h3,h4,hK=>by
  rw [goD_in (L:=q9_L0),q9_vc0 _ _ _ _ _ _ _ _ _ _ rfl]
  rw [w64_id (n:=at_+k) (by omega) (by omega)]
  rw [drop_step (by omega) (Ty.dflt Ty.int)] at hK
  simp only [burnCh,doCh_cons] at hK
  refine lt_t (by simp only [len]; omega) ⟨⟨by omega,by simp only [len]; omega⟩,by simp only [len]; omega,h2,?_⟩
  by_cases h0:fu=0
  ·subst h0
   refine br_t (by simp [eqi]) ?_
   simp only [if_true] at hK
   exact hK
  ·rw [if_neg h0] at hK
   refine br_f (by simp [eqi,h0]) ⟨⟨by omega,by simp only [len]; omega⟩,by simp only [len]; omega,⟨by omega,by simp only [len]; omega⟩,by simp only [len]; omega,?_⟩
   rw [w64_succ (by omega)]
   refine loop_q9 at_ hs l K n (k+1) _ _ (by omega) ?_ ?_ (by simpa [setAt] using h3) (by simpa [setAt] using h4) ?_
   ·unfold burnFuel; split<;>omega
   ·unfold burnFuel; split<;>omega
   ·rw [show at_+((k+1:Nat):Int)=at_+k+1 by omega]
    exact hK
theorem run_q9 (hp:-1≤fu∧fu≤100000∧0≤at_∧at_+(len l:Nat)≤(len ws:Nat)∧len ws≤192) (K:KK) (hK:K (.one (dB (doCh ⟨ws,fu⟩ (burnCh at_ l)).2)) [.box [.own 2,dI (doCh ⟨ws,fu⟩ (burnCh at_ l)).1.fuel],.arr .int l,.arr .int (doCh ⟨ws,fu⟩ (burnCh at_ l)).1.words]):GD Γ_q9 fn_q9 3 K [.one (.ptr 0 0),.one (dI at_),.one (.own 1)] [.box [.own 2,dI fu],.arr .int l,.arr .int ws]:=by
 obtain ⟨h1,h2,h3,h4,h5⟩:=hp
 refine ⟨l.length+2,?_⟩
 rw [goD_code,q9_vc _ _ _ _ _ _]
 exact loop_q9 at_ h3 l K l.length 0 ws fu (by omega) h1 h2 h4 h5 (by simpa using hK)
theorem sound_q9:SoundC Tryz.prog tab n_q9 c_q9:=soundC_f ok_q9 hg_q9 (by
 intro vs bs p v bs' h hp
 unfold c_q9 at h
 split at h
 ·cases h
  exact ⟨by kernel_rfl,rfl,.inl (run_q9 _ _ _ _ hp.1 _ ⟨rfl,rfl⟩)⟩
 ·cases h)

def c_q10:Contract:=fun vs bs=>match vs,bs with
 | [.one (.ptr 0 0),.one (.dat .int at_),.one (.dat (.list .int) l)],[.box [.own 1,.dat .int fu],.arr .int ws]=>some (some (-1≤fu∧fu≤100000∧0≤at_∧at_+(len l:Nat)≤(len ws:Nat)∧len ws≤192),.one (dB (doCh ⟨ws,fu⟩ (burnCh at_ l)).2),[.box [.own 1,dI (doCh ⟨ws,fu⟩ (burnCh at_ l)).1.fuel],.arr .int (doCh ⟨ws,fu⟩ (burnCh at_ l)).1.words])
 | _,_=>none
def Γ_q10:Ctx:=[(n_q5,c_q5)]
theorem ok_q10:Ok Tryz.prog tab Γ_q10:=(ok_nil.c hg_q5 sound_q5)
noncomputable def q10_L0:List It:=[.inLoop [11,10,9,6,0,1] (cSub fn_q10 [1,0,1,0,0]),.inBlock 0,.code (cSub fn_q10 [1,1])]
def q10_S0 (x0 x1:Int) (x2:List Int) (x3:Bool) (x4 x5:Int) (x6:List Int):St:=⟨[(11,.one (dI x0)),(10,.one (dI x1)),(9,.one (dL x2)),(6,.one (dB x3)),(0,.one (.ptr 0 0)),(1,.one (dI x4))],[(0,.box [.own 1,dI x5]),(1,.arr Ty.int x6)],2⟩
theorem q10_vc (ws:List Int) (fu at_:Int) (l:List Int) (rec:RK) (K:KK):segD Γ_q10 tab fn_q10 2 K rec [.code (bodyOf fn_q10)] (initSt [.one (.ptr 0 0),.one (dI at_),.one (dL l)] [.box [.own 1,dI fu],.arr Ty.int ws])=(
 rec q10_L0 (q10_S0 0 (len l:Int) l false at_ fu ws)):=by kernel_rfl
theorem q10_vc0 (x0 x1:Int) (x2:List Int) (x3:Bool) (x4 x5:Int) (x6:List Int) (rec:RK) (K:KK) v0 (hv0:v0=burnFuel x5):segD Γ_q10 tab fn_q10 2 K rec (ent q10_L0) (q10_S0 x0 x1 x2 x3 x4 x5 x6)=(
 br (lti x0 x1)
 (((0:Int)≤x0∧x0<(len x2:Int)) ∧
 x5≤100000 ∧
 br (!(!(eqi x5 0)))
 (K (.one (dB false)) [.box [.own 1,dI v0],.arr Ty.int x6])
 (((0:Int)≤w64 (x4+x0)∧w64 (x4+x0)<(len x6:Int)) ∧
 Int.toNat (w64 (x4+x0))<len x6 ∧
 ((0:Int)≤w64 (x4+x0)∧w64 (x4+x0)<(len x6:Int)) ∧
 Int.toNat (w64 (x4+x0))<len x6 ∧
 rec q10_L0 (q10_S0 (w64 (x0+1)) x1 x2 x3 x4 v0 (setAt x6 (Int.toNat (w64 (x4+x0))) (andi (nth x6 (Int.toNat (w64 (x4+x0))) (Ty.dflt Ty.int)) (nth x2 (Int.toNat x0) (Ty.dflt Ty.int)))))))
 (K (.one (dB true)) [.box [.own 1,dI x5],.arr Ty.int x6])):=by subst_vars; kernel_rfl

theorem loop_q10 (at_:Int) (hs:0≤at_) (l:List Int) (K:KK):∀ (n:Nat) (k:Nat) (ws:List Int) (fu:Int),k+n=l.length→-1≤fu→fu≤100000→at_+(l.length:Nat)≤(ws.length:Nat)→ws.length≤192 →
  K (.one (dB (doCh ⟨ws,fu⟩ (burnCh (at_+k) (l.drop k))).2)) [.box [.own 1,dI (doCh ⟨ws,fu⟩ (burnCh (at_+k) (l.drop k))).1.fuel],.arr .int (doCh ⟨ws,fu⟩ (burnCh (at_+k) (l.drop k))).1.words] →
  goD Γ_q10 tab fn_q10 2 K (n+1) q10_L0 (q10_S0 (k:Int) (((len l):Nat):Int) l false at_ fu ws)
 | 0,k,ws,fu,hk,h1,h2,h3,h4,hK=>by
  rw [goD_in (L:=q10_L0),q10_vc0 _ _ _ _ _ _ _ _ _ _ rfl]
  refine lt_f (by simp only [len]; omega) ?_
  rw [List.drop_of_length_le (by omega)] at hK
  simp only [burnCh,doCh_nil] at hK
  exact hK
 | n+1,k,ws,fu,hk,h1,h2,h3,h4,hK=>by
  rw [goD_in (L:=q10_L0),q10_vc0 _ _ _ _ _ _ _ _ _ _ rfl]
  rw [w64_id (n:=at_+k) (by omega) (by omega)]
  rw [drop_step (by omega) (Ty.dflt Ty.int)] at hK
  simp only [burnCh,doCh_cons] at hK
  refine lt_t (by simp only [len]; omega) ⟨⟨by omega,by simp only [len]; omega⟩,h2,?_⟩
  by_cases h0:fu=0
  ·subst h0
   refine br_t (by simp [eqi]) ?_
   simp only [if_true] at hK
   exact hK
  ·rw [if_neg h0] at hK
   refine br_f (by simp [eqi,h0]) ⟨⟨by omega,by simp only [len]; omega⟩,by simp only [len]; omega,⟨by omega,by simp only [len]; omega⟩,by simp only [len]; omega,?_⟩
   rw [w64_succ (by omega)]
   refine loop_q10 at_ hs l K n (k+1) _ _ (by omega) ?_ ?_ (by simpa [setAt] using h3) (by simpa [setAt] using h4) ?_
   ·unfold burnFuel; split<;>omega
   ·unfold burnFuel; split<;>omega
   ·rw [show at_+((k+1:Nat):Int)=at_+k+1 by omega]
    exact hK
theorem run_q10 (hp:-1≤fu∧fu≤100000∧0≤at_∧at_+(len l:Nat)≤(len ws:Nat)∧len ws≤192) (K:KK) (hK:K (.one (dB (doCh ⟨ws,fu⟩ (burnCh at_ l)).2)) [.box [.own 1,dI (doCh ⟨ws,fu⟩ (burnCh at_ l)).1.fuel],.arr .int (doCh ⟨ws,fu⟩ (burnCh at_ l)).1.words]):GD Γ_q10 fn_q10 2 K [.one (.ptr 0 0),.one (dI at_),.one (dL l)] [.box [.own 1,dI fu],.arr .int ws]:=by
 obtain ⟨h1,h2,h3,h4,h5⟩:=hp
 refine ⟨l.length+2,?_⟩
 rw [goD_code,q10_vc _ _ _ _ _ _]
 exact loop_q10 at_ h3 l K l.length 0 ws fu (by omega) h1 h2 h4 h5 (by simpa using hK)
theorem sound_q10:SoundC Tryz.prog tab n_q10 c_q10:=soundC_f ok_q10 hg_q10 (by
 intro vs bs p v bs' h hp
 unfold c_q10 at h
 split at h
 ·cases h
  exact ⟨by kernel_rfl,rfl,.inl (run_q10 _ _ _ _ hp.1 _ ⟨rfl,rfl⟩)⟩
 ·cases h)

def c_q8:Contract:=fun vs bs=>match vs,bs with
 | [.one (.ptr 0 0),.one (.dat .int sector)],[.box [.own 1,.dat .int fu],.arr .int ws]=>some (some (-1≤fu∧fu≤100000∧0≤sector∧(sector+1)*32≤(len ws:Nat)∧len ws≤192),.one (dB (doCh ⟨ws,fu⟩ (wipeCh sector)).2),[.box [.own 1,dI (doCh ⟨ws,fu⟩ (wipeCh sector)).1.fuel],.arr .int (doCh ⟨ws,fu⟩ (wipeCh sector)).1.words])
 | _,_=>none
def Γ_q8:Ctx:=[(n_q5,c_q5)]
theorem ok_q8:Ok Tryz.prog tab Γ_q8:=(ok_nil.c hg_q5 sound_q5)
noncomputable def q8_L0:List It:=[.inLoop [6,4,0,1] (cSub fn_q8 [1,0,1,0,0]),.inBlock 0,.code (cSub fn_q8 [1,1])]
def q8_S0 (x0:Int) (x1:Bool) (x2 x3:Int) (x4:List Int):St:=⟨[(6,.one (dI x0)),(4,.one (dB x1)),(0,.one (.ptr 0 0)),(1,.one (dI x2))],[(0,.box [.own 1,dI x3]),(1,.arr Ty.int x4)],2⟩
theorem q8_vc (ws:List Int) (fu sector:Int) (rec:RK) (K:KK):segD Γ_q8 tab fn_q8 2 K rec [.code (bodyOf fn_q8)] (initSt [.one (.ptr 0 0),.one (dI sector)] [.box [.own 1,dI fu],.arr Ty.int ws])=(
 rec q8_L0 (q8_S0 0 false sector fu ws)):=by kernel_rfl
theorem q8_vc0 (x0:Int) (x1:Bool) (x2 x3:Int) (x4:List Int) (rec:RK) (K:KK) v0 (hv0:v0=burnFuel x3):segD Γ_q8 tab fn_q8 2 K rec (ent q8_L0) (q8_S0 x0 x1 x2 x3 x4)=(
 br (lti x0 32)
 (x3≤100000 ∧
 br (!(!(eqi x3 0)))
 (K (.one (dB false)) [.box [.own 1,dI v0],.arr Ty.int x4])
 (((0:Int)≤w64 (w64 (x2*32)+x0)∧w64 (w64 (x2*32)+x0)<(len x4:Int)) ∧
 Int.toNat (w64 (w64 (x2*32)+x0))<len x4 ∧
 rec q8_L0 (q8_S0 (w64 (x0+1)) x1 x2 v0 (setAt x4 (Int.toNat (w64 (w64 (x2*32)+x0))) (65535:Int)))))
 (K (.one (dB true)) [.box [.own 1,dI x3],.arr Ty.int x4])):=by subst_vars; kernel_rfl

theorem loop_q8 (sector:Int) (hs:0≤sector) (K:KK):∀ (n:Nat) (ws:List Int) (fu:Int),n≤32→-1≤fu→fu≤100000→(sector+1)*32≤(ws.length:Nat)→ws.length≤192 →
  K (.one (dB (doCh ⟨ws,fu⟩ (wipeFrom (32*sector+(32-n)) n)).2)) [.box [.own 1,dI (doCh ⟨ws,fu⟩ (wipeFrom (32*sector+(32-n)) n)).1.fuel],.arr .int (doCh ⟨ws,fu⟩ (wipeFrom (32*sector+(32-n)) n)).1.words] →
  goD Γ_q8 tab fn_q8 2 K (n+1) q8_L0 (q8_S0 (32-n) false sector fu ws)
 | 0,ws,fu,hn,h1,h2,h3,h4,hK=>by
  rw [goD_in (L:=q8_L0),q8_vc0 _ _ _ _ _ _ _ _ rfl]
  refine lt_f (by omega) ?_
  simp only [wipeFrom,doCh_nil] at hK
  exact hK
 | n+1,ws,fu,hn,h1,h2,h3,h4,hK=>by
  rw [goD_in (L:=q8_L0),q8_vc0 _ _ _ _ _ _ _ _ rfl]
  have e1:w64 ((w64 (sector*32))+(32-((n+1:Nat):Int)))=32*sector+(32-((n+1:Nat):Int)):=by
   rw [w64_id (n:=sector*32) (by omega) (by omega),w64_id (by omega) (by omega)]; omega
  rw [e1]
  simp only [wipeFrom,doCh_cons] at hK
  refine lt_t (by omega) ⟨h2,?_⟩
  by_cases h0:fu=0
  ·subst h0
   refine br_t (by simp [eqi]) ?_
   simp only [if_true] at hK
   exact hK
  ·rw [if_neg h0] at hK
   refine br_f (by simp [eqi,h0]) ⟨⟨by omega,by simp only [len]; omega⟩,by simp only [len]; omega,?_⟩
   rw [w64_id (by omega) (by omega),show (32-((n+1:Nat):Int))+1=32-(n:Int) by omega]
   refine loop_q8 sector hs K n _ _ (by omega) ?_ ?_ (by simp [setAt]; omega) (by simpa [setAt] using h4) ?_
   ·unfold burnFuel; split<;>omega
   ·unfold burnFuel; split<;>omega
   ·rw [show (32*sector+(32-((n+1:Nat):Int)))+1=32*sector+(32-(n:Int)) by omega] at hK
    exact hK
theorem run_q8 (hp:-1≤fu∧fu≤100000∧0≤sector∧(sector+1)*32≤(len ws:Nat)∧len ws≤192) (K:KK) (hK:K (.one (dB (doCh ⟨ws,fu⟩ (wipeCh sector)).2)) [.box [.own 1,dI (doCh ⟨ws,fu⟩ (wipeCh sector)).1.fuel],.arr .int (doCh ⟨ws,fu⟩ (wipeCh sector)).1.words]):GD Γ_q8 fn_q8 2 K [.one (.ptr 0 0),.one (dI sector)] [.box [.own 1,dI fu],.arr .int ws]:=by
 obtain ⟨h1,h2,h3,h4,h5⟩:=hp
 refine ⟨34,?_⟩
 rw [goD_code,q8_vc _ _ _ _ _]
 exact loop_q8 sector h3 K 32 ws fu (by omega) h1 h2 (by simpa [len] using h4) h5 (by simpa [wipeCh] using hK)
theorem sound_q8:SoundC Tryz.prog tab n_q8 c_q8:=soundC_f ok_q8 hg_q8 (by
 intro vs bs p v bs' h hp
 unfold c_q8 at h
 split at h
 ·cases h
  exact ⟨by kernel_rfl,rfl,.inl (run_q8 _ _ _ hp.1 _ ⟨rfl,rfl⟩)⟩
 ·cases h)

def c_q65:Contract:=fun vs bs=>match vs,bs with
 | [.agg [.dat (.list .int) ws,.dat .int fu],.one (.dat (.list .int) r),.one (.dat (.list (.list .int)) keep)],[]=>some (some (Sm r∧len keep*24≤140737488351232∧smR keep=true),.tup [.agg [dL (appendF ⟨ws,fu⟩ r keep).1.words,dI (appendF ⟨ws,fu⟩ r keep).1.fuel],.one (dI (appendF ⟨ws,fu⟩ r keep).2)],[])
 | _,_=>none
def Γ_q65:Ctx:=[(n_q62,c_q62),(n_q58,c_q58),(n_q4,c_q4),(n_q59,c_q59),(n_q60,c_q60),(n_q7,c_q7),(n_q61,(weakC c_q61)),(n_q10,(orC c_q10 c_q9)),(n_q8,c_q8)]
theorem ok_q65:Ok Tryz.prog tab Γ_q65:=(((((((((ok_nil.c hg_q8 sound_q8).c hg_q10 (soundC_or sound_q10 sound_q9)).c hg_q61 (soundC_weak sound_q61)).c hg_q7 sound_q7).c hg_q60 sound_q60).c hg_q59 sound_q59).c hg_q4 sound_q4).c hg_q58 sound_q58).c hg_q62 sound_q62)
noncomputable def q65_L0:List It:=[.inLoop [40,39,38,10,7,6,3,1] (cSub fn_q65 [1,1,1,1,0,1,0,0]),.inBlock 0,.code (cSub fn_q65 [1,1,1,1,1])]
def q65_S0 (x0 x1 x2:Int) (x3:List Int) (x4:List (List Int)) (x5:List Int) (x6:Int) (x7:List Int) (x8:Int) (x9:List Int):St:=⟨[(40,.one (dI x0)),(39,.one (dI x1)),(38,.one (.own 0)),(10,.one (.own 1)),(7,.one (dI x2)),(6,.one (.ptr 2 0)),(3,.one (.ptr 3 0)),(1,.one (dL x3))],[(0,.arr (Ty.list Ty.int) x4),(1,.arr Ty.int x5),(2,.box [.own 4,dI x6]),(3,.box [dL x7,dI x8]),(4,.arr Ty.int x9)],5⟩
theorem q65_vc (ws:List Int) (fu:Int) (r:List Int) (keep:List (List Int)) (rec:RK) (K:KK) v0 (hv0:v0=checkLog (⟨ws,fu⟩:Flash)) v1 (hv1:v1=checkRec r):segD Γ_q65 tab fn_q65 0 K rec [.code (bodyOf fn_q65)] (initSt [.agg [dL ws,dI fu],.one (dL r),.one (dR keep)] [])=(
 br (!(eqi v0 0))
 (K (.tup [.agg [dL [],dI (0:Int)],.one (dI v0)]) [])
 (List.length r≤140737488355328 ∧
 br (!(eqi v1 0))
 (K (.tup [.agg [dL [],dI (0:Int)],.one (dI v1)]) [])
 (len keep*24≤140737488355328 ∧
 (len keep+len (r::[]))*24≤140737488355328 ∧
 rec q65_L0 (q65_S0 0 (len (cat keep (r::[])):Int) 0 r (cat keep (r::[])) [] 0 ws fu [])))):=by subst_vars; kernel_rfl
theorem q65_vc0 (x0 x1 x2:Int) (x3:List Int) (x4:List (List Int)) (x5:List Int) (x6:Int) (x7:List Int) (x8:Int) (x9:List Int) (rec:RK) (K:KK) v0 (hv0:v0=checkRec (nth x4 (Int.toNat x0) (Ty.dflt (Ty.list Ty.int)))) v1 (hv1:v1=recW (nth x4 (Int.toNat x0) (Ty.dflt (Ty.list Ty.int)))) v2 (hv2:v2=okWords x7) v3 (hv3:v3=liveS x7) v4 (hv4:v4=scanS x7 (Int.toNat ((v3:Nat):Int))) v5 (hv5:v5=nextI (Int.toNat ((v3:Nat):Int)) v4.snd) v6 (hv6:v6=recW x3) v7 (hv7:v7=burnCh (w64 (v5+1)) x3) v8 (hv8:v8=doCh (⟨x7,x8⟩:Flash) v7) v9 (hv9:v9=burnCh v5 (nth v6 (Int.toNat 0) (Ty.dflt Ty.int)::[])) v10 (hv10:v10=doCh (⟨v8.fst.words,v8.fst.fuel⟩:Flash) v9) v11 (hv11:v11=liveG x7) v12 (hv12:v12=wipeCh (w64 ((1:Int)-((v3:Nat):Int)))) v13 (hv13:v13=doCh (⟨x7,x8⟩:Flash) v12) v14 (hv14:v14=burnCh (w64 (w64 (w64 ((1:Int)-((v3:Nat):Int))*32)+1)) x5) v15 (hv15:v15=doCh (⟨v13.fst.words,v13.fst.fuel⟩:Flash) v14) v16 (hv16:v16=burnCh (w64 (w64 ((1:Int)-((v3:Nat):Int))*32)) (w64 (v11+1)::[])) v17 (hv17:v17=doCh (⟨v15.fst.words,v15.fst.fuel⟩:Flash) v16) v19 (hv19:v19=K (.tup [.agg [dL [],dI (0:Int)],.one (dI 8)]) []) v18 (hv18:v18=br (eqi v11 60000)
 v19
 (((-1)≤x8∧x8≤100000∧(0:Int)≤w64 ((1:Int)-((v3:Nat):Int))∧(w64 ((1:Int)-((v3:Nat):Int))+1)*32≤(len x7:Int)∧len x7≤192) ∧
 br (!v13.snd)
 (K (.tup [.agg [dL v13.fst.words,dI v13.fst.fuel],.one (dI 7)]) [])
 (((-1)≤v13.fst.fuel∧v13.fst.fuel≤100000∧(0:Int)≤w64 (w64 (w64 ((1:Int)-((v3:Nat):Int))*32)+1)∧w64 (w64 (w64 ((1:Int)-((v3:Nat):Int))*32)+1)+(len x5:Int)≤(len v13.fst.words:Int)∧len v13.fst.words≤192) ∧
 br (!v15.snd)
 (K (.tup [.agg [dL v15.fst.words,dI v15.fst.fuel],.one (dI 7)]) [])
 (((-1)≤v15.fst.fuel∧v15.fst.fuel≤100000∧(0:Int)≤w64 (w64 ((1:Int)-((v3:Nat):Int))*32)∧w64 (w64 ((1:Int)-((v3:Nat):Int))*32)+(((len (w64 (v11+1)::[])):Nat):Int)≤(len v15.fst.words:Int)∧len v15.fst.words≤192) ∧
 br (!v17.snd)
 (K (.tup [.agg [dL v17.fst.words,dI v17.fst.fuel],.one (dI 7)]) [])
 (K (.tup [.agg [dL v17.fst.words,dI v17.fst.fuel],.one (dI 0)]) []))))):segD Γ_q65 tab fn_q65 0 K rec (ent q65_L0) (q65_S0 x0 x1 x2 x3 x4 x5 x6 x7 x8 x9)=(
 br (lti x0 x1)
 (((0:Int)≤x0∧x0<(len x4:Int)) ∧
 Int.toNat x0<len x4 ∧
 List.length (nth x4 (Int.toNat x0) (Ty.dflt (Ty.list Ty.int)))≤140737488355328 ∧
 br (!(eqi v0 0))
 (K (.tup [.agg [dL [],dI (0:Int)],.one (dI v0)]) [])
 (len (nth x4 (Int.toNat x0) (Ty.dflt (Ty.list Ty.int)))≤255 ∧
 (len x5+len v1)*8≤140737488355328 ∧
 br (lti 31 (len (cat x5 v1):Int))
 v19
 (rec q65_L0 (q65_S0 (w64 (x0+1)) x1 x2 x3 x4 (cat x5 v1) x6 x7 x8 x9))))
 ((64≤len x7∧v2=true) ∧
 len x7*8≤140737488355328 ∧
 len x3≤255 ∧
 ((0:Int)≤((v3:Nat):Int)∧((v3:Nat):Int)≤(1:Int)∧64≤len x7∧len x7≤192∧v2=true) ∧
 br (lei 0 v5)
 (br (lei (w64 (v5+(len v6:Int))) (w64 (w64 (((v3:Nat):Int)+(1:Int))*32)))
 (((-1)≤x8∧x8≤100000∧(0:Int)≤w64 (v5+1)∧w64 (v5+1)+(len x3:Int)≤(len x7:Int)∧len x7≤192) ∧
 br (!v8.snd)
 (K (.tup [.agg [dL v8.fst.words,dI v8.fst.fuel],.one (dI 7)]) [])
 (((0:Int)≤(0:Int)∧(0:Int)<(len v6:Int)) ∧
 ((-1)≤v8.fst.fuel∧v8.fst.fuel≤100000∧(0:Int)≤v5∧v5+(((len (nth v6 (Int.toNat 0) (Ty.dflt Ty.int)::[])):Nat):Int)≤(len v8.fst.words:Int)∧len v8.fst.words≤192) ∧
 br (!v10.snd)
 (K (.tup [.agg [dL v10.fst.words,dI v10.fst.fuel],.one (dI 7)]) [])
 (K (.tup [.agg [dL v10.fst.words,dI v10.fst.fuel],.one (dI 0)]) [])))
 v18)
 v18)):=by subst_vars; kernel_rfl

theorem loop_q65 (ws r:List Int) (fu:Int) (rs:List (List Int)) (hl:rs.length≤5864062014806) (hs:smR rs=true) (K:KK)
  (hbad:∀ e,e≠0→gather 0 rs=e→K (.tup [.agg [dL [],dI 0],.one (dI e)]) [])
  (hend:∀ M,gather 0 rs=0→(allW rs).length≤31→goD Γ_q65 tab fn_q65 0 K (M+1) q65_L0 (q65_S0 (rs.length:Int) (((len rs):Nat):Int) 0 r rs (allW rs) 0 ws fu [])) :
  ∀ (d k:Nat),rs.length≤k+d→k≤rs.length→(allW (rs.take k)).length≤31→gather 0 rs=gather (allW (rs.take k)).length (rs.drop k) →
  goD Γ_q65 tab fn_q65 0 K (d+1) q65_L0 (q65_S0 (k:Int) (((len rs):Nat):Int) 0 r rs (allW (rs.take k)) 0 ws fu [])
 | 0,k,hk,hk2,ha,hg=>by
  have:k=rs.length:=by omega
  subst this
  rw [List.take_length] at ha hg ⊢
  rw [List.drop_length] at hg
  exact hend 0 hg ha
 | d+1,k,hk,hk2,ha,hg=>by
  by_cases c:k=rs.length
  ·subst c
   rw [List.take_length] at ha hg ⊢
   rw [List.drop_length] at hg
   exact hend (d+1) hg ha
  have ht:=take_step (l:=rs) (k:=k) (by omega) (Ty.dflt (.list .int))
  rw [drop_step (by omega) (Ty.dflt (.list .int))] at hg
  have hm:nth rs k (Ty.dflt (.list .int))∈rs:=by
   have:k<rs.length:=by omega
   simp [nth,List.getD_eq_getElem?_getD,this]
  have hsm:=List.all_eq_true.1 hs _ hm
  simp only [decide_eq_true_eq] at hsm
  rw [goD_in (L:=q65_L0),q65_vc0 _ _ _ _ _ _ _ _ _ _ _ _ _ rfl _ rfl _ rfl _ rfl _ rfl _ rfl _ rfl _ rfl _ rfl _ rfl _ rfl _ rfl _ rfl _ rfl _ rfl _ rfl _ rfl _ rfl _ rfl _ rfl,toNat_nat]
  obtain ⟨x,hx⟩:∃ x,nth rs k (Ty.dflt (.list .int))=x:=⟨_,rfl⟩
  rw [hx] at ht hg hsm ⊢
  simp only [gather] at hg
  refine lt_t (by simp only [len]; omega) ⟨⟨by omega,by simp only [len]; omega⟩,by simp only [len]; omega,hsm,ne_s (fun h1=>?_) (fun h1=>?_)⟩
  ·rw [if_neg h1] at hg
   exact hbad _ h1 hg
  ·rw [if_pos h1] at hg
   obtain ⟨r1,r2,r3⟩:=checkRec_ok h1
   refine ⟨by simp only [len]; omega,by simp only [len,recW_len]; omega,lt_s (fun h2=>?_) (fun h2=>?_)⟩
   ·simp only [len,cat,List.length_append,recW_len] at h2
    rw [if_neg (by omega)] at hg
    exact hbad 8 (by decide) hg
   ·simp only [len,cat,List.length_append,recW_len] at h2
    rw [if_pos (by omega)] at hg
    rw [w64_succ (by omega)]
    have e:cat (allW (rs.take k)) (recW x)=allW (rs.take (k+1)):=by rw [ht,allW_snoc]; rfl
    have el:(allW (rs.take (k+1))).length=(allW (rs.take k)).length+1+x.length:=by rw [ht,allW_snoc,List.length_append,recW_len]; omega
    rw [e]
    exact loop_q65 ws r fu rs hl hs K hbad hend d (k+1) (by omega) (by omega) (by rw [el]; omega) (by rw [hg,el])
theorem there_log_Append (ws al:List Int) (fu g:Int) (s:Nat) (hs:s≤1) (h64:64≤ws.length) (h192:ws.length≤192) (f1:-1≤fu) (f2:fu≤100000) (hg0:0≤g) (hg1:g≤65535) (hal:al.length≤31) (P:Flash × Int→Prop)
  (hP:P (power (doCh ⟨ws,fu⟩ (wipeCh ((1-s:Nat):Int)++burnCh (32*((1-s:Nat):Int)+1) al++burnCh (32*((1-s:Nat):Int)) [g+1])))) :
  let o:=w64 (1-(s:Int))
  let a:=doCh ⟨ws,fu⟩ (wipeCh o)
  let b:=doCh ⟨a.1.words,a.1.fuel⟩ (burnCh (w64 (w64 (o*32)+1)) al)
  let c:=doCh ⟨b.1.words,b.1.fuel⟩ (burnCh (w64 (o*32)) [w64 (g+1)])
  (0≤o∧(o+1)*32≤(ws.length:Int)) ∧
  (a.2=false→P (a.1,7))∧((-1≤a.1.fuel∧a.1.fuel≤100000∧0≤w64 (w64 (o*32)+1)∧w64 (w64 (o*32)+1)+(al.length:Int)≤(a.1.words.length:Int)∧a.1.words.length≤192) ∧
  (a.2=true→b.2=false→P (b.1,7))∧((-1≤b.1.fuel∧b.1.fuel≤100000∧0≤w64 (o*32)∧w64 (o*32)+1≤(b.1.words.length:Int)∧b.1.words.length≤192) ∧
  (a.2=true→b.2=true→P (c.1,powerE c.2)))):=by
 intro o a b c
 have eo:o=((1-s:Nat):Int):=by show w64 (1-(s:Int))=_; rw [w64_id (by omega) (by omega)]; omega
 have e1:w64 (o*32)=32*((1-s:Nat):Int):=by rw [eo,w64_id (by omega) (by omega)]; omega
 have e2:w64 (w64 (o*32)+1)=32*((1-s:Nat):Int)+1:=by rw [e1,w64_id (by omega) (by omega)]
 have e3:w64 (g+1)=g+1:=w64_id (by omega) (by omega)
 have fa:=doCh_fuel ⟨ws,fu⟩ (wipeCh o) f1 f2
 have la:a.1.words.length=ws.length:=doCh_len ⟨ws,fu⟩ (wipeCh o)
 have fb:=doCh_fuel a.1 (burnCh (w64 (w64 (o*32)+1)) al) fa.1 fa.2
 have lb:b.1.words.length=a.1.words.length:=doCh_len a.1 (burnCh (w64 (w64 (o*32)+1)) al)
 rw [doCh_append,doCh_append] at hP
 have ea:doCh ⟨ws,fu⟩ (wipeCh ((1-s:Nat):Int))=a:=by rw [← eo]
 have eb:doCh a.1 (burnCh (32*((1-s:Nat):Int)+1) al)=b:=by rw [← e2]
 have ec:doCh b.1 (burnCh (32*((1-s:Nat):Int)) [g+1])=c:=by rw [← e1,← e3]
 rw [ea,eb] at hP
 refine ⟨by omega,fun h=>?_,⟨fa.1,fa.2,by omega,by omega,by omega⟩,fun h h'=>?_,⟨fb.1,fb.2,by omega,by omega,by omega⟩,fun h h'=>?_⟩
 ·rw [if_neg (by simp [h]),if_neg (by simp [h])] at hP
  simpa [power,h,powerE] using hP
 ·rw [if_pos h,if_neg (by simp [h'])] at hP
  simpa [power,h',powerE] using hP
 ·rw [if_pos h,if_pos h',ec] at hP
  exact hP
theorem run_q65 (hp:Sm r∧len keep*24≤140737488351232∧smR keep=true) (K:KK) (hK:K (.tup [.agg [dL (appendF ⟨ws,fu⟩ r keep).1.words,dI (appendF ⟨ws,fu⟩ r keep).1.fuel],.one (dI (appendF ⟨ws,fu⟩ r keep).2)]) []):GD Γ_q65 fn_q65 0 K [.agg [dL ws,dI fu],.one (dL r),.one (dR keep)] []:=by
 obtain ⟨hr,hk,hsm⟩:=hp
 refine ⟨(keep++[r]).length+1+1,?_⟩
 rw [goD_code,q65_vc _ _ _ _ _ _ _ rfl _ rfl]
 unfold appendF appendE at hK
 simp only [len] at hk
 refine ne_s (fun h=>?_) (fun h=>?_)
 ·rw [if_neg h,if_neg h] at hK; exact hK
 rw [if_pos h] at hK
 refine ⟨hr,ne_s (fun h2=>?_) (fun h2=>?_)⟩
 ·rw [if_neg h2,if_neg h2] at hK; exact hK
 rw [if_pos h2] at hK
 obtain ⟨k1,k2,k3,k4⟩:=checkLog_ok h
 obtain ⟨c1,c2,c3,c4⟩:=checkFlash_ok k1
 obtain ⟨c5,c6⟩:=okLen_le c1
 simp only at k2 k3 k4 c2 c3 c4 c5 c6
 obtain ⟨r1,r2,r3⟩:=checkRec_ok h2
 have hlen:(keep++[r]).length=keep.length+1:=by simp
 obtain ⟨rs,hrs⟩:∃ rs,keep++[r]=rs:=⟨_,rfl⟩
 have hsr:smR rs=true:=by
  rw [← hrs]; unfold smR at hsm ⊢; rw [List.all_append,hsm]
  simp only [List.all_cons,List.all_nil,Bool.and_true,Bool.true_and,decide_eq_true_eq]; omega
 rw [hrs] at hlen ⊢
 refine ⟨by simp only [len]; omega,by simp only [len,List.length_cons,List.length_nil]; omega,?_⟩
 rw [show cat keep [r]=rs from hrs]
 rw [hrs] at hK
 have e0:allW (rs.take 0)=[]:=by simp [allW]
 have l0:(allW (rs.take 0)).length=0:=by rw [e0]; rfl
 refine loop_q65 ws r fu rs (by omega) hsr K (fun e he hg=>?_) (fun M hg hal=>?_) rs.length 0 (by omega) (by omega) (by omega) (by rw [l0,List.drop_zero])
 ·rw [hg,if_neg he] at hK; exact hK
 rw [hg,if_pos rfl] at hK
 rw [goD_in (L:=q65_L0),q65_vc0 _ _ _ _ _ _ _ _ _ _ _ _ _ rfl _ rfl _ rfl _ rfl _ rfl _ rfl _ rfl _ rfl _ rfl _ rfl _ rfl _ rfl _ rfl _ rfl _ rfl _ rfl _ rfl _ rfl _ rfl _ rfl,toNat_nat]
 unfold appendCh at hK
 have hls:=liveS_le ws
 have hgr:=genOf_range c4 (liveS ws)
 have hg1:liveG ws=genOf ws (liveS ws):=rfl
 have es:∀ s:Nat,Int.toNat (s:Int)=s:=fun _=>rfl
 simp only [hrs] at hK
 obtain ⟨s,hs⟩:∃ s,liveS ws=s:=⟨_,rfl⟩
 rw [hs] at hK hls ⊢
 obtain ⟨g,hgg⟩:∃ g,liveG ws=g:=⟨_,rfl⟩
 rw [hgg] at hK hg1 k3 k4 ⊢
 rw [w64_id (n:=(s:Int)+1) (by omega) (by omega),w64_id (n:=((s:Int)+1)*32) (by omega) (by omega)]
 have e6:(((len (recW r)):Nat):Int)=(r.length:Int)+1:=by simp only [len,recW_len]; omega
 have e7:nth (recW r) (Int.toNat (0:Int)) (Ty.dflt Ty.int)=42240+(r.length:Int):=rfl
 rw [e6,e7,es s]
 simp only [len]
 have hthere:=fun (hP:K (.tup [.agg [dL (power (doCh ⟨ws,fu⟩ (thereCh (1-s) rs (g+1)))).1.words,dI (power (doCh ⟨ws,fu⟩ (thereCh (1-s) rs (g+1)))).1.fuel],.one (dI (power (doCh ⟨ws,fu⟩ (thereCh (1-s) rs (g+1)))).2)]) []) =>
  there_log_Append ws (allW rs) fu g s hls k2 c6 c2 c3 (by omega) (by omega) hal (fun x=>K (.tup [.agg [dL x.1.words,dI x.1.fuel],.one (dI x.2)]) []) hP
 refine lt_f (by omega) ⟨⟨k2,c4⟩,by omega,by omega,⟨by omega,by omega,k2,c6,c4⟩,?_⟩
 cases hsc:(scanS ws s).2 with
 | none =>
  rw [hsc] at hK
  simp only [room,Bool.false_eq_true,if_false] at hK
  simp only [nextI]
  refine br_f (lei_false.2 (by omega)) (eq_s (fun h5=>?_) (fun h5=>?_))
  ·rw [if_pos h5] at hK; exact hK
  ·rw [if_neg h5] at hK
   obtain ⟨t1,t2,t3,t4,t5,t6⟩:=hthere hK
   refine ⟨⟨c2,c3,t1.1,t1.2,c6⟩,nt_s t2 (fun q1=>⟨t3,nt_s (t4 q1) (fun q2=>⟨t5,nt_s (fun q3=>?_) (fun q3=>?_)⟩)⟩)⟩
   ·have:=t6 q1 q2; rw [q3] at this; exact this
   ·have:=t6 q1 q2; rw [q3] at this; exact this
 | some a =>
  have ha:=scanS_le (by omega) hsc
  rw [hsc] at hK
  simp only [nextI]
  rw [w64_id (n:=32*(s:Int)+1+a+((r.length:Int)+1)) (by omega) (by omega),w64_id (n:=32*(s:Int)+1+a+1) (by omega) (by omega)]
  refine br_t (lei_true.2 (by omega)) (br_split (fun h5=>?_) (fun h5=>?_))
  ·rw [lei_true] at h5
   rw [if_pos (show room r.length (some a)=true from by simp only [room,decide_eq_true_eq]; omega)] at hK
   simp only [Option.getD_some,hereCh] at hK
   rw [show ((32*s+1+a:Nat):Int)=32*(s:Int)+1+a by omega,doCh_append] at hK
   obtain ⟨f1,f2⟩:=doCh_fuel ⟨ws,fu⟩ (burnCh (32*(s:Int)+1+a+1) r) c2 c3
   have l1:=doCh_len ⟨ws,fu⟩ (burnCh (32*(s:Int)+1+a+1) r)
   simp only at l1
   refine ⟨⟨c2,c3,by omega,by omega,c6⟩,nt_s (fun q1=>?_) (fun q1=>⟨⟨by omega,by omega⟩,⟨f1,f2,by omega,by simp only [List.length_cons,List.length_nil]; omega,by omega⟩,nt_s (fun q2=>?_) (fun q2=>?_)⟩)⟩
   ·rw [if_neg (by simp [q1])] at hK
    simpa only [power,q1,powerE] using hK
   ·rw [if_pos q1] at hK
    simp only [power] at hK
    rw [show (doCh (doCh ⟨ws,fu⟩ (burnCh (32*(s:Int)+1+a+1) r)).1 (burnCh (32*(s:Int)+1+a) [42240+(r.length:Int)])).2=false from q2] at hK
    exact hK
   ·rw [if_pos q1] at hK
    simp only [power] at hK
    rw [show (doCh (doCh ⟨ws,fu⟩ (burnCh (32*(s:Int)+1+a+1) r)).1 (burnCh (32*(s:Int)+1+a) [42240+(r.length:Int)])).2=true from q2] at hK
    exact hK
  ·rw [lei_false] at h5
   rw [if_neg (show ¬ room r.length (some a)=true from by simp only [room,decide_eq_true_eq]; omega)] at hK
   refine eq_s (fun h5=>?_) (fun h5=>?_)
   ·rw [if_pos h5] at hK; exact hK
   ·rw [if_neg h5] at hK
    obtain ⟨t1,t2,t3,t4,t5,t6⟩:=hthere hK
    refine ⟨⟨c2,c3,t1.1,t1.2,c6⟩,nt_s t2 (fun q1=>⟨t3,nt_s (t4 q1) (fun q2=>⟨t5,nt_s (fun q3=>?_) (fun q3=>?_)⟩)⟩)⟩
    ·have:=t6 q1 q2; rw [q3] at this; exact this
    ·have:=t6 q1 q2; rw [q3] at this; exact this
theorem sound_q65:SoundC Tryz.prog tab n_q65 c_q65:=soundC_f ok_q65 hg_q65 (by
 intro vs bs p v bs' h hp
 unfold c_q65 at h
 split at h
 ·cases h
  exact ⟨by kernel_rfl,rfl,.inl (run_q65 _ _ _ _ hp.1 _ ⟨rfl,rfl⟩)⟩
 ·cases h)

def c_q172:Contract:=fun vs bs=>match vs,bs with
 | [.one (.ptr 0 0)],[.box [.dat (.list .int) ws,.dat .int fu,.dat .bool up,.dat .int tv,.dat (.list .int) tk,.dat .int tt,.dat .int tn,.own 1,.own 2],.arr .bool vo,.arr .bool di]=>some (none,.tup [],[.box [dL (forgetG ⟨⟨ws,fu⟩,up,⟨⟨tv,tk,tt⟩,tn⟩,vo,di⟩).f.words,dI (forgetG ⟨⟨ws,fu⟩,up,⟨⟨tv,tk,tt⟩,tn⟩,vo,di⟩).f.fuel,dB (forgetG ⟨⟨ws,fu⟩,up,⟨⟨tv,tk,tt⟩,tn⟩,vo,di⟩).up,dI (forgetG ⟨⟨ws,fu⟩,up,⟨⟨tv,tk,tt⟩,tn⟩,vo,di⟩).t.r.version,dL (forgetG ⟨⟨ws,fu⟩,up,⟨⟨tv,tk,tt⟩,tn⟩,vo,di⟩).t.r.keys,dI (forgetG ⟨⟨ws,fu⟩,up,⟨⟨tv,tk,tt⟩,tn⟩,vo,di⟩).t.r.thr,dI (forgetG ⟨⟨ws,fu⟩,up,⟨⟨tv,tk,tt⟩,tn⟩,vo,di⟩).t.version,.own 1,.own 2],.arr .bool (forgetG ⟨⟨ws,fu⟩,up,⟨⟨tv,tk,tt⟩,tn⟩,vo,di⟩).voted,.arr .bool (forgetG ⟨⟨ws,fu⟩,up,⟨⟨tv,tk,tt⟩,tn⟩,vo,di⟩).did])
 | _,_=>none
def Γ_q172:Ctx:=[]
theorem ok_q172:Ok Tryz.prog tab Γ_q172:=ok_nil
theorem q172_vc (ws:List Int) (fu:Int) (up:Bool) (tv:Int) (tk:List Int) (tt tn:Int) (vo di:List Bool) (rec:RK) (K:KK):segD Γ_q172 tab fn_q172 3 K rec [.code (bodyOf fn_q172)] (initSt [.one (.ptr 0 0)] [.box [dL ws,dI fu,dB up,dI tv,dL tk,dI tt,dI tn,.own 1,.own 2],.arr Ty.bool vo,.arr Ty.bool di])=(
 K (.tup []) [.box [dL ws,dI fu,dB up,dI tv,dL tk,dI tt,dI tn,.own 1,.own 2],.arr Ty.bool (zeros (len vo) (Ty.dflt Ty.bool)),.arr Ty.bool (zeros (len di) (Ty.dflt Ty.bool))]):=by kernel_rfl

theorem run_q172 (K:KK) (hK:K (.tup []) [.box [dL (forgetG ⟨⟨ws,fu⟩,up,⟨⟨tv,tk,tt⟩,tn⟩,vo,di⟩).f.words,dI (forgetG ⟨⟨ws,fu⟩,up,⟨⟨tv,tk,tt⟩,tn⟩,vo,di⟩).f.fuel,dB (forgetG ⟨⟨ws,fu⟩,up,⟨⟨tv,tk,tt⟩,tn⟩,vo,di⟩).up,dI (forgetG ⟨⟨ws,fu⟩,up,⟨⟨tv,tk,tt⟩,tn⟩,vo,di⟩).t.r.version,dL (forgetG ⟨⟨ws,fu⟩,up,⟨⟨tv,tk,tt⟩,tn⟩,vo,di⟩).t.r.keys,dI (forgetG ⟨⟨ws,fu⟩,up,⟨⟨tv,tk,tt⟩,tn⟩,vo,di⟩).t.r.thr,dI (forgetG ⟨⟨ws,fu⟩,up,⟨⟨tv,tk,tt⟩,tn⟩,vo,di⟩).t.version,.own 1,.own 2],.arr .bool (forgetG ⟨⟨ws,fu⟩,up,⟨⟨tv,tk,tt⟩,tn⟩,vo,di⟩).voted,.arr .bool (forgetG ⟨⟨ws,fu⟩,up,⟨⟨tv,tk,tt⟩,tn⟩,vo,di⟩).did]):GD Γ_q172 fn_q172 3 K [.one (.ptr 0 0)] [.box [dL ws,dI fu,dB up,dI tv,dL tk,dI tt,dI tn,.own 1,.own 2],.arr .bool vo,.arr .bool di]:=by
 refine ⟨1,?_⟩
 rw [goD_code,q172_vc _ _ _ _ _ _ _ _ _ _ _]
 exact hK
theorem sound_q172:SoundC Tryz.prog tab n_q172 c_q172:=soundC_f ok_q172 hg_q172 (by
 intro vs bs p v bs' h hp
 unfold c_q172 at h
 split at h
 ·cases h
  exact ⟨by kernel_rfl,rfl,.inl (run_q172 _ _ _ _ _ _ _ _ _ _ ⟨rfl,rfl⟩)⟩
 ·cases h)

def c_q174:Contract:=fun vs bs=>match vs,bs with
 | [.one (.ptr 0 0),.one (.dat (.list .int) r)],[.box [.dat (.list .int) ws,.dat .int fu,.dat .bool up,.dat .int tv,.dat (.list .int) tk,.dat .int tt,.dat .int tn,.own 1,.own 2],.arr .bool vo,.arr .bool di]=>some (some (Sm r),.one (dB (noteG ⟨⟨ws,fu⟩,up,⟨⟨tv,tk,tt⟩,tn⟩,vo,di⟩ r).2),[.box [dL (noteG ⟨⟨ws,fu⟩,up,⟨⟨tv,tk,tt⟩,tn⟩,vo,di⟩ r).1.f.words,dI (noteG ⟨⟨ws,fu⟩,up,⟨⟨tv,tk,tt⟩,tn⟩,vo,di⟩ r).1.f.fuel,dB (noteG ⟨⟨ws,fu⟩,up,⟨⟨tv,tk,tt⟩,tn⟩,vo,di⟩ r).1.up,dI (noteG ⟨⟨ws,fu⟩,up,⟨⟨tv,tk,tt⟩,tn⟩,vo,di⟩ r).1.t.r.version,dL (noteG ⟨⟨ws,fu⟩,up,⟨⟨tv,tk,tt⟩,tn⟩,vo,di⟩ r).1.t.r.keys,dI (noteG ⟨⟨ws,fu⟩,up,⟨⟨tv,tk,tt⟩,tn⟩,vo,di⟩ r).1.t.r.thr,dI (noteG ⟨⟨ws,fu⟩,up,⟨⟨tv,tk,tt⟩,tn⟩,vo,di⟩ r).1.t.version,.own 1,.own 2],.arr .bool (noteG ⟨⟨ws,fu⟩,up,⟨⟨tv,tk,tt⟩,tn⟩,vo,di⟩ r).1.voted,.arr .bool (noteG ⟨⟨ws,fu⟩,up,⟨⟨tv,tk,tt⟩,tn⟩,vo,di⟩ r).1.did])
 | _,_=>none
def Γ_q174:Ctx:=[(n_q167,c_q167),(n_q173,c_q173),(n_q65,c_q65),(n_q172,c_q172)]
theorem ok_q174:Ok Tryz.prog tab Γ_q174:=((((ok_nil.c hg_q172 sound_q172).c hg_q65 sound_q65).c hg_q173 sound_q173).c hg_q167 sound_q167)
theorem q174_vc (ws:List Int) (fu:Int) (up:Bool) (tv:Int) (tk:List Int) (tt tn:Int) (vo di:List Bool) (r:List Int) (rec:RK) (K:KK) v0 (hv0:v0=ofG ⟨ws,fu⟩) v1 (hv1:v1=keepG ⟨v0.n,v0.version,v0.commit,v0.abort,v0.ended⟩) v2 (hv2:v2=smR v1) v3 (hv3:v3=appendF ⟨ws,fu⟩ r v1) v4 (hv4:v4=br (eqi v3.snd 7)
 (K (.one (dB (eqi v3.snd 0))) [.box [dL v3.fst.words,dI v3.fst.fuel,dB false,dI tv,dL tk,dI tt,dI tn,.own 1,.own 2],.arr Ty.bool (zeros (List.length vo) false),.arr Ty.bool (zeros (List.length di) false)])
 (K (.one (dB (eqi v3.snd 0))) [.box [dL v3.fst.words,dI v3.fst.fuel,dB up,dI tv,dL tk,dI tt,dI tn,.own 1,.own 2],.arr Ty.bool vo,.arr Ty.bool di])):segD Γ_q174 tab fn_q174 3 K rec [.code (bodyOf fn_q174)] (initSt [.one (.ptr 0 0),.one (dL r)] [.box [dL ws,dI fu,dB up,dI tv,dL tk,dI tt,dI tn,.own 1,.own 2],.arr Ty.bool vo,.arr Ty.bool di])=(
 (List.length r≤140737488355328∧len v1*24≤140737488351232∧v2=true) ∧
 br (!(eqi v3.snd 0))
 (br (!(eqi v3.snd 7))
 (K (.one (dB false)) [.box [dL ws,dI fu,dB up,dI tv,dL tk,dI tt,dI tn,.own 1,.own 2],.arr Ty.bool vo,.arr Ty.bool di])
 v4)
 v4):=by subst_vars; kernel_rfl

theorem run_q174 (hp:Sm r) (K:KK) (hK:K (.one (dB (noteG ⟨⟨ws,fu⟩,up,⟨⟨tv,tk,tt⟩,tn⟩,vo,di⟩ r).2)) [.box [dL (noteG ⟨⟨ws,fu⟩,up,⟨⟨tv,tk,tt⟩,tn⟩,vo,di⟩ r).1.f.words,dI (noteG ⟨⟨ws,fu⟩,up,⟨⟨tv,tk,tt⟩,tn⟩,vo,di⟩ r).1.f.fuel,dB (noteG ⟨⟨ws,fu⟩,up,⟨⟨tv,tk,tt⟩,tn⟩,vo,di⟩ r).1.up,dI (noteG ⟨⟨ws,fu⟩,up,⟨⟨tv,tk,tt⟩,tn⟩,vo,di⟩ r).1.t.r.version,dL (noteG ⟨⟨ws,fu⟩,up,⟨⟨tv,tk,tt⟩,tn⟩,vo,di⟩ r).1.t.r.keys,dI (noteG ⟨⟨ws,fu⟩,up,⟨⟨tv,tk,tt⟩,tn⟩,vo,di⟩ r).1.t.r.thr,dI (noteG ⟨⟨ws,fu⟩,up,⟨⟨tv,tk,tt⟩,tn⟩,vo,di⟩ r).1.t.version,.own 1,.own 2],.arr .bool (noteG ⟨⟨ws,fu⟩,up,⟨⟨tv,tk,tt⟩,tn⟩,vo,di⟩ r).1.voted,.arr .bool (noteG ⟨⟨ws,fu⟩,up,⟨⟨tv,tk,tt⟩,tn⟩,vo,di⟩ r).1.did]):GD Γ_q174 fn_q174 3 K [.one (.ptr 0 0),.one (dL r)] [.box [dL ws,dI fu,dB up,dI tv,dL tk,dI tt,dI tn,.own 1,.own 2],.arr .bool vo,.arr .bool di]:=by
 refine ⟨1,?_⟩
 rw [goD_code,q174_vc _ _ _ _ _ _ _ _ _ _ _ _ _ rfl _ rfl _ rfl _ rfl _ rfl]
 unfold noteG changeG at hK
 simp only at hK
 have e0:(⟨(ofG ⟨ws,fu⟩).n,(ofG ⟨ws,fu⟩).version,(ofG ⟨ws,fu⟩).commit,(ofG ⟨ws,fu⟩).abort,(ofG ⟨ws,fu⟩).ended⟩:Vm.GState)=ofG ⟨ws,fu⟩:=rfl
 rw [e0]
 obtain ⟨k1,k2⟩:=keepG_sm (ofG ⟨ws,fu⟩)
 refine ⟨⟨hp,by simp only [len]; omega,k1⟩,?_⟩
 obtain ⟨r',hr⟩:∃ r',appendF ⟨ws,fu⟩ r (keepG (ofG ⟨ws,fu⟩))=r':=⟨_,rfl⟩
 rw [hr] at hK ⊢
 refine ne_s (fun h=>?_) (fun h=>?_)
 ·rw [if_neg h] at hK
  refine ne_s (fun h2=>?_) (fun h2=>?_)
  ·rw [if_neg h2] at hK; exact hK
  ·rw [if_pos h2] at hK
   refine eq_t h2 ?_
   rw [show eqi r'.2 0=false from eqi_false.2 h]
   exact hK
 ·rw [if_pos h] at hK
  refine eq_f (by omega) ?_
  rw [show eqi r'.2 0=true from eqi_true.2 h]
  exact hK
theorem sound_q174:SoundC Tryz.prog tab n_q174 c_q174:=soundC_f ok_q174 hg_q174 (by
 intro vs bs p v bs' h hp
 unfold c_q174 at h
 split at h
 ·cases h
  exact ⟨by kernel_rfl,rfl,.inl (run_q174 _ _ _ _ _ _ _ _ _ _ hp.1 _ ⟨rfl,rfl⟩)⟩
 ·cases h)

def c_q178:Contract:=fun vs bs=>match vs,bs with
 | [.agg [.dat (.list .int) ws,.dat .int fu,.dat .bool up,.dat .int tv,.dat (.list .int) tk,.dat .int tt,.dat .int tn,.dat (.list .bool) vo,.dat (.list .bool) di],.agg [.dat .int mk,.dat .int mu,.dat .int mn,.dat .int ma,.dat .int mi,.dat (.list .int) mw,.dat .bool my]],[]=>some (none,.tup [.agg (cG (hearG ⟨⟨ws,fu⟩,up,⟨⟨tv,tk,tt⟩,tn⟩,vo,di⟩ ⟨mk,mu,mn,ma,mi,mw,my⟩).1.1),.one (dM (hearG ⟨⟨ws,fu⟩,up,⟨⟨tv,tk,tt⟩,tn⟩,vo,di⟩ ⟨mk,mu,mn,ma,mi,mw,my⟩).1.2),.one (dI (hearG ⟨⟨ws,fu⟩,up,⟨⟨tv,tk,tt⟩,tn⟩,vo,di⟩ ⟨mk,mu,mn,ma,mi,mw,my⟩).2)],[])
 | _,_=>none
def Γ_q178:Ctx:=[(n_q168,c_q168),(n_q171,c_q171),(n_q167,c_q167),(n_q163,c_q163),(n_q174,c_q174),(n_q176,c_q176)]
theorem ok_q178:Ok Tryz.prog tab Γ_q178:=((((((ok_nil.c hg_q176 sound_q176).c hg_q174 sound_q174).c hg_q163 sound_q163).c hg_q167 sound_q167).c hg_q171 sound_q171).c hg_q168 sound_q168)
theorem q178_vc (ws:List Int) (fu:Int) (up:Bool) (tv:Int) (tk:List Int) (tt tn:Int) (vo di:List Bool) (mk mu mn ma mi:Int) (mw:List Int) (my:Bool) (rec:RK) (K:KK) v0 (hv0:v0=checkG ⟨⟨ws,fu⟩,up,⟨⟨tv,tk,tt⟩,tn⟩,vo,di⟩) v1 (hv1:v1=ofG ⟨ws,fu⟩) v2 (hv2:v2=hasB false (setAt di (Int.toNat mu) true)) v3 (hv3:v3=noteG ⟨⟨ws,fu⟩,up,⟨⟨tv,tk,tt⟩,tn⟩,vo,setAt di (Int.toNat mu) true⟩ ((4:Int)::v1.n::[])) v4 (hv4:v4=kindG ⟨v1.n,v1.version,v1.commit,v1.abort,v1.ended⟩ mn) v5 (hv5:v5=hasB false (setAt vo (Int.toNat mu) true)) v6 (hv6:v6=noteG ⟨⟨ws,fu⟩,up,⟨⟨tv,tk,tt⟩,tn⟩,setAt vo (Int.toNat mu) true,di⟩ ((2:Int)::v1.n::[])) v7 (hv7:v7=br (eqi mk 3)
 (K (.tup [.agg [dL ws,dI fu,dB up,dI tv,dL tk,dI tt,dI tn,dLb vo,dLb di],.one (dM []),.one (dI 0)]) [])
 (br (eqi mk 6)
 (K (.tup [.agg [dL ws,dI fu,dB up,dI tv,dL tk,dI tt,dI tn,dLb vo,dLb di],.one (dM []),.one (dI 0)]) [])
 (br (eqi mk 7)
 (K (.tup [.agg [dL ws,dI fu,dB up,dI tv,dL tk,dI tt,dI tn,dLb vo,dLb di],.one (dM ((⟨v4,mu,mn,0,0,[],false⟩:Vm.Message)::[])),.one (dI 0)]) [])
 (K (.tup [.agg [dL ws,dI fu,dB up,dI tv,dL tk,dI tt,dI tn,dLb vo,dLb di],.one (dM []),.one (dI 0)]) [])))) v8 (hv8:v8=br (!v2)
 (List.length ((4:Int)::v1.n::[])≤140737488355328 ∧
 K (.tup [.agg (cG v3.fst),.one (dM []),.one (dI 0)]) [])
 (K (.tup [.agg [dL ws,dI fu,dB up,dI tv,dL tk,dI tt,dI tn,dLb vo,dLb (setAt di (Int.toNat mu) true)],.one (dM []),.one (dI 0)]) [])) v9 (hv9:v9=K (.tup [.agg [dL ws,dI fu,dB up,dI tv,dL tk,dI tt,dI tn,dLb vo,dLb di],.one (dM ((⟨v4,mu,mn,0,0,[],false⟩:Vm.Message)::[])),.one (dI 0)]) []) v10 (hv10:v10=K (.tup [.agg [dL [],dI (0:Int),dB false,dI (0:Int),dL [],dI (0:Int),dI (0:Int),dLb [],dLb []],.one (dM []),.one (dI 3)]) []) v11 (hv11:v11=K (.tup [.agg [dL ws,dI fu,dB up,dI tv,dL tk,dI tt,dI tn,dLb vo,dLb di],.one (dM []),.one (dI 0)]) []):segD Γ_q178 tab fn_q178 0 K rec [.code (bodyOf fn_q178)] (initSt [.agg [dL ws,dI fu,dB up,dI tv,dL tk,dI tt,dI tn,dLb vo,dLb di],.agg [dI mk,dI mu,dI mn,dI ma,dI mi,dL mw,dB my]] [])=(
 br (!(eqi v0 0))
 (K (.tup [.agg [dL [],dI (0:Int),dB false,dI (0:Int),dL [],dI (0:Int),dI (0:Int),dLb [],dLb []],.one (dM []),.one (dI v0)]) [])
 (br (lti mu 0)
 v10
 (br (lei (len vo:Int) mu)
 v10
 (br (lti mn 1)
 v10
 (br (lti 8 mn)
 v10
 ((len ws*8≤140737488355328∧len tk*8≤140737488355328∧len vo≤1000∧len di≤1000) ∧
 br (!up)
 v11
 (br (eqi v1.n mn)
 (br v1.commit
 (br (eqi mk 3)
 (br (!(!v1.ended))
 v11
 v11)
 (br (eqi mk 6)
 (br (!(!v1.ended))
 v11
 (((0:Int)≤mu∧mu<(len di:Int)) ∧
 Int.toNat mu<len di ∧
 len (setAt di (Int.toNat mu) true)≤1000 ∧
 v8))
 (br (eqi mk 7)
 (br (!(!v1.ended))
 v9
 v9)
 v11)))
 (br (eqi mk 3)
 (br (!(!v1.ended))
 v11
 (br v1.abort
 v11
 (br (!my)
 v11
 (((0:Int)≤mu∧mu<(len vo:Int)) ∧
 Int.toNat mu<len vo ∧
 len (setAt vo (Int.toNat mu) true)≤1000 ∧
 br (!v5)
 (List.length ((2:Int)::v1.n::[])≤140737488355328 ∧
 K (.tup [.agg (cG v6.fst),.one (dM []),.one (dI 0)]) [])
 (K (.tup [.agg [dL ws,dI fu,dB up,dI tv,dL tk,dI tt,dI tn,dLb (setAt vo (Int.toNat mu) true),dLb di],.one (dM []),.one (dI 0)]) [])))))
 (br (eqi mk 6)
 (br (!(!v1.ended))
 v11
 (br (!v1.abort)
 v11
 (((0:Int)≤mu∧mu<(len di:Int)) ∧
 Int.toNat mu<len di ∧
 len (setAt di (Int.toNat mu) true)≤1000 ∧
 v8)))
 (br (eqi mk 7)
 (br (!(!v1.ended))
 v9
 (br v1.abort
 v9
 v11))
 v11))))
 (br v1.commit
 v7
 v7)))))))):=by subst_vars; kernel_rfl

theorem run_q178 (K:KK) (hK:K (.tup [.agg (cG (hearG ⟨⟨ws,fu⟩,up,⟨⟨tv,tk,tt⟩,tn⟩,vo,di⟩ ⟨mk,mu,mn,ma,mi,mw,my⟩).1.1),.one (dM (hearG ⟨⟨ws,fu⟩,up,⟨⟨tv,tk,tt⟩,tn⟩,vo,di⟩ ⟨mk,mu,mn,ma,mi,mw,my⟩).1.2),.one (dI (hearG ⟨⟨ws,fu⟩,up,⟨⟨tv,tk,tt⟩,tn⟩,vo,di⟩ ⟨mk,mu,mn,ma,mi,mw,my⟩).2)]) []):GD Γ_q178 fn_q178 0 K [.agg [dL ws,dI fu,dB up,dI tv,dL tk,dI tt,dI tn,dLb vo,dLb di],.agg [dI mk,dI mu,dI mn,dI ma,dI mi,dL mw,dB my]] []:=by
 refine ⟨1,?_⟩
 rw [goD_code,q178_vc _ _ _ _ _ _ _ _ _ _ _ _ _ _ _ _ _ _ _ rfl _ rfl _ rfl _ rfl _ rfl _ rfl _ rfl _ rfl _ rfl _ rfl _ rfl _ rfl]
 refine ne_s (fun h=>?_) (fun h=>?_)
 ·rw [show hearG ⟨⟨ws,fu⟩,up,⟨⟨tv,tk,tt⟩,tn⟩,vo,di⟩ ⟨mk,mu,mn,ma,mi,mw,my⟩=((noGate,[]),checkG ⟨⟨ws,fu⟩,up,⟨⟨tv,tk,tt⟩,tn⟩,vo,di⟩) from by unfold hearG hearGE; rw [if_neg h,if_neg h]] at hK
  exact hK
 have lv:((len vo:Nat):Int)=(vo.length:Int):=rfl
 have ld:((len di:Nat):Int)=(di.length:Int):=rfl
 rw [lv,ld]
 by_cases c:mu<0∨(vo.length:Int)≤mu∨mn<1∨8<mn
 ·rw [show hearG ⟨⟨ws,fu⟩,up,⟨⟨tv,tk,tt⟩,tn⟩,vo,di⟩ ⟨mk,mu,mn,ma,mi,mw,my⟩=((noGate,[]),3) from by
   have e:hearGE ⟨⟨ws,fu⟩,up,⟨⟨tv,tk,tt⟩,tn⟩,vo,di⟩ ⟨mk,mu,mn,ma,mi,mw,my⟩=3:=by unfold hearGE; rw [if_pos h,if_pos (by exact c)]
   unfold hearG; rw [e,if_neg (by decide)]] at hK
  exact lt_s (fun _=>hK) (fun _=>br_split (fun _=>hK) (fun h2=>lt_s (fun _=>hK) (fun _=>lt_t (by rw [lei_false] at h2; omega) hK)))
 obtain ⟨s1,s2,s3,s4⟩:=checkG_sm h
 obtain ⟨_,v1,v2,v3,_⟩:=checkG_ok h
 simp only at v1 v2 v3
 refine lt_f (by omega) (br_f (lei_false.2 (by omega)) (lt_f (by omega) (lt_f (by omega) ⟨⟨s1,s2,s3,s4⟩,?_⟩)))
 rw [hearG_mk h (by simp only; omega)] at hK
 have lsv:len (setAt vo (Int.toNat mu) true)≤1000:=by simp only [len,setAt_len]; omega
 have lsd:len (setAt di (Int.toNat mu) true)≤1000:=by simp only [len,setAt_len]; omega
 have lnv:Int.toNat mu<len vo:=by simp only [len]; omega
 have lnd:Int.toNat mu<len di:=by simp only [len]; omega
 unfold hearsG at hK
 cases up
 ·rw [if_neg (by simp)] at hK
  exact nt_t rfl hK
 rw [if_pos rfl] at hK
 refine nt_f rfl ?_
 obtain ⟨s,hs⟩:∃ s,ofG ⟨ws,fu⟩=s:=⟨_,rfl⟩
 simp only [hs] at hK ⊢
 rw [show (⟨s.n,s.version,s.commit,s.abort,s.ended⟩:Vm.GState)=s from rfl]
 obtain ⟨g,hg⟩:∃ g:Vm.Gate,(⟨⟨ws,fu⟩,true,⟨⟨tv,tk,tt⟩,tn⟩,vo,di⟩:Vm.Gate)=g:=⟨_,rfl⟩
 have hKa:hearsS g s ⟨mk,mu,mn,ma,mi,mw,my⟩=(g,[])→K (.tup [.agg [dL ws,dI fu,dB true,dI tv,dL tk,dI tt,dI tn,dLb vo,dLb di],.one (dM []),.one (dI (0:Int))]) []:=fun e=>by rw [hg,e,← hg] at hK; exact hK
 have hKb:hearsS g s ⟨mk,mu,mn,ma,mi,mw,my⟩=(g,[decisionM s mu mn])→K (.tup [.agg [dL ws,dI fu,dB true,dI tv,dL tk,dI tt,dI tn,dLb vo,dLb di],.one (dM [⟨kindG s mn,mu,mn,0,0,[],false⟩]),.one (dI (0:Int))]) []:=fun e=>by rw [hg,e,← hg] at hK; exact hK
 have hKc:hearsS g s ⟨mk,mu,mn,ma,mi,mw,my⟩=(votedG g mu,[])→K (.tup [.agg [dL ws,dI fu,dB true,dI tv,dL tk,dI tt,dI tn,dLb (setAt vo (Int.toNat mu) true),dLb di],.one (dM []),.one (dI (0:Int))]) []:=fun e=>by rw [hg,e,← hg] at hK; exact hK
 have hKe:hearsS g s ⟨mk,mu,mn,ma,mi,mw,my⟩=(didG g mu,[])→K (.tup [.agg [dL ws,dI fu,dB true,dI tv,dL tk,dI tt,dI tn,dLb vo,dLb (setAt di (Int.toNat mu) true)],.one (dM []),.one (dI (0:Int))]) []:=fun e=>by rw [hg,e,← hg] at hK; exact hK
 have hKd:hearsS g s ⟨mk,mu,mn,ma,mi,mw,my⟩=((noteG (votedG g mu) [2,s.n]).1,[])→K (.tup [.agg (cG (noteG ⟨⟨ws,fu⟩,true,⟨⟨tv,tk,tt⟩,tn⟩,setAt vo (Int.toNat mu) true,di⟩ [2,s.n]).1),.one (dM []),.one (dI (0:Int))]) []:=fun e=>by rw [hg,e,← hg] at hK; exact hK
 have hKf:hearsS g s ⟨mk,mu,mn,ma,mi,mw,my⟩=((noteG (didG g mu) [4,s.n]).1,[])→K (.tup [.agg (cG (noteG ⟨⟨ws,fu⟩,true,⟨⟨tv,tk,tt⟩,tn⟩,vo,setAt di (Int.toNat mu) true⟩ [4,s.n]).1),.one (dM []),.one (dI (0:Int))]) []:=fun e=>by rw [hg,e,← hg] at hK; exact hK
 clear hK
 have evo:(votedG g mu).voted=setAt vo (Int.toNat mu) true:=by rw [← hg]; rfl
 have edi:(didG g mu).did=setAt di (Int.toNat mu) true:=by rw [← hg]; rfl
 have h3:mk=3→hearsS g s ⟨mk,mu,mn,ma,mi,mw,my⟩=if s.n≠mn∨s.ended=true∨s.commit=true∨s.abort=true∨my=false then (g,[]) else (voteG g s mu,[]):=fun e=>by unfold hearsS; rw [if_pos (by exact e)]
 have h6:mk=6→hearsS g s ⟨mk,mu,mn,ma,mi,mw,my⟩=if s.n≠mn∨s.ended=true∨(s.commit=false∧s.abort=false) then (g,[]) else (doneG g s mu,[]):=fun e=>by unfold hearsS; rw [if_neg (by simp only; omega),if_pos (by exact e)]
 have h7:mk=7→hearsS g s ⟨mk,mu,mn,ma,mi,mw,my⟩=if s.n≠mn∨s.ended=true∨s.commit=true∨s.abort=true then (g,[decisionM s mu mn]) else (g,[]):=fun e=>by unfold hearsS; rw [if_neg (by simp only; omega),if_neg (by simp only; omega),if_pos (by exact e)]
 have h0:mk≠3→mk≠6→mk≠7→hearsS g s ⟨mk,mu,mn,ma,mi,mw,my⟩=(g,[]):=fun a b c=>by unfold hearsS; rw [if_neg (by exact a),if_neg (by exact b),if_neg (by exact c)]
 have hcc:(s.commit=true∨s.commit=false):=by cases s.commit<;>simp
 have haa:(s.abort=true∨s.abort=false):=by cases s.abort<;>simp
 have hee:(s.ended=true∨s.ended=false):=by cases s.ended<;>simp
 by_cases hn:s.n=mn
 ·refine eq_t hn ?_
  rcases hcc with hc | hc<;>rcases haa with ha | ha<;>rcases hee with he | he<;>rw [hc,he]<;>rw [hc,ha,he,hn] at h3 h6 h7<;>simp only [ne_eq,not_true_eq_false,Bool.true_eq_false,Bool.false_eq_true,true_or,or_true,false_or,or_false,and_false,false_and,and_true,true_and,and_self,if_true,if_false,Bool.not_eq_false] at h3 h6 h7
  all_goals
   try rw [ha]
   try simp only [br,Bool.not_true,Bool.not_false]
   refine eq_s (fun k=>?_) (fun k3=>eq_s (fun k=>?_) (fun k6=>eq_s (fun k=>?_) (fun k7=>hKa (h0 k3 k6 k7))))
   ·first
     | exact hKa (h3 k)
     | (refine nt_s (fun q=>hKa (by rw [h3 k,if_pos q])) (fun q=>⟨⟨by omega,by omega⟩,lnv,lsv,?_⟩)
        refine nt_s (fun q2=>⟨by simp,hKd (by rw [h3 k,if_neg (by rw [q]; simp)]; unfold voteG; rw [evo,q2]; rfl)⟩) (fun q2=>hKc (by rw [h3 k,if_neg (by rw [q]; simp)]; unfold voteG; rw [evo,q2]; rfl)))
   ·first
     | exact hKa (h6 k)
     | (refine ⟨⟨by omega,by omega⟩,lnd,lsd,nt_s (fun q2=>⟨by simp,hKf (by rw [h6 k]; unfold doneG; rw [edi,q2]; rfl)⟩) (fun q2=>hKe (by rw [h6 k]; unfold doneG; rw [edi,q2]; rfl))⟩)
   ·first
     | exact hKb (h7 k)
     | exact hKa (h7 k)
 ·refine eq_f hn ?_
  rw [if_pos (.inl hn)] at h3 h6 h7
  refine br_split (fun _=>?_) (fun _=>?_)<;>exact eq_s (fun k=>hKa (h3 k)) (fun k3=>eq_s (fun k=>hKa (h6 k)) (fun k6=>eq_s (fun k=>hKb (h7 k)) (fun k7=>hKa (h0 k3 k6 k7))))
theorem sound_q178:SoundC Tryz.prog tab n_q178 c_q178:=soundC_f ok_q178 hg_q178 (by
 intro vs bs p v bs' h hp
 unfold c_q178 at h
 split at h
 ·cases h
  exact ⟨by kernel_rfl,rfl,.inl (run_q178 _ _ _ _ _ _ _ _ _ _ _ _ _ _ _ _ _ ⟨rfl,rfl⟩)⟩
 ·cases h)

def c_q11:Contract:=fun vs bs=>match vs,bs with
 | [.one (.dat .int w)],[]=>some (none,.one (dB (!okWord w)),[])
 | _,_=>none
def Γ_q11:Ctx:=[]
theorem ok_q11:Ok Tryz.prog tab Γ_q11:=ok_nil
theorem q11_vc (w:Int) (rec:RK) (K:KK):segD Γ_q11 tab fn_q11 0 K rec [.code (bodyOf fn_q11)] (initSt [.one (dI w)] [])=(
 br (lti w 0)
 (K vT [])
 (K (.one (dB (lti 65535 w))) [])):=by kernel_rfl

theorem run_q11 (K:KK) (hK:K (.one (dB (!okWord w))) []):GD Γ_q11 fn_q11 0 K [.one (dI w)] []:=by
 refine ⟨1,?_⟩
 rw [goD_code,q11_vc _ _ _]
 refine lt_s (fun h=>?_) (fun h=>?_)
 ·rw [show (!okWord w)=true from by simp [okWord]; omega] at hK; exact hK
 ·rw [show (!okWord w)=lti 65535 w from by simp [okWord,lti,h]; by_cases h2:w≤65535<;>simp [h2]<;>omega] at hK; exact hK
theorem sound_q11:SoundC Tryz.prog tab n_q11 c_q11:=soundC_f ok_q11 hg_q11 (by
 intro vs bs p v bs' h hp
 unfold c_q11 at h
 split at h
 ·cases h
  exact ⟨by kernel_rfl,rfl,.inl (run_q11 _ _ ⟨rfl,rfl⟩)⟩
 ·cases h)

def c_q12:Contract:=fun vs bs=>match vs,bs with
 | [.one (.dat .int w)],[]=>some (none,.one (dB (okWord w)),[])
 | _,_=>none
def Γ_q12:Ctx:=[]
theorem ok_q12:Ok Tryz.prog tab Γ_q12:=ok_nil
theorem q12_vc (w:Int) (rec:RK) (K:KK):segD Γ_q12 tab fn_q12 0 K rec [.code (bodyOf fn_q12)] (initSt [.one (dI w)] [])=(
 br (lei 0 w)
 (K (.one (dB (lei w 65535))) [])
 (K vF [])):=by kernel_rfl

theorem run_q12 (K:KK) (hK:K (.one (dB (okWord w))) []):GD Γ_q12 fn_q12 0 K [.one (dI w)] []:=by
 refine ⟨1,?_⟩
 rw [goD_code,q12_vc _ _ _]
 refine br_split (fun h=>?_) (fun h=>?_)
 ·rw [show okWord w=lei w 65535 from by rw [lei_true] at h; simp [okWord,lei,h]] at hK; exact hK
 ·rw [show okWord w=false from by rw [lei_false] at h; simp [okWord]; omega] at hK; exact hK
theorem sound_q12:SoundC Tryz.prog tab n_q12 c_q12:=soundC_f ok_q12 hg_q12 (by
 intro vs bs p v bs' h hp
 unfold c_q12 at h
 split at h
 ·cases h
  exact ⟨by kernel_rfl,rfl,.inl (run_q12 _ _ ⟨rfl,rfl⟩)⟩
 ·cases h)

def c_q13:Contract:=fun vs bs=>match vs,bs with
 | [.one (.dat .int w)],[]=>some (none,.one (dB (!okWord w)),[])
 | _,_=>none
def Γ_q13:Ctx:=[(n_q12,c_q12)]
theorem ok_q13:Ok Tryz.prog tab Γ_q13:=(ok_nil.c hg_q12 sound_q12)
theorem q13_vc (w:Int) (rec:RK) (K:KK) v0 (hv0:v0=okWord w):segD Γ_q13 tab fn_q13 0 K rec [.code (bodyOf fn_q13)] (initSt [.one (dI w)] [])=(
 K (.one (dB (!v0))) []):=by subst_vars; kernel_rfl

theorem run_q13 (K:KK) (hK:K (.one (dB (!okWord w))) []):GD Γ_q13 fn_q13 0 K [.one (dI w)] []:=by
 refine ⟨1,?_⟩
 rw [goD_code,q13_vc _ _ _ _ rfl]
 exact hK
theorem sound_q13:SoundC Tryz.prog tab n_q13 c_q13:=soundC_f ok_q13 hg_q13 (by
 intro vs bs p v bs' h hp
 unfold c_q13 at h
 split at h
 ·cases h
  exact ⟨by kernel_rfl,rfl,.inl (run_q13 _ _ ⟨rfl,rfl⟩)⟩
 ·cases h)

def c_q144:Contract:=fun vs bs=>match vs,bs with
 | [.one (.dat .int w)],[]=>some (none,.one (dB (!okWord w)),[])
 | _,_=>none
def Γ_q144:Ctx:=[]
theorem ok_q144:Ok Tryz.prog tab Γ_q144:=ok_nil
theorem q144_vc (w:Int) (rec:RK) (K:KK):segD Γ_q144 tab fn_q144 0 K rec [.code (bodyOf fn_q144)] (initSt [.one (dI w)] [])=(
 br (lti w 0)
 (K vT [])
 (K (.one (dB (lti 65535 w))) [])):=by kernel_rfl

theorem run_q144 (K:KK) (hK:K (.one (dB (!okWord w))) []):GD Γ_q144 fn_q144 0 K [.one (dI w)] []:=by
 refine ⟨1,?_⟩
 rw [goD_code,q144_vc _ _ _]
 refine lt_s (fun h=>?_) (fun h=>?_)
 ·rw [show (!okWord w)=true from by simp [okWord]; omega] at hK; exact hK
 ·rw [show (!okWord w)=lti 65535 w from by simp [okWord,lti,h]; by_cases h2:w≤65535<;>simp [h2]<;>omega] at hK; exact hK
theorem sound_q144:SoundC Tryz.prog tab n_q144 c_q144:=soundC_f ok_q144 hg_q144 (by
 intro vs bs p v bs' h hp
 unfold c_q144 at h
 split at h
 ·cases h
  exact ⟨by kernel_rfl,rfl,.inl (run_q144 _ _ ⟨rfl,rfl⟩)⟩
 ·cases h)

def c_q15:Contract:=fun vs bs=>match vs,bs with
 | [.one (.dat (.list .int) l),.one (.fn f [])],[]=>(match Nat.beq f n_q11 with | true=>some (some (Sm l),.one (dI (firstBad l)),[]) | false=>(match Nat.beq f n_q13 with | true=>some (some (Sm l),.one (dI (firstBad l)),[]) | false=>(match Nat.beq f n_q144 with | true=>some (some (Sm l),.one (dI (firstBad l)),[]) | false=>none)))
 | _,_=>none
def Γ_q15:Ctx:=[(n_q11,c_q11),(n_q13,c_q13),(n_q144,c_q144)]
theorem ok_q15:Ok Tryz.prog tab Γ_q15:=(((ok_nil.c hg_q144 sound_q144).c hg_q13 sound_q13).c hg_q11 sound_q11)
noncomputable def q15_0_L0:List It:=[.inLoop [8,7,4,0,1] (cSub fn_q15 [1,0,1,0,0]),.inBlock 0,.code (cSub fn_q15 [1,1])]
def q15_0_S0 (x0 x1 x2:Int) (x3:List Int):St:=⟨[(8,.one (dI x0)),(7,.one (dI x1)),(4,.one (dI x2)),(0,.one (dL x3)),(1,.one (.fn n_q11 []))],[],0⟩
theorem q15_0_vc (l:List Int) (rec:RK) (K:KK):segD Γ_q15 tab fn_q15 0 K rec [.code (bodyOf fn_q15)] (initSt [.one (dL l),.one (.fn n_q11 [])] [])=(
 rec q15_0_L0 (q15_0_S0 0 (len l:Int) 0 l)):=by kernel_rfl
theorem q15_0_vc0 (x0 x1 x2:Int) (x3:List Int) (rec:RK) (K:KK) v0 (hv0:v0=okWord (nth x3 (Int.toNat x0) (Ty.dflt Ty.int))):segD Γ_q15 tab fn_q15 0 K rec (ent q15_0_L0) (q15_0_S0 x0 x1 x2 x3)=(
 br (lti x0 x1)
 (((0:Int)≤x0∧x0<(len x3:Int)) ∧
 br (!v0)
 (K (.one (dI x0)) [])
 (rec q15_0_L0 (q15_0_S0 (w64 (x0+1)) x1 x2 x3)))
 (K (.one (dI (-1))) [])):=by subst_vars; kernel_rfl

noncomputable def q15_1_L0:List It:=[.inLoop [8,7,4,0,1] (cSub fn_q15 [1,0,1,0,0]),.inBlock 0,.code (cSub fn_q15 [1,1])]
def q15_1_S0 (x0 x1 x2:Int) (x3:List Int):St:=⟨[(8,.one (dI x0)),(7,.one (dI x1)),(4,.one (dI x2)),(0,.one (dL x3)),(1,.one (.fn n_q13 []))],[],0⟩
theorem q15_1_vc (l:List Int) (rec:RK) (K:KK):segD Γ_q15 tab fn_q15 0 K rec [.code (bodyOf fn_q15)] (initSt [.one (dL l),.one (.fn n_q13 [])] [])=(
 rec q15_1_L0 (q15_1_S0 0 (len l:Int) 0 l)):=by kernel_rfl
theorem q15_1_vc0 (x0 x1 x2:Int) (x3:List Int) (rec:RK) (K:KK) v0 (hv0:v0=okWord (nth x3 (Int.toNat x0) (Ty.dflt Ty.int))):segD Γ_q15 tab fn_q15 0 K rec (ent q15_1_L0) (q15_1_S0 x0 x1 x2 x3)=(
 br (lti x0 x1)
 (((0:Int)≤x0∧x0<(len x3:Int)) ∧
 br (!v0)
 (K (.one (dI x0)) [])
 (rec q15_1_L0 (q15_1_S0 (w64 (x0+1)) x1 x2 x3)))
 (K (.one (dI (-1))) [])):=by subst_vars; kernel_rfl

noncomputable def q15_2_L0:List It:=[.inLoop [8,7,4,0,1] (cSub fn_q15 [1,0,1,0,0]),.inBlock 0,.code (cSub fn_q15 [1,1])]
def q15_2_S0 (x0 x1 x2:Int) (x3:List Int):St:=⟨[(8,.one (dI x0)),(7,.one (dI x1)),(4,.one (dI x2)),(0,.one (dL x3)),(1,.one (.fn n_q144 []))],[],0⟩
theorem q15_2_vc (l:List Int) (rec:RK) (K:KK):segD Γ_q15 tab fn_q15 0 K rec [.code (bodyOf fn_q15)] (initSt [.one (dL l),.one (.fn n_q144 [])] [])=(
 rec q15_2_L0 (q15_2_S0 0 (len l:Int) 0 l)):=by kernel_rfl
theorem q15_2_vc0 (x0 x1 x2:Int) (x3:List Int) (rec:RK) (K:KK) v0 (hv0:v0=okWord (nth x3 (Int.toNat x0) (Ty.dflt Ty.int))):segD Γ_q15 tab fn_q15 0 K rec (ent q15_2_L0) (q15_2_S0 x0 x1 x2 x3)=(
 br (lti x0 x1)
 (((0:Int)≤x0∧x0<(len x3:Int)) ∧
 br (!v0)
 (K (.one (dI x0)) [])
 (rec q15_2_L0 (q15_2_S0 (w64 (x0+1)) x1 x2 x3)))
 (K (.one (dI (-1))) [])):=by subst_vars; kernel_rfl

theorem loop_q15_0 (l:List Int) (hs:Sm l) (K:KK):∀ (d k:Nat),k+d=l.length→K (.one (dI (firstBadFrom k (l.drop k)))) [] →
  goD Γ_q15 tab fn_q15 0 K (d+1) q15_0_L0 (q15_0_S0 (k:Int) (((len l):Nat):Int) 0 l)
 | 0,k,hk,hK=>by
  rw [goD_in (L:=q15_0_L0),q15_0_vc0 _ _ _ _ _ _ _ rfl]
  refine lt_f (by simp only [len]; omega) ?_
  rw [List.drop_of_length_le (by omega)] at hK
  exact hK
 | d+1,k,hk,hK=>by
  have hs':=hs
  unfold Sm at hs'
  rw [goD_in (L:=q15_0_L0),q15_0_vc0 _ _ _ _ _ _ _ rfl]
  rw [drop_step (by omega) (Ty.dflt Ty.int)] at hK
  simp only [firstBadFrom] at hK
  refine lt_t (by simp only [len]; omega) ⟨⟨by omega,by simp only [len]; omega⟩,nt_s (fun h=>?_) (fun h=>?_)⟩
  ·rw [toNat_nat] at h
   rw [if_neg (by rw [h]; simp)] at hK
   exact hK
  ·rw [toNat_nat] at h
   rw [if_pos h] at hK
   rw [w64_succ (by omega)]
   exact loop_q15_0 l hs K d (k+1) (by omega) hK
theorem run_q15_0 (hp:Sm l) (K:KK) (hK:K (.one (dI (firstBad l))) []):GD Γ_q15 fn_q15 0 K [.one (dL l),.one (.fn n_q11 [])] []:=by
 refine ⟨l.length+2,?_⟩
 rw [goD_code,q15_0_vc _ _ _]
 exact loop_q15_0 l hp K l.length 0 (by omega) hK
theorem loop_q15_1 (l:List Int) (hs:Sm l) (K:KK):∀ (d k:Nat),k+d=l.length→K (.one (dI (firstBadFrom k (l.drop k)))) [] →
  goD Γ_q15 tab fn_q15 0 K (d+1) q15_1_L0 (q15_1_S0 (k:Int) (((len l):Nat):Int) 0 l)
 | 0,k,hk,hK=>by
  rw [goD_in (L:=q15_1_L0),q15_1_vc0 _ _ _ _ _ _ _ rfl]
  refine lt_f (by simp only [len]; omega) ?_
  rw [List.drop_of_length_le (by omega)] at hK
  exact hK
 | d+1,k,hk,hK=>by
  have hs':=hs
  unfold Sm at hs'
  rw [goD_in (L:=q15_1_L0),q15_1_vc0 _ _ _ _ _ _ _ rfl]
  rw [drop_step (by omega) (Ty.dflt Ty.int)] at hK
  simp only [firstBadFrom] at hK
  refine lt_t (by simp only [len]; omega) ⟨⟨by omega,by simp only [len]; omega⟩,nt_s (fun h=>?_) (fun h=>?_)⟩
  ·rw [toNat_nat] at h
   rw [if_neg (by rw [h]; simp)] at hK
   exact hK
  ·rw [toNat_nat] at h
   rw [if_pos h] at hK
   rw [w64_succ (by omega)]
   exact loop_q15_1 l hs K d (k+1) (by omega) hK
theorem run_q15_1 (hp:Sm l) (K:KK) (hK:K (.one (dI (firstBad l))) []):GD Γ_q15 fn_q15 0 K [.one (dL l),.one (.fn n_q13 [])] []:=by
 refine ⟨l.length+2,?_⟩
 rw [goD_code,q15_1_vc _ _ _]
 exact loop_q15_1 l hp K l.length 0 (by omega) hK
theorem loop_q15_2 (l:List Int) (hs:Sm l) (K:KK):∀ (d k:Nat),k+d=l.length→K (.one (dI (firstBadFrom k (l.drop k)))) [] →
  goD Γ_q15 tab fn_q15 0 K (d+1) q15_2_L0 (q15_2_S0 (k:Int) (((len l):Nat):Int) 0 l)
 | 0,k,hk,hK=>by
  rw [goD_in (L:=q15_2_L0),q15_2_vc0 _ _ _ _ _ _ _ rfl]
  refine lt_f (by simp only [len]; omega) ?_
  rw [List.drop_of_length_le (by omega)] at hK
  exact hK
 | d+1,k,hk,hK=>by
  have hs':=hs
  unfold Sm at hs'
  rw [goD_in (L:=q15_2_L0),q15_2_vc0 _ _ _ _ _ _ _ rfl]
  rw [drop_step (by omega) (Ty.dflt Ty.int)] at hK
  simp only [firstBadFrom] at hK
  refine lt_t (by simp only [len]; omega) ⟨⟨by omega,by simp only [len]; omega⟩,nt_s (fun h=>?_) (fun h=>?_)⟩
  ·rw [toNat_nat] at h
   rw [if_neg (by rw [h]; simp)] at hK
   exact hK
  ·rw [toNat_nat] at h
   rw [if_pos h] at hK
   rw [w64_succ (by omega)]
   exact loop_q15_2 l hs K d (k+1) (by omega) hK
theorem run_q15_2 (hp:Sm l) (K:KK) (hK:K (.one (dI (firstBad l))) []):GD Γ_q15 fn_q15 0 K [.one (dL l),.one (.fn n_q144 [])] []:=by
 refine ⟨l.length+2,?_⟩
 rw [goD_code,q15_2_vc _ _ _]
 exact loop_q15_2 l hp K l.length 0 (by omega) hK
theorem sound_q15:SoundC Tryz.prog tab n_q15 c_q15:=soundC_f ok_q15 hg_q15 (by
 intro vs bs p v bs' h hp
 unfold c_q15 at h
 split at h
 ·split at h
  ·rename_i hfn
   have hfn:=Nat.eq_of_beq_eq_true hfn
   subst hfn
   cases h
   exact ⟨by kernel_rfl,rfl,.inl (run_q15_0 _ hp.1 _ ⟨rfl,rfl⟩)⟩
  ·split at h
   ·rename_i hfn
    have hfn:=Nat.eq_of_beq_eq_true hfn
    subst hfn
    cases h
    exact ⟨by kernel_rfl,rfl,.inl (run_q15_1 _ hp.1 _ ⟨rfl,rfl⟩)⟩
   ·split at h
    ·rename_i hfn
     have hfn:=Nat.eq_of_beq_eq_true hfn
     subst hfn
     cases h
     exact ⟨by kernel_rfl,rfl,.inl (run_q15_2 _ hp.1 _ ⟨rfl,rfl⟩)⟩
    ·cases h
 ·cases h)

def c_q17:Contract:=fun vs bs=>match vs,bs with
 | [.one (.dat (.list .int) l),.one (.fn f [])],[]=>(match Nat.beq f n_q11 with | true=>some (some (Sm l),.one (dB (!okWords l)),[]) | false=>(match Nat.beq f n_q13 with | true=>some (some (Sm l),.one (dB (!okWords l)),[]) | false=>(match Nat.beq f n_q144 with | true=>some (some (Sm l),.one (dB (!okWords l)),[]) | false=>none)))
 | _,_=>none
def Γ_q17:Ctx:=[(n_q15,c_q15),(n_q11,c_q11),(n_q13,c_q13),(n_q144,c_q144)]
theorem ok_q17:Ok Tryz.prog tab Γ_q17:=((((ok_nil.c hg_q144 sound_q144).c hg_q13 sound_q13).c hg_q11 sound_q11).c hg_q15 sound_q15)
theorem q17_0_vc (l:List Int) (rec:RK) (K:KK) v0 (hv0:v0=firstBad l):segD Γ_q17 tab fn_q17 0 K rec [.code (bodyOf fn_q17)] (initSt [.one (dL l),.one (.fn n_q11 [])] [])=(
 List.length l≤140737488355328 ∧
 K (.one (dB (lei 0 v0))) []):=by subst_vars; kernel_rfl

theorem q17_1_vc (l:List Int) (rec:RK) (K:KK) v0 (hv0:v0=firstBad l):segD Γ_q17 tab fn_q17 0 K rec [.code (bodyOf fn_q17)] (initSt [.one (dL l),.one (.fn n_q13 [])] [])=(
 List.length l≤140737488355328 ∧
 K (.one (dB (lei 0 v0))) []):=by subst_vars; kernel_rfl

theorem q17_2_vc (l:List Int) (rec:RK) (K:KK) v0 (hv0:v0=firstBad l):segD Γ_q17 tab fn_q17 0 K rec [.code (bodyOf fn_q17)] (initSt [.one (dL l),.one (.fn n_q144 [])] [])=(
 List.length l≤140737488355328 ∧
 K (.one (dB (lei 0 v0))) []):=by subst_vars; kernel_rfl

theorem firstBad_slices_ContainsFunc_Lint:∀ (l:List Int) (k:Int),0≤k→lei 0 (firstBadFrom k l)=!okWords l
 | [],k,hk=>by simp [firstBadFrom,okWords,lei]
 | w::l,k,hk=>by
  simp only [firstBadFrom,okWords,List.all_cons]
  cases h:okWord w with
  | true=>simpa [okWords] using firstBad_slices_ContainsFunc_Lint l (k+1) (by omega)
  | false=>simp [lei,hk]
theorem run_q17_0 (hp:Sm l) (K:KK) (hK:K (.one (dB (!okWords l))) []):GD Γ_q17 fn_q17 0 K [.one (dL l),.one (.fn n_q11 [])] []:=by
 refine ⟨1,?_⟩
 rw [goD_code,q17_0_vc _ _ _ _ rfl]
 refine ⟨hp,?_⟩
 rw [show lei 0 (firstBad l)=!okWords l from firstBad_slices_ContainsFunc_Lint l 0 (by omega)]
 exact hK
theorem run_q17_1 (hp:Sm l) (K:KK) (hK:K (.one (dB (!okWords l))) []):GD Γ_q17 fn_q17 0 K [.one (dL l),.one (.fn n_q13 [])] []:=by
 refine ⟨1,?_⟩
 rw [goD_code,q17_1_vc _ _ _ _ rfl]
 refine ⟨hp,?_⟩
 rw [show lei 0 (firstBad l)=!okWords l from firstBad_slices_ContainsFunc_Lint l 0 (by omega)]
 exact hK
theorem run_q17_2 (hp:Sm l) (K:KK) (hK:K (.one (dB (!okWords l))) []):GD Γ_q17 fn_q17 0 K [.one (dL l),.one (.fn n_q144 [])] []:=by
 refine ⟨1,?_⟩
 rw [goD_code,q17_2_vc _ _ _ _ rfl]
 refine ⟨hp,?_⟩
 rw [show lei 0 (firstBad l)=!okWords l from firstBad_slices_ContainsFunc_Lint l 0 (by omega)]
 exact hK
theorem sound_q17:SoundC Tryz.prog tab n_q17 c_q17:=soundC_f ok_q17 hg_q17 (by
 intro vs bs p v bs' h hp
 unfold c_q17 at h
 split at h
 ·split at h
  ·rename_i hfn
   have hfn:=Nat.eq_of_beq_eq_true hfn
   subst hfn
   cases h
   exact ⟨by kernel_rfl,rfl,.inl (run_q17_0 _ hp.1 _ ⟨rfl,rfl⟩)⟩
  ·split at h
   ·rename_i hfn
    have hfn:=Nat.eq_of_beq_eq_true hfn
    subst hfn
    cases h
    exact ⟨by kernel_rfl,rfl,.inl (run_q17_1 _ hp.1 _ ⟨rfl,rfl⟩)⟩
   ·split at h
    ·rename_i hfn
     have hfn:=Nat.eq_of_beq_eq_true hfn
     subst hfn
     cases h
     exact ⟨by kernel_rfl,rfl,.inl (run_q17_2 _ hp.1 _ ⟨rfl,rfl⟩)⟩
    ·cases h
 ·cases h)

def c_q19:Contract:=fun vs bs=>match vs,bs with
 | [.one (.dat (.list .int) l)],[]=>some (some (Sm l),.one (dB (okWords l)),[])
 | _,_=>none
def Γ_q19:Ctx:=[(n_q17,c_q17),(n_q13,c_q13)]
theorem ok_q19:Ok Tryz.prog tab Γ_q19:=((ok_nil.c hg_q13 sound_q13).c hg_q17 sound_q17)
theorem q19_vc (l:List Int) (rec:RK) (K:KK) v0 (hv0:v0=okWords l):segD Γ_q19 tab fn_q19 0 K rec [.code (bodyOf fn_q19)] (initSt [.one (dL l)] [])=(
 List.length l≤140737488355328 ∧
 K (.one (dB (!(!v0)))) []):=by subst_vars; kernel_rfl

theorem run_q19 (hp:Sm l) (K:KK) (hK:K (.one (dB (okWords l))) []):GD Γ_q19 fn_q19 0 K [.one (dL l)] []:=by
 refine ⟨1,?_⟩
 rw [goD_code,q19_vc _ _ _ _ rfl]
 refine ⟨hp,?_⟩
 rw [Bool.not_not]
 exact hK
theorem sound_q19:SoundC Tryz.prog tab n_q19 c_q19:=soundC_f ok_q19 hg_q19 (by
 intro vs bs p v bs' h hp
 unfold c_q19 at h
 split at h
 ·cases h
  exact ⟨by kernel_rfl,rfl,.inl (run_q19 _ hp.1 _ ⟨rfl,rfl⟩)⟩
 ·cases h)

def c_q33:Contract:=fun vs bs=>match vs,bs with
 | [.agg [.dat (.list .int) ws,.dat .int fu]],[]=>some (some (Sm ws),.one (dI (checkFlash ⟨ws,fu⟩)),[])
 | _,_=>none
def Γ_q33:Ctx:=[(n_q19,c_q19)]
theorem ok_q33:Ok Tryz.prog tab Γ_q33:=(ok_nil.c hg_q19 sound_q19)
theorem q33_vc (ws:List Int) (fu:Int) (rec:RK) (K:KK) v0 (hv0:v0=okWords ws) v1 (hv1:v1=br (lti fu (-1))
 (K (.one (dI 3)) [])
 (br (lti 100000 fu)
 (K (.one (dI 3)) [])
 (List.length ws≤140737488355328 ∧
 br (!v0)
 (K (.one (dI 3)) [])
 (K (.one (dI 0)) [])))):segD Γ_q33 tab fn_q33 0 K rec [.code (bodyOf fn_q33)] (initSt [.agg [dL ws,dI fu]] [])=(
 br (!(eqi (len ws:Int) 32))
 (br (!(eqi (len ws:Int) 64))
 (br (!(eqi (len ws:Int) 96))
 (br (!(eqi (len ws:Int) 128))
 (br (!(eqi (len ws:Int) 160))
 (br (!(eqi (len ws:Int) 192))
 (K (.one (dI 4)) [])
 v1)
 v1)
 v1)
 v1)
 v1)
 v1):=by subst_vars; kernel_rfl

theorem run_q33 (hp:Sm ws) (K:KK) (hK:K (.one (dI (checkFlash ⟨ws,fu⟩))) []):GD Γ_q33 fn_q33 0 K [.agg [dL ws,dI fu]] []:=by
 refine ⟨1,?_⟩
 rw [goD_code,q33_vc _ _ _ _ _ rfl _ rfl]
 have good:okLen ws.length=true→br (lti fu (-(1:Int))) (K (.one (dI (3:Int))) []) (br (lti (100000:Int) fu) (K (.one (dI (3:Int))) []) (((List.length ws)≤140737488355328)∧(br (!(okWords ws)) (K (.one (dI (3:Int))) []) (K (.one (dI (0:Int))) [])))):=fun hl=>by
  have three:(decide (-1≤fu) && decide (fu≤100000) && okWords ws)=false→K (.one (dI 3)) []:=fun h=>by
   rw [show checkFlash ⟨ws,fu⟩=3 from by simp [checkFlash,hl,h]] at hK; exact hK
  refine lt_s (fun h=>three (by simp; omega)) (fun h=>lt_s (fun h2=>three (by simp; omega)) (fun h2=>⟨hp,nt_s (fun h3=>three (by simp [h3])) (fun h3=>?_)⟩))
  rw [show checkFlash ⟨ws,fu⟩=0 from checkFlash_mk hl h h2 h3] at hK; exact hK
 simp only [len]
 refine ne_s (fun h1=>ne_s (fun h2=>ne_s (fun h3=>ne_s (fun h4=>ne_s (fun h5=>ne_s (fun h6=>?_) (fun h=>good ?_)) (fun h=>good ?_)) (fun h=>good ?_)) (fun h=>good ?_)) (fun h=>good ?_)) (fun h=>good ?_)
 ·rw [show checkFlash ⟨ws,fu⟩=4 from by
   have:okLen ws.length=false:=by simp [okLen]; omega
   simp [checkFlash,this]] at hK
  exact hK
 all_goals (simp [okLen]; omega)
theorem sound_q33:SoundC Tryz.prog tab n_q33 c_q33:=soundC_f ok_q33 hg_q33 (by
 intro vs bs p v bs' h hp
 unfold c_q33 at h
 split at h
 ·cases h
  exact ⟨by kernel_rfl,rfl,.inl (run_q33 _ _ hp.1 _ ⟨rfl,rfl⟩)⟩
 ·cases h)

def c_q76:Contract:=fun vs bs=>match vs,bs with
 | [.agg [.dat (.list .int) ws,.dat .int _],.one (.dat .int sector)],[]=>some (some (0≤sector∧sector≤1∧64≤len ws),.one (dI (genOf ws sector.toNat)),[])
 | _,_=>none
def Γ_q76:Ctx:=[]
theorem ok_q76:Ok Tryz.prog tab Γ_q76:=ok_nil
theorem q76_vc (ws:List Int) (fu sector:Int) (rec:RK) (K:KK):segD Γ_q76 tab fn_q76 0 K rec [.code (bodyOf fn_q76)] (initSt [.agg [dL ws,dI fu],.one (dI sector)] [])=(
 ((0:Int)≤w64 ((32:Int)*sector)∧w64 ((32:Int)*sector)<(len ws:Int)) ∧
 br (!(eqi (nth ws (Int.toNat (w64 ((32:Int)*sector))) (Ty.dflt Ty.int)) 65535))
 (K (.one (dI (nth ws (Int.toNat (w64 ((32:Int)*sector))) (Ty.dflt Ty.int)))) [])
 (K (.one (dI 0)) [])):=by kernel_rfl

theorem run_q76 (hp:0≤sector∧sector≤1∧64≤len ws) (K:KK) (hK:K (.one (dI (genOf ws sector.toNat))) []):GD Γ_q76 fn_q76 0 K [.agg [dL ws,dI fu],.one (dI sector)] []:=by
 obtain ⟨h0,h1,h2⟩:=hp
 obtain ⟨s,rfl⟩:=Int.eq_ofNat_of_zero_le h0
 refine ⟨1,?_⟩
 rw [goD_code,q76_vc _ _ _ _ _,w64_id (n:=32*(s:Int)) (by omega) (by omega),show Int.toNat (32*(s:Int))=32*s by omega]
 rw [toNat_nat] at hK
 unfold genOf at hK
 have e:nth ws (32*s) (Ty.dflt Ty.int)=ws.getD (32*s) 0:=rfl
 rw [e]
 refine ⟨⟨by omega,by omega⟩,ne_s (fun h=>?_) (fun h=>?_)⟩
 ·rw [if_neg h] at hK; exact hK
 ·rw [if_pos h] at hK; exact hK
theorem sound_q76:SoundC Tryz.prog tab n_q76 c_q76:=soundC_f ok_q76 hg_q76 (by
 intro vs bs p v bs' h hp
 unfold c_q76 at h
 split at h
 ·cases h
  exact ⟨by kernel_rfl,rfl,.inl (run_q76 _ _ _ hp.1 _ ⟨rfl,rfl⟩)⟩
 ·cases h)

def c_q77:Contract:=fun vs bs=>match vs,bs with
 | [.agg [.dat (.list .int) ws,.dat .int _]],[]=>some (some (64≤len ws),.tup [.one (dI (liveS ws)),.one (dI (liveG ws))],[])
 | _,_=>none
def Γ_q77:Ctx:=[(n_q76,c_q76)]
theorem ok_q77:Ok Tryz.prog tab Γ_q77:=(ok_nil.c hg_q76 sound_q76)
theorem q77_vc (ws:List Int) (fu:Int) (rec:RK) (K:KK) v0 (hv0:v0=genOf ws (Int.toNat 1)) v1 (hv1:v1=genOf ws (Int.toNat 0)):segD Γ_q77 tab fn_q77 0 K rec [.code (bodyOf fn_q77)] (initSt [.agg [dL ws,dI fu]] [])=(
 ((0:Int)≤(0:Int)∧(0:Int)≤(1:Int)∧64≤len ws) ∧
 ((0:Int)≤(1:Int)∧(1:Int)≤(1:Int)∧64≤len ws) ∧
 br (lei v0 v1)
 (K (.tup [.one (dI 0),.one (dI v1)]) [])
 (K (.tup [.one (dI 1),.one (dI v0)]) [])):=by subst_vars; kernel_rfl

theorem run_q77 (hp:64≤len ws) (K:KK) (hK:K (.tup [.one (dI (liveS ws)),.one (dI (liveG ws))]) []):GD Γ_q77 fn_q77 0 K [.agg [dL ws,dI fu]] []:=by
 refine ⟨1,?_⟩
 rw [goD_code,q77_vc _ _ _ _ _ rfl _ rfl]
 have e0:genOf ws (Int.toNat (0:Int))=genOf ws 0:=rfl
 have e1:genOf ws (Int.toNat (1:Int))=genOf ws 1:=rfl
 rw [e0,e1]
 unfold liveG liveS at hK
 refine ⟨⟨by omega,by omega,hp⟩,⟨by omega,by omega,hp⟩,br_split (fun h=>?_) (fun h=>?_)⟩
 ·rw [lei_true] at h
  rw [if_neg (by omega)] at hK; exact hK
 ·rw [lei_false] at h
  rw [if_pos h] at hK; exact hK
theorem sound_q77:SoundC Tryz.prog tab n_q77 c_q77:=soundC_f ok_q77 hg_q77 (by
 intro vs bs p v bs' h hp
 unfold c_q77 at h
 split at h
 ·cases h
  exact ⟨by kernel_rfl,rfl,.inl (run_q77 _ _ hp.1 _ ⟨rfl,rfl⟩)⟩
 ·cases h)

def c_q78:Contract:=fun vs bs=>match vs,bs with
 | [.agg [.dat (.list .int) ws,.dat .int fu]],[]=>some (some (Sm ws),.one (dI (checkLog ⟨ws,fu⟩)),[])
 | _,_=>none
def Γ_q78:Ctx:=[(n_q33,c_q33),(n_q77,c_q77)]
theorem ok_q78:Ok Tryz.prog tab Γ_q78:=((ok_nil.c hg_q77 sound_q77).c hg_q33 sound_q33)
theorem q78_vc (ws:List Int) (fu:Int) (rec:RK) (K:KK) v0 (hv0:v0=checkFlash (⟨ws,fu⟩:Flash)) v1 (hv1:v1=liveG ws):segD Γ_q78 tab fn_q78 0 K rec [.code (bodyOf fn_q78)] (initSt [.agg [dL ws,dI fu]] [])=(
 List.length ws≤140737488355328 ∧
 br (!(eqi v0 0))
 (K (.one (dI v0)) [])
 (br (eqi (len ws:Int) 32)
 (K (.one (dI 4)) [])
 (64≤len ws ∧
 br (eqi v1 0)
 (K (.one (dI 5)) [])
 (br (lti 60000 v1)
 (K (.one (dI 5)) [])
 (K (.one (dI 0)) []))))):=by subst_vars; kernel_rfl

theorem run_q78 (hp:Sm ws) (K:KK) (hK:K (.one (dI (checkLog ⟨ws,fu⟩))) []):GD Γ_q78 fn_q78 0 K [.agg [dL ws,dI fu]] []:=by
 refine ⟨1,?_⟩
 rw [goD_code,q78_vc _ _ _ _ _ rfl _ rfl]
 unfold checkLog at hK
 refine ⟨hp,ne_s (fun h=>?_) (fun h=>?_)⟩
 ·rw [if_neg h] at hK; exact hK
 rw [if_pos h] at hK
 obtain ⟨c1,_,_,c4⟩:=checkFlash_ok h
 simp only at c1 c4 hK
 have hn:ws.length=32∨64≤ws.length:=by simp [okLen] at c1; omega
 have gr:=genOf_range c4 (liveS ws)
 have gg:liveG ws=genOf ws (liveS ws):=rfl
 refine eq_s (fun h2=>?_) (fun h2=>?_)
 ·rw [if_neg (by simp only [len] at h2; omega)] at hK; exact hK
 have h64:64≤ws.length:=by simp only [len] at h2; omega
 rw [if_pos h64] at hK
 refine ⟨h64,eq_s (fun h3=>?_) (fun h3=>lt_s (fun h4=>?_) (fun h4=>?_))⟩
 ·rw [if_neg (by omega)] at hK; exact hK
 ·rw [if_neg (by omega)] at hK; exact hK
 ·rw [if_pos (by omega)] at hK; exact hK
theorem sound_q78:SoundC Tryz.prog tab n_q78 c_q78:=soundC_f ok_q78 hg_q78 (by
 intro vs bs p v bs' h hp
 unfold c_q78 at h
 split at h
 ·cases h
  exact ⟨by kernel_rfl,rfl,.inl (run_q78 _ _ hp.1 _ ⟨rfl,rfl⟩)⟩
 ·cases h)

def c_q102:Contract:=fun vs bs=>match vs,bs with
 | [.agg [.dat .int v,.dat (.list .int) ks,.dat .int t]],[]=>some (none,.one (dI (checkRoot v ks t)),[])
 | _,_=>none
def Γ_q102:Ctx:=[]
theorem ok_q102:Ok Tryz.prog tab Γ_q102:=ok_nil
noncomputable def q102_L0:List It:=[.inLoop [27,26,25,4,2,1] (cSub fn_q102 [1,1,1,1,0,1,0,0]),.inBlock 0,.code (cSub fn_q102 [1,1,1,1,1])]
def q102_S0 (x0 x1:Int) (x2:List Int) (x3 x4 x5:Int) (x6:List Int) (x7:Int):St:=⟨[(27,.one (dI x0)),(26,.one (dI x1)),(25,.one (dL x2)),(4,.one (dI x3)),(2,.one (dI x4)),(1,.one (.ptr 0 0))],[(0,.box [dI x5,dL x6,dI x7])],1⟩
theorem q102_vc (v:Int) (ks:List Int) (t:Int) (rec:RK) (K:KK):segD Γ_q102 tab fn_q102 0 K rec [.code (bodyOf fn_q102)] (initSt [.agg [dI v,dL ks,dI t]] [])=(
 br (lti v 1)
 (K (.one (dI 3)) [])
 (br (lti 1000 v)
 (K (.one (dI 3)) [])
 (br (lti (len ks:Int) 1)
 (K (.one (dI 2)) [])
 (br (lti 6 (len ks:Int))
 (K (.one (dI 2)) [])
 (rec q102_L0 (q102_S0 0 (len ks:Int) ks 0 0 v ks t)))))):=by kernel_rfl
theorem q102_vc0 (x0 x1:Int) (x2:List Int) (x3 x4 x5:Int) (x6:List Int) (x7:Int) (rec:RK) (K:KK) v0 (hv0:v0=rec q102_L0 (q102_S0 (w64 (x0+1)) x1 x2 (nth x2 (Int.toNat x0) (Ty.dflt Ty.int)) x4 x5 x6 x7)):segD Γ_q102 tab fn_q102 0 K rec (ent q102_L0) (q102_S0 x0 x1 x2 x3 x4 x5 x6 x7)=(
 br (lti x0 x1)
 (((0:Int)≤x0∧x0<(len x2:Int)) ∧
 br (lti (nth x2 (Int.toNat x0) (Ty.dflt Ty.int)) 1)
 (K (.one (dI 3)) [])
 (br (lti 50 (nth x2 (Int.toNat x0) (Ty.dflt Ty.int)))
 (K (.one (dI 3)) [])
 (br (lti 0 x0)
 (br (lei (nth x2 (Int.toNat x0) (Ty.dflt Ty.int)) x3)
 (K (.one (dI 6)) [])
 v0)
 v0)))
 (br (lti x7 1)
 (K (.one (dI 4)) [])
 (br (lti (len x6:Int) x7)
 (K (.one (dI 4)) [])
 (K (.one (dI 0)) [])))):=by subst_vars; kernel_rfl

theorem loop_q102 (ks:List Int) (v t:Int) (hl:ks.length≤6) (K:KK):∀ (d k:Nat) (last:Option Int) (x3:Int),k+d=ks.length→((k=0∧last=none)∨(0<k∧last=some x3)) →
  K (.one (dI (rootEnd (keysFrom last (ks.drop k)) t ks.length))) [] →
  goD Γ_q102 tab fn_q102 0 K (d+1) q102_L0 (q102_S0 (k:Int) (((len ks):Nat):Int) ks x3 0 v ks t)
 | 0,k,last,x3,hk,hla,hK=>by
  rw [goD_in (L:=q102_L0),q102_vc0 _ _ _ _ _ _ _ _ _ _ _ rfl]
  rw [List.drop_of_length_le (by omega)] at hK
  rw [show rootEnd (keysFrom last []) t ks.length=if t<1∨(ks.length:Int)<t then 4 else 0 from rfl] at hK
  refine lt_f (by simp only [len]; omega) (lt_s (fun h=>?_) (fun h=>lt_s (fun h2=>?_) (fun h2=>?_)))
  ·rw [if_pos (.inl h)] at hK; exact hK
  ·rw [if_pos (.inr h2)] at hK; exact hK
  ·rw [if_neg (by simp only [len] at h2; omega)] at hK; exact hK
 | d+1,k,last,x3,hk,hla,hK=>by
  rw [goD_in (L:=q102_L0),q102_vc0 _ _ _ _ _ _ _ _ _ _ _ rfl,toNat_nat]
  rw [drop_step (by omega) (Ty.dflt Ty.int)] at hK
  obtain ⟨x,hx⟩:∃ x,nth ks k (Ty.dflt Ty.int)=x:=⟨_,rfl⟩
  rw [hx] at hK ⊢
  have ek:w64 ((k:Int)+1)=((k+1:Nat):Int):=w64_succ (by omega)
  rw [ek]
  refine lt_t (by simp only [len]; omega) ⟨⟨by omega,by simp only [len]; omega⟩,lt_s (fun h=>?_) (fun h=>lt_s (fun h2=>?_) (fun h2=>?_))⟩
  ·rw [show keysFrom last (x::ks.drop (k+1))=3 from if_pos (.inl h)] at hK; exact hK
  ·rw [show keysFrom last (x::ks.drop (k+1))=3 from if_pos (.inr h2)] at hK; exact hK
  ·rw [show keysFrom last (x::ks.drop (k+1))=if notBehind last x then 6 else keysFrom (some x) (ks.drop (k+1)) from if_neg (by omega)] at hK
   refine lt_s (fun h3=>?_) (fun h3=>?_)
   ·obtain ⟨_,rfl⟩:=hla.resolve_left (fun g=>by omega)
    refine br_split (fun h4=>?_) (fun h4=>?_)
    ·rw [lei_true] at h4
     rw [if_pos (show notBehind (some x3) x=true from decide_eq_true h4)] at hK; exact hK
    ·rw [lei_false] at h4
     rw [if_neg (show ¬ notBehind (some x3) x=true from by simp only [notBehind,decide_eq_true_eq]; omega)] at hK
     exact loop_q102 ks v t hl K d (k+1) (some x) x (by omega) (.inr ⟨by omega,rfl⟩) hK
   ·obtain ⟨_,rfl⟩:=hla.resolve_right (fun g=>by omega)
    rw [if_neg (show ¬ notBehind none x=true from by simp [notBehind])] at hK
    exact loop_q102 ks v t hl K d (k+1) (some x) x (by omega) (.inr ⟨by omega,rfl⟩) hK
theorem run_q102 (K:KK) (hK:K (.one (dI (checkRoot v ks t))) []):GD Γ_q102 fn_q102 0 K [.agg [dI v,dL ks,dI t]] []:=by
 refine ⟨ks.length+2,?_⟩
 rw [goD_code,q102_vc _ _ _ _ _]
 unfold checkRoot at hK
 refine lt_s (fun h=>?_) (fun h=>lt_s (fun h2=>?_) (fun h2=>lt_s (fun h3=>?_) (fun h3=>lt_s (fun h4=>?_) (fun h4=>?_))))
 ·rw [if_pos (.inl h)] at hK; exact hK
 ·rw [if_pos (.inr h2)] at hK; exact hK
 ·rw [if_neg (by omega),if_pos (by simp only [len] at h3; omega)] at hK; exact hK
 ·rw [if_neg (by omega),if_pos (by simp only [len] at h4; omega)] at hK; exact hK
 ·rw [if_neg (by omega),if_neg (by simp only [len] at h3 h4; omega)] at hK
  exact loop_q102 ks v t (by simp only [len] at h4; omega) K ks.length 0 none 0 (by omega) (.inl ⟨rfl,rfl⟩) hK
theorem sound_q102:SoundC Tryz.prog tab n_q102 c_q102:=soundC_f ok_q102 hg_q102 (by
 intro vs bs p v bs' h hp
 unfold c_q102 at h
 split at h
 ·cases h
  exact ⟨by kernel_rfl,rfl,.inl (run_q102 _ _ _ _ ⟨rfl,rfl⟩)⟩
 ·cases h)

def c_q199:Contract:=fun vs bs=>match vs,bs with
 | [.agg [.dat .int v,.dat (.list .int) ks,.dat .int t,.dat .int n]],[]=>some (none,.one (dI (checkTrust ⟨⟨v,ks,t⟩,n⟩)),[])
 | _,_=>none
def Γ_q199:Ctx:=[(n_q102,c_q102)]
theorem ok_q199:Ok Tryz.prog tab Γ_q199:=(ok_nil.c hg_q102 sound_q102)
theorem q199_vc (v:Int) (ks:List Int) (t n:Int) (rec:RK) (K:KK) v0 (hv0:v0=checkRoot v ks t):segD Γ_q199 tab fn_q199 0 K rec [.code (bodyOf fn_q199)] (initSt [.agg [dI v,dL ks,dI t,dI n]] [])=(
 br (lti n 0)
 (K (.one (dI 3)) [])
 (br (lti 1000 n)
 (K (.one (dI 3)) [])
 (K (.one (dI v0)) []))):=by subst_vars; kernel_rfl

theorem run_q199 (K:KK) (hK:K (.one (dI (checkTrust ⟨⟨v,ks,t⟩,n⟩))) []):GD Γ_q199 fn_q199 0 K [.agg [dI v,dL ks,dI t,dI n]] []:=by
 refine ⟨1,?_⟩
 rw [goD_code,q199_vc _ _ _ _ _ _ _ rfl]
 unfold checkTrust at hK
 simp only at hK
 refine lt_s (fun h=>?_) (fun h=>lt_s (fun h2=>?_) (fun h2=>?_))
 ·rw [if_pos (.inl h)] at hK; exact hK
 ·rw [if_pos (.inr h2)] at hK; exact hK
 ·rw [if_neg (by omega)] at hK; exact hK
theorem sound_q199:SoundC Tryz.prog tab n_q199 c_q199:=soundC_f ok_q199 hg_q199 (by
 intro vs bs p v bs' h hp
 unfold c_q199 at h
 split at h
 ·cases h
  exact ⟨by kernel_rfl,rfl,.inl (run_q199 _ _ _ _ _ ⟨rfl,rfl⟩)⟩
 ·cases h)

def c_q208:Contract:=fun vs bs=>match vs,bs with
 | [.agg [.dat (.list .int) ws,.dat .int fu,.dat .bool up,.dat .int tv,.dat (.list .int) tk,.dat .int tt,.dat .int tn,.dat (.list .bool) vo,.dat (.list .bool) di]],[]=>some (some (Sm ws),.one (dI (checkG ⟨⟨ws,fu⟩,up,⟨⟨tv,tk,tt⟩,tn⟩,vo,di⟩)),[])
 | _,_=>none
def Γ_q208:Ctx:=[(n_q78,c_q78),(n_q199,c_q199)]
theorem ok_q208:Ok Tryz.prog tab Γ_q208:=((ok_nil.c hg_q199 sound_q199).c hg_q78 sound_q78)
theorem q208_vc (ws:List Int) (fu:Int) (up:Bool) (tv:Int) (tk:List Int) (tt tn:Int) (vo di:List Bool) (rec:RK) (K:KK) v0 (hv0:v0=checkLog ⟨ws,fu⟩) v1 (hv1:v1=checkTrust ⟨⟨tv,tk,tt⟩,tn⟩):segD Γ_q208 tab fn_q208 0 K rec [.code (bodyOf fn_q208)] (initSt [.agg [dL ws,dI fu,dB up,dI tv,dL tk,dI tt,dI tn,dLb vo,dLb di]] [])=(
 List.length ws≤140737488355328 ∧
 br (!(eqi v0 0))
 (K (.one (dI v0)) [])
 (br (lti (len vo:Int) 1)
 (K (.one (dI 4)) [])
 (br (lti 4 (len vo:Int))
 (K (.one (dI 4)) [])
 (br (!(eqi (len di:Int) (len vo:Int)))
 (K (.one (dI 4)) [])
 (K (.one (dI v1)) []))))):=by subst_vars; kernel_rfl

theorem run_q208 (hp:Sm ws) (K:KK) (hK:K (.one (dI (checkG ⟨⟨ws,fu⟩,up,⟨⟨tv,tk,tt⟩,tn⟩,vo,di⟩))) []):GD Γ_q208 fn_q208 0 K [.agg [dL ws,dI fu,dB up,dI tv,dL tk,dI tt,dI tn,dLb vo,dLb di]] []:=by
 refine ⟨1,?_⟩
 rw [goD_code,q208_vc _ _ _ _ _ _ _ _ _ _ _ _ rfl _ rfl]
 unfold checkG at hK
 simp only at hK
 refine ⟨hp,ne_s (fun h=>?_) (fun h=>lt_s (fun h2=>?_) (fun h2=>lt_s (fun h3=>?_) (fun h3=>ne_s (fun h4=>?_) (fun h4=>?_))))⟩
 ·rw [if_neg h] at hK; exact hK
 all_goals rw [if_pos h] at hK
 ·rw [if_pos (by simp only [len] at h2; omega)] at hK; exact hK
 ·rw [if_pos (by simp only [len] at h3; omega)] at hK; exact hK
 ·rw [if_pos (by simp only [len] at h4; omega)] at hK; exact hK
 ·rw [if_neg (by simp only [len] at h2 h3 h4; omega)] at hK; exact hK
theorem sound_q208:SoundC Tryz.prog tab n_q208 c_q208:=soundC_f ok_q208 hg_q208 (by
 intro vs bs p v bs' h hp
 unfold c_q208 at h
 split at h
 ·cases h
  exact ⟨by kernel_rfl,rfl,.inl (run_q208 _ _ _ _ _ _ _ _ _ hp.1 _ ⟨rfl,rfl⟩)⟩
 ·cases h)

def c_q124:Contract:=fun vs bs=>match vs,bs with
 | [],[]=>some (none,.tup [.agg [.dat (Ty.list Ty.str) simpleB],.one (.dat (Ty.list Ty.signed) simpleL),.agg [dI 1,dL [3],dI 1,dI 0],.agg [.dat (.list .root) [],dR [],dI 1,dI 5,.dat (.list .target) [⟨0,2,2⟩],dL [3],dR [[8,8]]]],[])
 | _,_=>none
def Γ_q124:Ctx:=[]
theorem ok_q124:Ok Tryz.prog tab Γ_q124:=ok_nil
theorem q124_vc (rec:RK) (K:KK):segD Γ_q124 tab fn_q124 0 K rec [.code (bodyOf fn_q124)] (initSt [] [])=(
 K (.tup [.agg [.dat (Ty.list Ty.str) (((105:UInt8)::(109:UInt8)::(97:UInt8)::(103:UInt8)::(101:UInt8)::(32:UInt8)::(55:UInt8)::[])::((105:UInt8)::(109:UInt8)::(97:UInt8)::(103:UInt8)::(101:UInt8)::(32:UInt8)::(56:UInt8)::(32:UInt8)::(56:UInt8)::[])::((114:UInt8)::(101:UInt8)::(108:UInt8)::(101:UInt8)::(97:UInt8)::(115:UInt8)::(101:UInt8)::(32:UInt8)::(49:UInt8)::(32:UInt8)::(117:UInt8)::(110:UInt8)::(116:UInt8)::(105:UInt8)::(108:UInt8)::(32:UInt8)::(53:UInt8)::(59:UInt8)::(32:UInt8)::(48:UInt8)::(32:UInt8)::(50:UInt8)::(32:UInt8)::(50:UInt8)::[])::((114:UInt8)::(111:UInt8)::(111:UInt8)::(116:UInt8)::(32:UInt8)::(50:UInt8)::(32:UInt8)::(49:UInt8)::(32:UInt8)::(111:UInt8)::(102:UInt8)::(32:UInt8)::(52:UInt8)::[])::[])],.one (.dat (Ty.list Ty.signed) ((⟨3,3⟩:Vm.Signed)::(⟨3,4⟩:Vm.Signed)::(⟨4,4⟩:Vm.Signed)::(⟨4,3⟩:Vm.Signed)::[])),.agg [dI (1:Int),dL ((3:Int)::[]),dI (1:Int),dI (0:Int)],.agg [.dat (Ty.list Ty.root) [],dR [],dI (1:Int),dI (5:Int),.dat (Ty.list Ty.target) ((⟨0,2,2⟩:Vm.Target)::[]),dL ((3:Int)::[]),dR (((8:Int)::(8:Int)::[])::[])]]) []):=by kernel_rfl

theorem run_q124 (K:KK) (hK:K (.tup [.agg [.dat (Ty.list Ty.str) simpleB],.one (.dat (Ty.list Ty.signed) simpleL),.agg [dI 1,dL [3],dI 1,dI 0],.agg [.dat (.list .root) [],dR [],dI 1,dI 5,.dat (.list .target) [⟨0,2,2⟩],dL [3],dR [[8,8]]]]) []):GD Γ_q124 fn_q124 0 K [] []:=by
 refine ⟨1,?_⟩
 rw [goD_code,q124_vc _ _]
 exact hK
theorem sound_q124:SoundC Tryz.prog tab n_q124 c_q124:=soundC_f ok_q124 hg_q124 (by
 intro vs bs p v bs' h hp
 unfold c_q124 at h
 split at h
 ·cases h
  exact ⟨by kernel_rfl,rfl,.inl (run_q124  _ ⟨rfl,rfl⟩)⟩
 ·cases h)

def c_q25:Contract:=fun vs bs=>match vs,bs with
 | [.one (.dat (.list .int) [x]),.one (.dat .int n)],[]=>some (some (0≤n∧n≤1000000),.one (dL (zeros n.toNat x)),[])
 | _,_=>none
def Γ_q25:Ctx:=[(n_q24,c_q24)]
theorem ok_q25:Ok Tryz.prog tab Γ_q25:=(ok_nil.c hg_q24 sound_q24)
noncomputable def q25_L0:List It:=[.inLoop [8,7,4] (cSub fn_q25 [1,1,1,1,1,1,0,0,0]),.inBlock 0,.code (cSub fn_q25 [1,1,1,1,1,1,1])]
def q25_S0 (x0:Int) (x1 x2:List Int):St:=⟨[(8,.one (dI x0)),(7,.one (.own 0)),(4,.one (.own 1))],[(0,.arr Ty.int x1),(1,.arr Ty.int x2)],2⟩
theorem q25_vc (x n:Int) (rec:RK) (K:KK) v0 (hv0:v0=u64w (len (x::[]):Int)) v1 (hv1:v1=inU64 v0) v2 (hv2:v2=u64w n) v3 (hv3:v3=inU64 v2):segD Γ_q25 tab fn_q25 0 K rec [.code (bodyOf fn_q25)] (initSt [.one (dL (x::[])),.one (dI n)] [])=(
 br (lti n 0)
 (False)
 ((v1=true∧v3=true) ∧
 br (lti 0 ((v0*v2) / two64))
 (False)
 (br (lti 9223372036854775807 ((v0*v2) % two64))
 (False)
 (((0:Int)≤w64 ((v0*v2) % two64)∧w64 ((v0*v2) % two64)*((8:Nat):Int)≤140737488355328∧w64 ((v0*v2) % two64)≤140737488355328) ∧
 rec q25_L0 (q25_S0 (((min (len (zeros (Int.toNat (w64 ((v0*v2) % two64))) (Ty.dflt Ty.int))) (len (x::[]))):Nat):Int) (put (zeros (Int.toNat (w64 ((v0*v2) % two64))) (Ty.dflt Ty.int)) 0 (slc (x::[]) 0 (min (len (zeros (Int.toNat (w64 ((v0*v2) % two64))) (Ty.dflt Ty.int))) (len (x::[]))))) []))))):=by subst_vars; kernel_rfl
theorem q25_vc0 (x0:Int) (x1 x2:List Int) (rec:RK) (K:KK):segD Γ_q25 tab fn_q25 0 K rec (ent q25_L0) (q25_S0 x0 x1 x2)=(
 br (lti x0 (len x1:Int))
 (((0:Int)≤x0∧x0≤(len x1:Int)∧(len x1:Int)≤(len x1:Int)) ∧
 ((0:Int)≤(0:Int)∧(0:Int)≤x0∧x0≤(len x1:Int)) ∧
 (Int.toNat 0+Int.toNat (x0-0)≤len x1∧Int.toNat x0+Int.toNat ((len x1:Int)-x0)≤len x1) ∧
 rec q25_L0 (q25_S0 (w64 (x0+(((min (Int.toNat ((len x1:Int)-x0)) (len (slc x1 (Int.toNat 0) (Int.toNat 0+Int.toNat (x0-0))))):Nat):Int))) (put x1 (Int.toNat x0) (slc (slc x1 (Int.toNat 0) (Int.toNat 0+Int.toNat (x0-0))) 0 (min (Int.toNat ((len x1:Int)-x0)) (len (slc x1 (Int.toNat 0) (Int.toNat 0+Int.toNat (x0-0))))))) x2))
 (K (.one (dL x1)) [])):=by kernel_rfl

theorem u64w_id {n:Int} (h1:0≤n) (h2:n<18446744073709551616):u64w n=n:=by
 unfold u64w; rw [IntKind.wrap_u64]; omega
theorem inU64_of {n:Int} (h1:0≤n) (h2:n<18446744073709551616):inU64 n=true:=by simp [inU64,h1,h2]
theorem put_rep (x:Int) (n k j:Nat):put (List.replicate k x++List.replicate (n-k) 0) k (List.replicate j x)=List.replicate (k+j) x++List.replicate (n-(k+j)) 0:=by
 unfold put
 rw [List.take_left' (by simp),List.length_replicate]
 rw [show List.drop (k+j) (List.replicate k x++List.replicate (n-k) (0:Int))=List.replicate (n-(k+j)) 0 from by
  rw [List.drop_append,List.drop_of_length_le (by simp)]
  simp
  omega]
 rw [List.replicate_append_replicate]
theorem loop_q25 (x:Int) (n:Nat) (hn:n≤1000000) (K:KK) (hK:K (.one (dL (zeros n x))) []):∀ (d k:Nat),n≤k+d→k≤n→(0<n→0<k) →
  goD Γ_q25 tab fn_q25 0 K (d+1) q25_L0 (q25_S0 (k:Int) (List.replicate k x++List.replicate (n-k) 0) [])
 | 0,k,hd,hk,hp=>by
  rw [goD_in (L:=q25_L0),q25_vc0 _ _ _ _ _]
  have e:k=n:=by omega
  subst e
  refine lt_f (by simp [len]) ?_
  simpa [zeros] using hK
 | d+1,k,hd,hk,hp=>by
  rw [goD_in (L:=q25_L0),q25_vc0 _ _ _ _ _]
  have hl:len (List.replicate k x++List.replicate (n-k) (0:Int))=n:=by simp [len]; omega
  rw [hl]
  by_cases c:k<n
  ·refine lt_t (by omega) ⟨⟨by omega,by omega,by omega⟩,⟨by omega,by omega,by omega⟩,⟨by omega,by omega⟩,?_⟩
   have e1:slc (List.replicate k x++List.replicate (n-k) (0:Int)) (Int.toNat 0) (Int.toNat 0+Int.toNat ((k:Int)-0))=List.replicate k x:=by
    rw [show Int.toNat 0+Int.toNat ((k:Int)-0)=k by omega]
    unfold slc
    rw [List.take_left' (by simp)]
    simp
   rw [e1]
   have e2:len (List.replicate k x)=k:=by simp [len]
   rw [e2]
   generalize hj:min (Int.toNat ((n:Int)-(k:Int))) k=j
   have hj':j=min (n-k) k:=by omega
   have e3:slc (List.replicate k x) 0 j=List.replicate j x:=by
    unfold slc
    rw [List.take_replicate]
    simp
    omega
   rw [e3,toNat_nat,put_rep x n k j,w64_id (by omega) (by omega),show (k:Int)+(j:Int)=((k+j:Nat):Int) by omega]
   exact loop_q25 x n hn K hK d (k+j) (by have:=hp (by omega); omega) (by omega) (fun h=>by have:=hp h; omega)
  ·have e:k=n:=by omega
   subst e
   refine lt_f (by omega) ?_
   simpa [zeros] using hK
theorem run_q25 (x:Int) (hp:0≤n∧n≤1000000) (K:KK) (hK:K (.one (dL (zeros n.toNat x))) []):GD Γ_q25 fn_q25 0 K [.one (dL [x]),.one (dI n)] []:=by
 obtain ⟨h1,h2⟩:=hp
 refine ⟨n.toNat+2,?_⟩
 rw [goD_code,q25_vc _ _ _ _ _ rfl _ rfl _ rfl _ rfl]
 have e1:u64w (((len (x::[])):Nat):Int)=1:=by simp only [len,List.length_cons,List.length_nil]; exact u64w_id (by omega) (by omega)
 rw [e1,u64w_id (n:=n) h1 (by omega),Int.one_mul]
 have e2:n / two64=0:=by unfold two64; omega
 have e3:n % two64=n:=by unfold two64; omega
 rw [e2,e3,w64_id (by omega) (by omega)]
 refine lt_f h1 ⟨⟨inU64_of (by omega) (by omega),inU64_of h1 (by omega)⟩,lt_f (by omega) (lt_f (by omega) ⟨⟨h1,by omega,by omega⟩,?_⟩)⟩
 obtain ⟨k,rfl⟩:=Int.eq_ofNat_of_zero_le h1
 rw [toNat_nat] at hK ⊢
 have e4:len (zeros k (Ty.dflt Ty.int))=k:=by simp [len,zeros]
 rw [e4]
 have:=loop_q25 x k (by omega) K hK k (min k 1) (by omega) (by omega) (by omega)
 have e5:put (zeros k (Ty.dflt Ty.int)) 0 (slc (x::[]) 0 (min k (len (x::[]))))=List.replicate (min k 1) x++List.replicate (k-min k 1) 0:=by
  have h:=put_rep x k 0 (min k 1)
  rw [Nat.zero_add] at h
  rw [← h]
  have:slc (x::[]) 0 (min k (len (x::[])))=List.replicate (min k 1) x:=by
   simp only [len,List.length_cons,List.length_nil,slc]
   cases k with
   | zero=>simp
   | succ k=>rw [show min (k+1) (0+1)=1 by omega]; rfl
  rw [this]
  rfl
 rw [e5,show min k (len (x::[]))=min k 1 from rfl]
 exact this
theorem sound_q25:SoundC Tryz.prog tab n_q25 c_q25:=soundC_f ok_q25 hg_q25 (by
 intro vs bs p v bs' h hp
 unfold c_q25 at h
 split at h
 ·cases h
  exact ⟨by kernel_rfl,rfl,.inl (run_q25 _ _ hp.1 _ ⟨rfl,rfl⟩)⟩
 ·cases h)

def c_q26:Contract:=fun vs bs=>match vs,bs with
 | [.one (.dat .int n)],[]=>some (none,.tup [.agg [dL (newFlash n).1.words,dI (newFlash n).1.fuel],.one (dI (newFlash n).2)],[])
 | _,_=>none
def Γ_q26:Ctx:=[(n_q25,c_q25)]
theorem ok_q26:Ok Tryz.prog tab Γ_q26:=(ok_nil.c hg_q25 sound_q25)
theorem q26_vc (n:Int) (rec:RK) (K:KK) v0 (hv0:v0=K (.tup [.agg [dL [],dI (0:Int)],.one (dI 3)]) []):segD Γ_q26 tab fn_q26 0 K rec [.code (bodyOf fn_q26)] (initSt [.one (dI n)] [])=(
 br (lti n 1)
 v0
 (br (lti 6 n)
 v0
 (((0:Int)≤w64 (n*32)∧w64 (n*32)≤1000000) ∧
 K (.tup [.agg [dL (zeros (Int.toNat (w64 (n*32))) (65535:Int)),dI (-1)],.one (dI 0)]) []))):=by subst_vars; kernel_rfl

theorem run_q26 (K:KK) (hK:K (.tup [.agg [dL (newFlash n).1.words,dI (newFlash n).1.fuel],.one (dI (newFlash n).2)]) []):GD Γ_q26 fn_q26 0 K [.one (dI n)] []:=by
 refine ⟨1,?_⟩
 rw [goD_code,q26_vc _ _ _ _ rfl]
 unfold newFlash at hK
 refine lt_s (fun h=>?_) (fun h=>lt_s (fun h2=>?_) (fun h2=>?_))
 ·rw [if_neg (by omega)] at hK; exact hK
 ·rw [if_neg (by omega)] at hK; exact hK
 ·rw [if_pos ⟨h,h2⟩] at hK
  rw [w64_id (by omega) (by omega)]
  exact ⟨⟨by omega,by omega⟩,hK⟩
theorem sound_q26:SoundC Tryz.prog tab n_q26 c_q26:=soundC_f ok_q26 hg_q26 (by
 intro vs bs p v bs' h hp
 unfold c_q26 at h
 split at h
 ·cases h
  exact ⟨by kernel_rfl,rfl,.inl (run_q26 _ _ ⟨rfl,rfl⟩)⟩
 ·cases h)

def c_q63:Contract:=fun vs bs=>match vs,bs with
 | [.agg [.dat (.list .int) ws,.dat .int fu]],[]=>some (none,.tup [.agg [dL (formatF ⟨ws,fu⟩).1.words,dI (formatF ⟨ws,fu⟩).1.fuel],.one (dI (formatF ⟨ws,fu⟩).2)],[])
 | _,_=>none
def Γ_q63:Ctx:=[(n_q6,c_q6),(n_q7,c_q7),(n_q8,c_q8),(n_q10,(orC c_q10 c_q9))]
theorem ok_q63:Ok Tryz.prog tab Γ_q63:=((((ok_nil.c hg_q10 (soundC_or sound_q10 sound_q9)).c hg_q8 sound_q8).c hg_q7 sound_q7).c hg_q6 sound_q6)
theorem q63_vc (ws:List Int) (fu:Int) (rec:RK) (K:KK) v0 (hv0:v0=checkFlash (⟨ws,fu⟩:Flash)) v1 (hv1:v1=wipeCh 1) v2 (hv2:v2=doCh (⟨ws,fu⟩:Flash) v1) v3 (hv3:v3=wipeCh 0) v4 (hv4:v4=doCh (⟨v2.fst.words,v2.fst.fuel⟩:Flash) v3) v5 (hv5:v5=burnCh 0 ((1:Int)::[])) v6 (hv6:v6=doCh (⟨v4.fst.words,v4.fst.fuel⟩:Flash) v5):segD Γ_q63 tab fn_q63 0 K rec [.code (bodyOf fn_q63)] (initSt [.agg [dL ws,dI fu]] [])=(
 br (!(eqi v0 0))
 (K (.tup [.agg [dL [],dI (0:Int)],.one (dI v0)]) [])
 (br (lti (len ws:Int) 64)
 (K (.tup [.agg [dL [],dI (0:Int)],.one (dI 4)]) [])
 (len ws*8≤140737488355328 ∧
 ((-1)≤fu∧fu≤100000∧(0:Int)≤(1:Int)∧((1:Int)+(1:Int))*32≤(len ws:Int)∧len ws≤192) ∧
 br (!v2.snd)
 (K (.tup [.agg [dL v2.fst.words,dI v2.fst.fuel],.one (dI 7)]) [])
 (((-1)≤v2.fst.fuel∧v2.fst.fuel≤100000∧(0:Int)≤(0:Int)∧((0:Int)+(1:Int))*32≤(len v2.fst.words:Int)∧len v2.fst.words≤192) ∧
 br (!v4.snd)
 (K (.tup [.agg [dL v4.fst.words,dI v4.fst.fuel],.one (dI 7)]) [])
 (((-1)≤v4.fst.fuel∧v4.fst.fuel≤100000∧(0:Int)≤(0:Int)∧(0:Int)+(len ((1:Int)::[]):Int)≤(len v4.fst.words:Int)∧len v4.fst.words≤192) ∧
 br (!v6.snd)
 (K (.tup [.agg [dL v6.fst.words,dI v6.fst.fuel],.one (dI 7)]) [])
 (K (.tup [.agg [dL v6.fst.words,dI v6.fst.fuel],.one (dI 0)]) [])))))):=by subst_vars; kernel_rfl

theorem run_q63 (K:KK) (hK:K (.tup [.agg [dL (formatF ⟨ws,fu⟩).1.words,dI (formatF ⟨ws,fu⟩).1.fuel],.one (dI (formatF ⟨ws,fu⟩).2)]) []):GD Γ_q63 fn_q63 0 K [.agg [dL ws,dI fu]] []:=by
 refine ⟨1,?_⟩
 rw [goD_code,q63_vc _ _ _ _ _ rfl _ rfl _ rfl _ rfl _ rfl _ rfl _ rfl]
 unfold formatF at hK
 refine ne_s (fun h=>?_) (fun h=>?_)
 ·rw [if_neg h] at hK; exact hK
 rw [if_pos h] at hK
 obtain ⟨c1,c2,c3,c4⟩:=checkFlash_ok h
 obtain ⟨c5,c6⟩:=okLen_le c1
 simp only at c2 c3 c5 c6
 refine lt_s (fun h2=>?_) (fun h2=>?_)
 ·rw [if_neg (by simp only [len] at h2 ⊢; omega)] at hK; exact hK
 rw [if_pos (by simp only [len] at h2 ⊢; omega)] at hK
 unfold formatCh at hK
 rw [doCh_append,doCh_append] at hK
 obtain ⟨f1,f2⟩:=doCh_fuel ⟨ws,fu⟩ (wipeCh 1) c2 c3
 have l1:=doCh_len ⟨ws,fu⟩ (wipeCh 1)
 obtain ⟨g1,g2⟩:=doCh_fuel (doCh ⟨ws,fu⟩ (wipeCh 1)).1 (wipeCh 0) f1 f2
 have l2:=doCh_len (doCh ⟨ws,fu⟩ (wipeCh 1)).1 (wipeCh 0)
 simp only [len] at h2 l1 l2 ⊢
 refine ⟨by omega,⟨c2,c3,by omega,by omega,by omega⟩,nt_s (fun h3=>?_) (fun h3=>⟨⟨f1,f2,by omega,by omega,by omega⟩,nt_s (fun h4=>?_) (fun h4=>⟨⟨g1,g2,by omega,?_,?_⟩,nt_s (fun h5=>?_) (fun h5=>?_)⟩)⟩)⟩
 ·rw [if_neg (show ¬ (doCh ⟨ws,fu⟩ (wipeCh 1)).2=true by simp [h3]),if_neg (by simp [h3])] at hK
  simp only [power,powerE,h3] at hK; exact hK
 ·rw [if_pos h3,if_neg (show ¬ (doCh (doCh ⟨ws,fu⟩ (wipeCh 1)).1 (wipeCh 0)).2=true from by rw [show (doCh (doCh ⟨ws,fu⟩ (wipeCh 1)).1 (wipeCh 0)).2=false from h4]; simp)] at hK
  simp only [power] at hK
  rw [show (doCh (doCh ⟨ws,fu⟩ (wipeCh 1)).1 (wipeCh 0)).2=false from h4] at hK
  exact hK
 ·show (0:Int)+_≤((doCh (doCh ⟨ws,fu⟩ (wipeCh 1)).1 (wipeCh 0)).1.words.length:Int)
  simp only [List.length_cons,List.length_nil]; omega
 ·show (doCh (doCh ⟨ws,fu⟩ (wipeCh 1)).1 (wipeCh 0)).1.words.length≤_
  omega
 ·rw [if_pos h3,if_pos (show (doCh (doCh ⟨ws,fu⟩ (wipeCh 1)).1 (wipeCh 0)).2=true from h4)] at hK
  simp only [power] at hK
  rw [show (doCh (doCh (doCh ⟨ws,fu⟩ (wipeCh 1)).1 (wipeCh 0)).1 (burnCh 0 [1])).2=false from h5] at hK
  exact hK
 ·rw [if_pos h3,if_pos (show (doCh (doCh ⟨ws,fu⟩ (wipeCh 1)).1 (wipeCh 0)).2=true from h4)] at hK
  simp only [power] at hK
  rw [show (doCh (doCh (doCh ⟨ws,fu⟩ (wipeCh 1)).1 (wipeCh 0)).1 (burnCh 0 [1])).2=true from h5] at hK
  exact hK
theorem sound_q63:SoundC Tryz.prog tab n_q63 c_q63:=soundC_f ok_q63 hg_q63 (by
 intro vs bs p v bs' h hp
 unfold c_q63 at h
 split at h
 ·cases h
  exact ⟨by kernel_rfl,rfl,.inl (run_q63 _ _ _ ⟨rfl,rfl⟩)⟩
 ·cases h)

def c_q170:Contract:=fun vs bs=>match vs,bs with
 | [.agg [.dat .int rv,.dat (.list .int) rk,.dat .int rt],.one (.dat .int units)],[]=>some (some (len rk*8≤140737488355328),.tup [.agg (cG (newG ⟨rv,rk,rt⟩ units).1),.one (dI (newG ⟨rv,rk,rt⟩ units).2)],[])
 | _,_=>none
def Γ_q170:Ctx:=[(n_q26,c_q26),(n_q63,c_q63),(n_q160,c_q160),(n_q168,c_q168)]
theorem ok_q170:Ok Tryz.prog tab Γ_q170:=((((ok_nil.c hg_q168 sound_q168).c hg_q160 sound_q160).c hg_q63 sound_q63).c hg_q26 sound_q26)
theorem q170_vc (rv:Int) (rk:List Int) (rt units:Int) (rec:RK) (K:KK) v0 (hv0:v0=applyCh (zeros (Int.toNat ((2:Int)*(32:Int))) (65535:Int)) formatCh) v1 (hv1:v1=checkG ⟨⟨v0,(-1)⟩,true,⟨⟨rv,rk,rt⟩,0⟩,zeros (Int.toNat units) (Ty.dflt Ty.bool),zeros (Int.toNat units) (Ty.dflt Ty.bool)⟩) v2 (hv2:v2=K (.tup [.agg [dL [],dI (0:Int),dB false,dI (0:Int),dL [],dI (0:Int),dI (0:Int),dLb [],dLb []],.one (dI 3)]) []):segD Γ_q170 tab fn_q170 0 K rec [.code (bodyOf fn_q170)] (initSt [.agg [dI rv,dL rk,dI rt],.one (dI units)] [])=(
 br (lti units 1)
 v2
 (br (lti 4 units)
 v2
 (len rk*8≤140737488355328 ∧
 ((0:Int)≤units∧units*((1:Nat):Int)≤140737488355328∧units≤140737488355328) ∧
 ((0:Int)≤units∧units*((1:Nat):Int)≤140737488355328∧units≤140737488355328) ∧
 br (!(eqi v1 0))
 (K (.tup [.agg [dL [],dI (0:Int),dB false,dI (0:Int),dL [],dI (0:Int),dI (0:Int),dLb [],dLb []],.one (dI v1)]) [])
 (K (.tup [.agg [dL v0,dI (-1),dB true,dI rv,dL rk,dI rt,dI (0:Int),dLb (zeros (Int.toNat units) (Ty.dflt Ty.bool)),dLb (zeros (Int.toNat units) (Ty.dflt Ty.bool))],.one (dI 0)]) [])))):=by subst_vars; kernel_rfl

theorem run_q170 (hp:len rk*8≤140737488355328) (K:KK) (hK:K (.tup [.agg (cG (newG ⟨rv,rk,rt⟩ units).1),.one (dI (newG ⟨rv,rk,rt⟩ units).2)]) []):GD Γ_q170 fn_q170 0 K [.agg [dI rv,dL rk,dI rt],.one (dI units)] []:=by
 refine ⟨1,?_⟩
 rw [goD_code,q170_vc _ _ _ _ _ _ _ rfl _ rfl _ rfl]
 have e0:(formatF (newFlash 2).1).1=⟨applyCh (zeros (Int.toNat ((2:Int)*(32:Int))) (65535:Int)) formatCh,-1⟩:=by kernel_rfl
 unfold newG madeG at hK
 rw [e0] at hK
 by_cases c:units<1∨4<units
 ·rw [if_pos c] at hK
  exact lt_s (fun _=>hK) (fun _=>lt_t (by omega) hK)
 rw [if_neg c] at hK
 refine lt_f (by omega) (lt_f (by omega) ⟨hp,⟨by omega,by omega,by omega⟩,⟨by omega,by omega,by omega⟩,ne_s (fun h=>?_) (fun h=>?_)⟩)
 ·rw [if_neg (by exact h)] at hK; exact hK
 ·rw [if_pos (by exact h)] at hK; exact hK
theorem sound_q170:SoundC Tryz.prog tab n_q170 c_q170:=soundC_f ok_q170 hg_q170 (by
 intro vs bs p v bs' h hp
 unfold c_q170 at h
 split at h
 ·cases h
  exact ⟨by kernel_rfl,rfl,.inl (run_q170 _ _ _ _ hp.1 _ ⟨rfl,rfl⟩)⟩
 ·cases h)

def c_q90:Contract:=fun vs bs=>match vs,bs with
 | [.one (.dat (.list .int) l)],[]=>some (some (len l≤1000∧nums l=true),.one (.dat .str (listT l)),[])
 | _,_=>none
def Γ_q90:Ctx:=[(n_q84,c_q84),(n_q85,c_q85)]
theorem ok_q90:Ok Tryz.prog tab Γ_q90:=((ok_nil.c hg_q85 sound_q85).c hg_q84 sound_q84)
noncomputable def q90_L0:List It:=[.inLoop [8,7,6,3,2] (cSub fn_q90 [1,1,0,1,0,0]),.inBlock 0,.code (cSub fn_q90 [1,1,1])]
def q90_S0 (x0 x1:Int) (x2:List Int) (x3:List UInt8) (x4:List (List UInt8)):St:=⟨[(8,.one (dI x0)),(7,.one (dI x1)),(6,.one (dL x2)),(3,.one (.own 0)),(2,.one (.dat Ty.str x3))],[(0,.arr Ty.str x4)],1⟩
theorem q90_vc (l:List Int) (rec:RK) (K:KK):segD Γ_q90 tab fn_q90 0 K rec [.code (bodyOf fn_q90)] (initSt [.one (dL l)] [])=(
 rec q90_L0 (q90_S0 0 (len l:Int) l [] [])):=by kernel_rfl
theorem q90_vc0 (x0 x1:Int) (x2:List Int) (x3:List UInt8) (x4:List (List UInt8)) (rec:RK) (K:KK) v0 (hv0:v0=numT (nth x2 (Int.toNat x0) (Ty.dflt Ty.int))) v1 (hv1:v1=joinT ((32:UInt8)::[]) x4):segD Γ_q90 tab fn_q90 0 K rec (ent q90_L0) (q90_S0 x0 x1 x2 x3 x4)=(
 br (lti x0 x1)
 (((0:Int)≤x0∧x0<(len x2:Int)) ∧
 ((0:Int)≤nth x2 (Int.toNat x0) (Ty.dflt Ty.int)∧nth x2 (Int.toNat x0) (Ty.dflt Ty.int)≤9223372036854775807) ∧
 (len x4+len (v0::[]))*16≤140737488355328 ∧
 rec q90_L0 (q90_S0 (w64 (x0+1)) x1 x2 x3 (cat x4 (v0::[]))))
 ((List.length x4≤140737488355328∧List.length v1≤140737488355328) ∧
 K (.one (.dat Ty.str v1)) [])):=by subst_vars; kernel_rfl

theorem loop_q90 (l:List Int) (hl:l.length≤1000) (hn:nums l=true) (K:KK) (hK:K (.one (.dat .str (listT l))) []) (y:List UInt8):∀ (d k:Nat),k+d=l.length →
  goD Γ_q90 tab fn_q90 0 K (d+1) q90_L0 (q90_S0 (k:Int) (((len l):Nat):Int) l y ((l.take k).map numT))
 | 0,k,hk=>by
  rw [goD_in (L:=q90_L0),q90_vc0 _ _ _ _ _ _ _ _ rfl _ rfl,List.take_of_length_le (by omega)]
  have h1:=listT_len l
  unfold listT at h1
  exact lt_f (by simp only [len]; omega) ⟨⟨by rw [List.length_map]; omega,by omega⟩,hK⟩
 | d+1,k,hk=>by
  rw [goD_in (L:=q90_L0),q90_vc0 _ _ _ _ _ _ _ _ rfl _ rfl,toNat_nat]
  have hm:nth l k (Ty.dflt Ty.int)∈l:=by
   have:k<l.length:=by omega
   simp [nth,List.getD_eq_getElem?_getD,this]
  have h1:=List.all_eq_true.1 hn _ hm
  simp only [Bool.and_eq_true,decide_eq_true_eq] at h1
  refine lt_t (by simp only [len]; omega) ⟨⟨by omega,by simp only [len]; omega⟩,h1,by simp only [len,List.length_map,List.length_take,List.length_cons,List.length_nil]; omega,?_⟩
  rw [w64_succ (by omega),show cat ((l.take k).map numT) [numT (nth l k (Ty.dflt Ty.int))]=(l.take (k+1)).map numT from by rw [take_step (by omega) (Ty.dflt Ty.int)]; simp [cat]]
  exact loop_q90 l hl hn K hK y d (k+1) (by omega)
theorem run_q90 (hp:len l≤1000∧nums l=true) (K:KK) (hK:K (.one (.dat .str (listT l))) []):GD Γ_q90 fn_q90 0 K [.one (dL l)] []:=by
 refine ⟨l.length+2,?_⟩
 rw [goD_code,q90_vc _ _ _]
 exact loop_q90 l hp.1 hp.2 K hK [] l.length 0 (by omega)
theorem sound_q90:SoundC Tryz.prog tab n_q90 c_q90:=soundC_f ok_q90 hg_q90 (by
 intro vs bs p v bs' h hp
 unfold c_q90 at h
 split at h
 ·cases h
  exact ⟨by kernel_rfl,rfl,.inl (run_q90 _ hp.1 _ ⟨rfl,rfl⟩)⟩
 ·cases h)

def c_q94:Contract:=fun vs bs=>match vs,bs with
 | [.agg [.dat .int v,.dat (.list .int) ks,.dat .int t]],[]=>some (none,.tup [.one (.dat .str (rootTextE v ks t).1),.one (dI (rootTextE v ks t).2)],[])
 | _,_=>none
def Γ_q94:Ctx:=[(n_q91,c_q91),(n_q84,c_q84),(n_q90,c_q90)]
theorem ok_q94:Ok Tryz.prog tab Γ_q94:=(((ok_nil.c hg_q90 sound_q90).c hg_q84 sound_q84).c hg_q91 sound_q91)
theorem q94_vc (v:Int) (ks:List Int) (t:Int) (rec:RK) (K:KK) v0 (hv0:v0=checkRoot v ks t) v1 (hv1:v1=numT v) v2 (hv2:v2=numT t) v3 (hv3:v3=nums ks) v4 (hv4:v4=listT ks):segD Γ_q94 tab fn_q94 0 K rec [.code (bodyOf fn_q94)] (initSt [.agg [dI v,dL ks,dI t]] [])=(
 br (!(eqi v0 0))
 (K (.tup [.one (.dat Ty.str []),.one (dI v0)]) [])
 (((0:Int)≤v∧v≤9223372036854775807) ∧
 len ((114:UInt8)::(111:UInt8)::(111:UInt8)::(116:UInt8)::(32:UInt8)::[])+len v1≤140737488355328 ∧
 len (cat ((114:UInt8)::(111:UInt8)::(111:UInt8)::(116:UInt8)::(32:UInt8)::[]) v1)+len ((32:UInt8)::[])≤140737488355328 ∧
 ((0:Int)≤t∧t≤9223372036854775807) ∧
 len (cat (cat ((114:UInt8)::(111:UInt8)::(111:UInt8)::(116:UInt8)::(32:UInt8)::[]) v1) ((32:UInt8)::[]))+len v2≤140737488355328 ∧
 len (cat (cat (cat ((114:UInt8)::(111:UInt8)::(111:UInt8)::(116:UInt8)::(32:UInt8)::[]) v1) ((32:UInt8)::[])) v2)+len ((32:UInt8)::(111:UInt8)::(102:UInt8)::(32:UInt8)::[])≤140737488355328 ∧
 (len ks≤1000∧v3=true) ∧
 len (cat (cat (cat (cat ((114:UInt8)::(111:UInt8)::(111:UInt8)::(116:UInt8)::(32:UInt8)::[]) v1) ((32:UInt8)::[])) v2) ((32:UInt8)::(111:UInt8)::(102:UInt8)::(32:UInt8)::[]))+len v4≤140737488355328 ∧
 K (.tup [.one (.dat Ty.str (cat (cat (cat (cat (cat ((114:UInt8)::(111:UInt8)::(111:UInt8)::(116:UInt8)::(32:UInt8)::[]) v1) ((32:UInt8)::[])) v2) ((32:UInt8)::(111:UInt8)::(102:UInt8)::(32:UInt8)::[])) v4)),.one (dI 0)]) [])):=by subst_vars; kernel_rfl

theorem run_q94 (K:KK) (hK:K (.tup [.one (.dat .str (rootTextE v ks t).1),.one (dI (rootTextE v ks t).2)]) []):GD Γ_q94 fn_q94 0 K [.agg [dI v,dL ks,dI t]] []:=by
 refine ⟨1,?_⟩
 rw [goD_code,q94_vc _ _ _ _ _ _ rfl _ rfl _ rfl _ rfl _ rfl]
 unfold rootTextE at hK
 refine ne_s (fun h=>?_) (fun h=>?_)
 ·rw [if_neg h] at hK; exact hK
 rw [if_pos h] at hK
 obtain ⟨h1,h2,h3,h4,h5,h6⟩:=checkRoot_ok h
 have n1:=numT_len v
 have n2:=numT_len t
 have n3:=listT_len ks
 refine ⟨by omega,by simp only [len,List.length_cons,List.length_nil]; omega,by simp only [len,cat,List.length_append,List.length_cons,List.length_nil]; omega,by omega,by simp only [len,cat,List.length_append,List.length_cons,List.length_nil]; omega,by simp only [len,cat,List.length_append,List.length_cons,List.length_nil]; omega,⟨by simp only [len]; omega,h6⟩,by simp only [len,cat,List.length_append,List.length_cons,List.length_nil]; omega,hK⟩
theorem sound_q94:SoundC Tryz.prog tab n_q94 c_q94:=soundC_f ok_q94 hg_q94 (by
 intro vs bs p v bs' h hp
 unfold c_q94 at h
 split at h
 ·cases h
  exact ⟨by kernel_rfl,rfl,.inl (run_q94 _ _ _ _ ⟨rfl,rfl⟩)⟩
 ·cases h)
end Go.Proofs.YtlbppjmekiemiacGreatDoor
