/- What the functions of VehicleDoes compute (part 1 of 5). No condition. -/
import Derived.Test.YtlbppjmekiemiabGreatDoorTab
import Derived.Test.YtlbppjmekiemiabGreatDoorSpec
import Derived.KernelRfl
import Derived.Test.YtlbppjmekiemiabGreatDoorShelf
import Derived.WalkKit
import Derived.Lib.Mul64
import Derived.Laws.Bits64b
import Derived.Shelf.Spec.SlicesGrow
/- strconv.Itoa: the shelf's contract as one of ours. The number is no less than 0. -/
namespace Go.Proofs.YtlbppjmekiemiabGreatDoor
noncomputable section
open Go.RowKit Go.Lib Go.Sort bF
def Ac:a7:=fun vs au=>match vs,au with
 |[.one (.E .int n)],[]=>some (some (0<=n/\n<=9223372036854775807),.one (.E .str (fZ n)),[])
 |_,_=>none
theorem Fx:jv Tryz.prog tab 160 Ac:=by
 intro vs au p v du h ad w S O xs aD aG;unfold Ac at h;split at h
 ·cases h;rename_i n;obtain⟨⟨I,G⟩,_⟩:=ad;have I:(0:Int)<=n:=I;have G:(n:Int)<=9223372036854775807:=G
  match xs,aG with
  |[X],⟨a1,_⟩ =>
   have aN:=lL a1;subst aN;obtain⟨g,bt⟩:∃g,tab.pow=some g:=⟨_,rfl⟩
   obtain⟨_,ty,m,ay⟩:=aD.pow.t g bt;have htab : Go.Lib.TabIs Tryz.prog w "internal/strconv.uint64pow10" .u64 Go.Lib.pow10Tab := by
    have xA : Tryz.prog.globalNamed "internal/strconv.uint64pow10" = tab.pow := by kernel_rfl
    unfold Go.Lib.TabIs World.var?;rw[xA,bt];simp only[Option.bind_some,ay];rfl
   refine(Tryz.strconv_Itoa n (by omega) G w htab).mono fun e w' ⟨bv,k,os,b8⟩=>?_
   subst b8 bv;have fw:(grow (w.drewN k) os).heap=w.heap++os:=rfl;have a6:Ext O (cJ []) w S O (cJ []) (grow (w.drewN k) os) S:=⟨fun _ h=>h,(Ext.refl (O:=O) (mem:=cJ []) (w:=w) (S:=S)).kinds,fun _ h=>h,by rw[fw];simp,fun b ay _=>by rw[fw,Array.getElem?_append_left ay],fun _ h=>.inl h,fun _ h=>.inl h,rfl,rfl,rfl⟩
   refine⟨_,O,S,rfl,a6,⟨fun r B h=>by simp[cJ]at h,fun r fo _ ⟨B,h,_⟩=>by simp[cJ]at h,fun r ⟨B,h,_⟩=>by simp[cJ]at h,fun b ay=>Nat.lt_of_lt_of_le (aD.lt b ay) a6.size,aD.xY a6⟩,?_⟩;rw[aeF I G];exact Bk _
 ·cases h
end
end Go.Proofs.YtlbppjmekiemiabGreatDoor

/- strings.Join: the shelf's contract as one of ours. What comes of it is no longer than memory holds. -/
namespace Go.Proofs.YtlbppjmekiemiabGreatDoor
noncomputable section
open Go.RowKit Go.Lib bF
theorem Z0{O:dp}{w w':World}{S:Nat->Prop}(aD:Inv tab O (cJ []) w S)(ay:Below w.heap.size w w'):Ext O (cJ []) w S O (cJ []) w' S/\Inv tab O (cJ []) w' S:=by
 have a6:Ext O (cJ []) w S O (cJ []) w' S:=⟨fun _ h=>h,(Ext.refl (O:=O) (mem:=cJ []) (w:=w) (S:=S)).kinds,fun _ h=>h,ay.size,fun b dX _=>ay.block b dX,fun _ h=>.inl h,fun _ h=>.inl h,ay.os,ay.tape,ay.output⟩
 exact⟨a6,⟨fun r B h=>by simp[cJ]at h,fun r fo _ ⟨B,h,_⟩=>by simp[cJ]at h,fun r ⟨B,h,_⟩=>by simp[cJ]at h,fun b ay=>Nat.lt_of_lt_of_le (aD.lt b ay) a6.size,aD.xY a6⟩⟩
def Da:a7:=fun vs au=>match vs,au with
 |[.one (.E (.list .str) l),.one (.E .str sep)],[]=>some (some (l.length<=140737488355328/\(jE sep l).length<=140737488355328),.one (.E .str (jE sep l)),[])
 |_,_=>none
theorem YC:jv Tryz.prog tab 185 Da:=by
 intro vs au p v du h ad w S O xs aD aG;unfold Da at h;split at h
 ·cases h;rename_i l sep;obtain⟨⟨I,G⟩,_⟩:=ad
  match xs,aG with
  |[X,jO],⟨a1,bf,_⟩ =>
   have aX:=E5 bf;subst aX;obtain⟨_,aw⟩:=a1;cases aw with
   |empty t a cap =>
    refine(Tryz.strings_Join_none a cap ⟨sep.toArray⟩ w).mono fun e w' ⟨bv,b8⟩=>?_
    subst b8 bv;exact⟨_,O,S,rfl,Ext.refl,aD,Bk []⟩
   |list t l b off cap cs dw hcap aA aw =>
    have aB:(l.map fun s:List UInt8=>(⟨s.toArray⟩:ByteArray)).map (·.data.toList)=l:=by simp[List.map_map,Function.comp_def]
    have aT:(Go.Lib.join ((l.map fun s:List UInt8=>(⟨s.toArray⟩:ByteArray)).map (·.data.toList)) (⟨sep.toArray⟩:ByteArray).data.toList)=jE sep l:=by rw[aB];exact join_eq sep l
    have key:=Tryz.strings_Join b off cap (l.map fun s:List UInt8=>(⟨s.toArray⟩:ByteArray)) ⟨sep.toArray⟩ w (fun j x aG=>by
     rw[List.getElem?_map]at aG;obtain⟨s,av,rfl⟩:=Option.map_eq_some_iff.1 aG;have iK:j<l.length:=(List.getElem?_eq_some_iff.1 av).1;have bp:=aA j 0 iK (by decide);have e:nth l j (z.H .str)=s:=by simp[nth,List.getD_eq_getElem?_getD,av]
     have bc:=aw j 0 (.E .str s) iK (by rw[e];rfl);have cq:cs j 0=.string ⟨s.toArray⟩:=by
      generalize cs j 0=y at bc;cases bc;rfl
     rw[cq]at bp;simpa[ca,z.width]using bp) (aD.lt b dw) (by simpa using I) (by simpa using hcap) (by rw[aT];exact G)
    rw[List.length_map,aT]at key;refine key.mono fun e w' ⟨bv,ay⟩=>?_
    subst bv;obtain⟨a6,hK⟩:=Z0 aD ay;exact⟨_,O,S,rfl,a6,hK,Bk _⟩
 ·cases h
end
end Go.Proofs.YtlbppjmekiemiabGreatDoor

/- math/bits.Mul: the whole product. Both factors are of 64 bits. -/
namespace Go.Proofs.YtlbppjmekiemiabGreatDoor
noncomputable section
open Go.RowKit Go.Lib bF
namespace mj
theorem KQ(a:Nat)(bl:a<18446744073709551616):bits .and .u64 (a:Int) 4294967295=((a%4294967296:Nat):Int):=by
 have h:=bits_and_u64_nat a 4294967295 bl (by omega);have e:a &&& 4294967295=a%4294967296:=Nat.and_two_pow_sub_one_eq_mod a 32;rw[e]at h;exact h
theorem aaH(a:Nat):(a:Int)/4294967296=((a/4294967296:Nat):Int):=by omega
theorem afd(a b:Nat):(a:Int)*(b:Int)=((a*b:Nat):Int):=(Int.natCast_mul a b).symm
theorem ZD(a b:Nat):(a:Int)+(b:Int)=((a+b:Nat):Int):=(Int.natCast_add a b).symm
theorem uK(a:Nat)(bl:a<18446744073709551616):IntKind.u64.wrap (a:Int)=(a:Int):=by rw[IntKind.wrap_u64];omega
theorem alW(a:Nat):IntKind.u64.wrap (a:Int)=((a%18446744073709551616:Nat):Int):=by rw[IntKind.wrap_u64];omega
end mj
set_option maxHeartbeats 1000000 in
theorem afc(x y:Nat)(aG:x<18446744073709551616)(cv:y<18446744073709551616)(w:World) :
  Calls Tryz.prog 192 #[.int .u64 x,.int .u64 y] w fun e w'=>e=.returned (.tuple #[.int .u64 ((x*y/18446744073709551616:Nat):Int),.int .u64 ((x*y%18446744073709551616:Nat):Int)])/\w'=w:=by
 obtain⟨u5,w6,aac,acA⟩:=Lib.mul64_hi x y aG cv;have amg:=Lib.half_mul_le (a:=x/4294967296) (b:=y/4294967296) (by omega) (by omega);have amh:=Lib.half_mul_le (a:=x/4294967296) (b:=y%4294967296) (by omega) (by omega);have Pk:=Lib.half_mul_le (a:=x%4294967296) (b:=y/4294967296) (by omega) (by omega);have ZV:x/4294967296*(y/4294967296)<18446744073709551616:=by omega
 have ZW:x/4294967296*(y%4294967296)<18446744073709551616:=by omega
 have ZX:x%4294967296*(y/4294967296)<18446744073709551616:=by omega
 have Z4:x/4294967296*(y/4294967296)+(x/4294967296*(y%4294967296)+x%4294967296*(y%4294967296)/4294967296)/4294967296<18446744073709551616:=by omega
 have Z3:x/4294967296*(y/4294967296)+(x/4294967296*(y%4294967296)+x%4294967296*(y%4294967296)/4294967296)/4294967296+((x/4294967296*(y%4294967296)+x%4294967296*(y%4294967296)/4294967296)%4294967296+x%4294967296*(y/4294967296))/4294967296<18446744073709551616:=by omega
 go_enter Tryz.func192,Tryz.ntmps192
 go_wp2
 simp only[mj.KQ x aG,mj.KQ y cv,mj.aaH,mj.afd,mj.ZD,mj.uK _ u5,mj.uK _ ZW,mj.uK _ w6,mj.KQ _ w6,mj.uK _ ZX,mj.uK _ aac,mj.uK _ ZV,mj.uK _ Z4,mj.uK _ Z3,mj.alW (x*y)];rw[acA]
 go_ret2
 exact⟨rfl,rfl⟩
set_option maxHeartbeats 1000000 in
theorem afe(x y:Nat)(aG:x<18446744073709551616)(cv:y<18446744073709551616)(w:World) :
  Calls Tryz.prog 157 #[.int .u64 x,.int .u64 y] w fun e w'=>e=.returned (.tuple #[.int .u64 ((x*y/18446744073709551616:Nat):Int),.int .u64 ((x*y%18446744073709551616:Nat):Int)])/\w'=w:=by
 have aad:=afc x y aG cv w
 go_enter Tryz.func157,Tryz.ntmps157
 go_wp2_with (go_at_call 192;refine aad.mono ?_;rintro e w' ⟨rfl,b8⟩;rw[b8])
 go_ret2
 exact⟨rfl,rfl⟩
def C2:a7:=fun vs au=>match vs,au with
 |[.one (.E .u64 a),.one (.E .u64 b)],[]=>some (some (sJ a=true/\sJ b=true),.ao [.one (.E .u64 ((a*b)/iQ)),.one (.E .u64 ((a*b)%iQ))],[])
 |_,_=>none
theorem Yb:jv Tryz.prog tab 157 C2:=by
 intro vs au p v du h ad w S O xs aD aG;unfold C2 at h;split at h
 ·cases h;rename_i a b;obtain⟨⟨I,G⟩,_⟩:=ad;simp only[sJ,Bool.and_eq_true,decide_eq_true_eq]at I G;obtain⟨x,rfl⟩:=Int.eq_ofNat_of_zero_le I.1;obtain⟨y,rfl⟩:=Int.eq_ofNat_of_zero_le G.1
  match xs,aG with
  |[X,jO],⟨a1,bf,_⟩ =>
   have aN:=BM a1;have aX:=BM bf;subst aN aX;refine(afe x y (by omega) (by omega) w).mono fun e w' ⟨bv,b8⟩=>?_
   subst b8 bv;refine⟨_,O,S,rfl,Ext.refl,aD,_,rfl,rfl,fun i u hu=>?_⟩
   match i,hu with
   |0,hu=>cases hu;exact⟨_,rfl,Et _⟩
   |1,hu=>cases hu;exact⟨_,rfl,Et _⟩
 ·cases h
end
end Go.Proofs.YtlbppjmekiemiabGreatDoor

/- slices.Grow of no list: the shelf's contract, laid at this program. n is no less than 0. -/
namespace Go.Proofs.YtlbppjmekiemiabGreatDoor
noncomputable section
open Go.RowKit Go.Lib bF Go.Shelf
def vo:Go.Shelf.Ren:=⟨fun|4=>213|n=>n,fun|22=>231|25=>257|n=>n,fun n=>n⟩
theorem Jx:Lays8.n4 Tryz.prog vo:={
 mixed:=by kernel_rfl
 f4:=⟨Tryz.f213.name,by decide,Tryz.func213.trans (congrArg some (by kernel_rfl))⟩
 t0:=by kernel_rfl
 a0:=fun _=>by kernel_rfl
 z0:=fun _=>by kernel_rfl
 v0:=fun _=>by kernel_rfl
 t3:=by kernel_rfl
 a3:=fun _=>by kernel_rfl
 z3:=fun _=>by kernel_rfl
 v3:=fun _=>by kernel_rfl
 t4:=by kernel_rfl
 a4:=fun _=>by kernel_rfl
 z4:=fun _=>by kernel_rfl
 v4:=fun _=>by kernel_rfl
 t9:=by kernel_rfl
 a9:=fun _=>by kernel_rfl
 z9:=fun _=>by kernel_rfl
 v9:=fun _=>by kernel_rfl
 t20:=by kernel_rfl
 a20:=fun _=>by kernel_rfl
 z20:=fun _=>by kernel_rfl
 v20:=fun _=>by kernel_rfl
 t22:=by kernel_rfl
 a22:=fun _=>by kernel_rfl
 z22:=fun _=>by kernel_rfl
 v22:=fun _=>by kernel_rfl }
def Ik:a7:=fun vs au=>match vs,au with
 |[.one (.nil .change),.one (.E .int n)],[]=>some (some (0<=n/\n<=100000),.one (.own 0),[.arr .change []])
 |_,_=>none
theorem ak9:jv Tryz.prog tab 213 Ik:=by
 intro vs au p v du h ad w S O xs aD aG;unfold Ik at h;split at h
 ·cases h;rename_i n;obtain⟨⟨I,G⟩,_⟩:=ad;obtain⟨k,rfl⟩:=Int.eq_ofNat_of_zero_le I;have G:(k:Int)<=100000:=G
  match xs,aG with
  |[X,jO],⟨a1,bf,_⟩ =>
   have aN:X=.slice none 0 0:=a1.2;have aX:=lL bf;subst aN aX;have aB:cJ ([]:List bS) 0=none:=rfl;have DZ:cW [(0,bS.arr .change [])] (cJ [])=cJ [.arr .change []]:=by
    funext q
    by_cases e:q=0
    ·subst e;rfl
    ·rw[ek e];cases q with
     |zero=>exact absurd rfl e
     |succ q=>rfl
   by_cases ae:k=0
   ·subst ae;refine(Any8.slices_Grow_room Jx none 0 0 0 w (by omega) (by omega) (by omega) (by omega)).mono fun e w' ⟨bv,b8⟩=>?_
    subst b8 bv;obtain⟨a6,hK⟩:=Bn (t:=.change) aD aB;rw[DZ]at a6 hK;exact⟨_,_,S,rfl,a6,hK,rfl,(fun h=>by cases h),fun _ _ _=>hA⟩
   ·obtain⟨aM,bm,acJ,vr⟩:∃aM,dQ tab 231=some aM/\aM.isSlice .change=true/\aM.bytes=16:=⟨_,rfl,rfl,rfl⟩
    obtain⟨e,i,bg,av⟩:=j5 YS bm acJ;have bv:e=257:=by
     have I:=av.hJ;have G:Tryz.prog.underlying 231=some (.slice 257):=Jx.t22;rw[G]at I;cases I;rfl
    subst bv;have SI:z.width .change=2:=rfl;refine(Any8.slices_Grow_grow Jx i bg av.info av.zero (by rw[av.size];decide) none 0 0 k [] w (by omega) (by omega) (by rw[av.bytes,vr];omega) (by omega) (by simp) (fun _=>rfl) (fun a h=>by cases h)).mono fun e w' ⟨bv,b8⟩=>?_
    have vx:=grownCap_ge w (0+k) 0 (vo.t 25);have qv:=grownCap_le_maxLen w (0+k) 0 (vo.t 25) (by unfold maxLen;omega);generalize grownCap w (0+k) 0 (vo.t 25)=cx at bv b8 vx qv;generalize hG:(([]:List Value).toArray++Builtin.zeroCells bg.cells (0+k-0)++Builtin.zeroCells bg.cells (cx-(0+k)))=cur at b8;have JL:cur.size=cx*2:=by
     subst hG;simp only[Array.size_append,List.size_toArray,List.length_nil,size_zeroCells,av.gW,SI];omega
    subst b8 bv;have az:(Loc.ez (.slice (some (ca w.heap.size 0)) 0 cx)).block=some w.drew.heap.size\/(Loc.ez (.slice (some (ca w.heap.size 0)) 0 cx)).block=none:=.inl rfl;have qY:Ext O (cJ []) w S O (cJ []) w.drew S:=⟨fun _ h=>h,(Ext.refl (O:=O) (mem:=cJ []) (w:=w) (S:=S)).kinds,fun _ h=>h,Nat.le_refl _,fun _ _ _=>rfl,fun _ h=>.inl h,fun _ h=>.inl h,rfl,rfl,rfl⟩
    have Id:Inv tab O (cJ []) w.drew S:=⟨fun q B I G=>by obtain⟨l',aN,aX⟩:=aD.rel q B I G;exact⟨l',aN,aX.ext qY aD fun _ _=>rfl⟩,aD.inj,aD.sep,aD.lt,aD.pow.of_heap rfl⟩
    have er:=q3 (O:=O) (S:=S) (w:=w.drew) (o:=.cells cur (vo.t 25)) (B:=.arr .change []) aB az;have hL:=r4 (o:=.cells cur (vo.t 25)) (B:=.arr .change []) aB az Id
     (.inr ⟨w.heap.size,cx,cur,vo.t 25,rfl,heap_alloc_new w.drew _,Nat.zero_le _,qv,by rw[JL,SI];exact Nat.le_refl _,fun i j c hi=>by cases hi⟩)
    rw[DZ]at er hL;exact⟨_,_,S,rfl,qY.trans er,hL,rfl,(fun h=>by cases h),fun _ _ _=>hA⟩
 ·cases h
end
end Go.Proofs.YtlbppjmekiemiabGreatDoor
namespace Go.Proofs.YtlbppjmekiemiabGreatDoor
noncomputable section
open bF
set_option maxHeartbeats 4000000
variable (eA ei eY fu n dL units:Int) (cP:cj) (l ws:aK) (dH:LT)
def Hd:a7
 |[.agg [.E (.list .int) ws,.E .int fu]],[]=>some (some (len ws*8<=140737488355328),.agg [af ws,A fu],[])
 |_,_=>none

theorem Ft:bo 15 Hd:=b2 0 bn Tryz.func15 (by kernel_rfl) fun vs au=>by
 unfold Hd;split;rotate_left;trivial;rename_i ws fu;refine⟨by kernel_rfl,fun ad K D=>?_⟩;refine⟨1,?_⟩;refine cf (fun rec=>(by kernel_rfl:_=(
  (0+len ws)*8<=140737488355328 /\
  K (.agg [af (cat [] ws),A fu]) []))) ?_
 exact⟨by simp only[len]at ad |-; omega,D⟩

def Hn:a7
 |[.agg [.E (.list .int) ws,.E .int fu,.E .bool up,.E .int al,.E (.list .int) ah,.E .int ak,.E .int aj,.E (.list .bool) aa,.E (.list .bool) ab]],[]=>some (some (len ws*8<=140737488355328/\len ah*8<=140737488355328/\len aa<=140737488355328/\len ab<=140737488355328),.agg [af ws,A fu,ax up,A al,af ah,A ak,A aj,bh aa,bh ab],[])
 |_,_=>none

theorem akh:bo 14 Hn:=b2 0 (bn.f Ft) Tryz.func14 (by kernel_rfl) fun vs au=>by
 unfold Hn;split;rotate_left;trivial;rename_i ws fu up al ah ak aj aa ab;refine⟨by kernel_rfl,fun ad K D=>?_⟩;refine⟨1,?_⟩;refine cf (fun rec=>(by kernel_rfl:_=(
  len ws*8<=140737488355328 /\
  (0+len ah)*8<=140737488355328 /\
  (0+len aa)*1<=140737488355328 /\
  (0+len ab)*1<=140737488355328 /\
  K (.agg [af ws,A fu,ax up,A al,af (cat [] ah),A ak,A aj,bh (cat [] aa),bh (cat [] ab)]) []))) ?_
 exact⟨ad.1,by omega,by omega,by omega,D⟩

def HV:a7
 |[.agg [.E .int eA,.E .int eY,.E .int ei,.E (.list .target) dH,.E (.list (.list .int)) cP]],[]=>some (some (wA ⟨eA,⟨eY,ei,dH⟩,cP⟩=true),.agg [A eA,A eY,A ei,.E (.list .target) dH,ct cP],[])
 |_,_=>none
def OD:Ctx:=[]
def yM:List cu:=[.inLoop [16,15,14,3,2,1] (Code.sub (bR Tryz.f16) [1,1,1,0,1,0,0]),.inBlock 0,.code (Code.sub (bR Tryz.f16) [1,1,1,1])]
def Mi(F ai:Int)(M ag:cj)(an aE aI aV aZ bd:Int)(bu:cj)(bx:LT)(br:cj)(bD:LT):bO:=⟨[(16,.one (A F)),(15,.one (A ai)),(14,.one (ct M)),(3,.one (.own 0)),(2,.one (.ptr 1 0)),(1,.one (.ptr 2 0))],[(0,.arr (z.list z.int) ag),(1,.box [A an,A aE,A aI,.own 3,.own 4]),(2,.box [A aV,A aZ,A bd,.own 5,ct bu]),(3,.arr z.target bx),(4,.arr (z.list z.int) br),(5,.arr z.target bD)],6⟩
theorem Wn{F:Int}{ag:cj}{rec:bV}{K:aU}{ai M an aE aI aV aZ bd bu bx br bD}{v0}(bX:v0=fun a b=>Mi a ai M b an aE aI aV aZ bd bu bx br bD):b5 OD tab Tryz.f16 0 K rec (cU yM) (v0 F ag)=(
 J (aL F ai)
 (((0:Int)<=F/\F<(len M:Int)) /\
 (0+len (nth M (Int.toNat F) (z.H (z.list z.int))))*8<=140737488355328 /\
 (len ag+len (cat [] (nth M (Int.toNat F) (z.H (z.list z.int)))::[]))*24<=140737488355328 /\
 rec yM (v0 (U (F+1)) (cat ag (cat [] (nth M (Int.toNat F) (z.H (z.list z.int)))::[]))))
 (K (.agg [A aV,A aZ,A bd,.E (z.list z.target) bD,ct ag]) [])):=by subst_vars;kernel_rfl

theorem Um(eA eY ei:Int)(dH:LT)(cP:cj)(ad:wA ⟨eA,⟨eY,ei,dH⟩,cP⟩=true)(K:aU)(D:K (.agg [A eA,A eY,A ei,.E (z.list z.target) dH,ct cP]) []):∀(d k:Nat),k+d=cP.length ->
  co OD tab Tryz.f16 0 K (d+1) yM (Mi (k:Int) (((len cP):Nat):Int) cP (cP.take k) 0 0 0 eA eY ei cP [] [] (cat [] dH))
 |0,k,ae=>by
  rw[bW (L:=yM),Wn rfl,show k=cP.length by omega,List.take_length];exact ci (by simp only[len];omega) D
 |d+1,k,ae=>by
  obtain⟨_,G,Y⟩:=B3.1 ad;have I:=Y _ (iu (l:=cP) (k:=k) (by omega) (z.H (z.list z.int)));simp only at I G;rw[bW (L:=yM),Wn rfl,cM,di (by omega)];have e:cat (cP.take k) [cat [] (nth cP k (z.H (z.list z.int)))]=cP.take (k+1):=(iz (by omega) _).symm;rw[e];exact cV (by simp only[len];omega) ⟨⟨by omega,by simp only[len];omega⟩,by simp only[len];omega,by simp only[len,List.length_take,List.length_cons,List.length_nil];omega,Um eA eY ei dH cP ad K D d (k+1) (by omega)⟩
theorem akO:bo 16 HV:=b2 (Γ:=OD) 0 bn Tryz.func16 (by kernel_rfl) fun vs au=>by
 unfold HV;split;rotate_left;trivial;rename_i eA eY ei dH cP;refine⟨by kernel_rfl,fun ad K D=>?_⟩;refine⟨cP.length+2,?_⟩;refine cf (fun rec=>(by kernel_rfl:_=(
  (0+len dH)*24<=140737488355328 /\
  rec yM (Mi 0 (len cP:Int) cP [] 0 0 0 eA eY ei cP [] [] (cat [] dH))))) ?_
 have I:=(B3.1 ad).1;simp only at I;exact⟨by simp only[len];omega,Um eA eY ei dH cP ad K D cP.length 0 (by omega)⟩

def C5:a7
 |[.agg [.E (.list .str) aJ,.E (.list .signed) vs,.E (.list .int) ws,.E .int fu,.E .bool up,.E .int al,.E (.list .int) ah,.E .int ak,.E .int aj,.E (.list .bool) aa,.E (.list .bool) ab,.E (.list .aO) us,.E (.list .aP) cs,.E (.list .message) W,.E .int now]],[]=>some (some (ks ⟨aJ,vs,⟨⟨ws,fu⟩,up,⟨⟨al,ah,ak⟩,aj⟩,aa,ab⟩,us,cs,W,now⟩=true),.agg (et aJ vs ws fu up al ah ak aj aa ab (.own 0) (.own 1) (.own 2) now),[.arr .aO us,.arr .aP cs,.arr .message W])
 |_,_=>none
def wT:Ctx:=[(14,Hn),(15,Hd),(16,HV)]
def yN:List cu:=[.inLoop [29,28,27,3,2,1] (cy px [1,1,0,1,0,0]),.inBlock 0,.code (cy px [1,1,1])]
def Mj(F ai:Int)(M:cZ)(ag:aK)(an:Int)(aE:Bool)(aI:Int)(aV:aK)(aZ bd:Int)(bu bx:da)(br bD:Int)(bM:Bool)(bJ bP bC bT:Int)(b1:cD)(cw:cG)(cB:aK)(cY:Int)(c6:Bool)(dc:Int)(dz:aK)(dD dZ:Int)(ea dB:da)(dS:cZ)(dF:c3)(eo:cF)(em:Int)(ep:cD)(eS:cG)(fR:cZ)(fS:c3)(gq:cF)(ho:cD)(gr:cG)(gV iC:aK)(j7 j8:da)(j9:cZ)(mg:c3)(mh:cF):bO:=⟨[(29,.one (A F)),(28,.one (A ai)),(27,.one (.E (z.list z.aO) M)),(3,.one (.ptr 0 0)),(2,.one (.ptr 1 0)),(1,.one (.ptr 2 0))],[(0,.box [.own 3,.own 4,af ag,A an,ax aE,A aI,af aV,A aZ,A bd,bh bu,bh bx,.own 5,.own 6,.own 7,A br]),(1,.box [.own 8,.own 9,.own 10,A bD,ax bM,A bJ,.own 11,A bP,A bC,.own 12,.own 13,.own 14,.own 15,.own 16,A bT]),(2,.box [.E (z.list z.str) b1,.E (z.list z.signed) cw,af cB,A cY,ax c6,A dc,af dz,A dD,A dZ,bh ea,bh dB,.E (z.list z.aO) dS,.E (z.list z.aP) dF,bs eo,A em]),(3,.arr z.str ep),(4,.arr z.signed eS),(5,.arr z.aO fR),(6,.arr z.aP fS),(7,.arr z.message gq),(8,.arr z.str ho),(9,.arr z.signed gr),(10,.arr z.int gV),(11,.arr z.int iC),(12,.arr z.bool j7),(13,.arr z.bool j8),(14,.arr z.aO j9),(15,.arr z.aP mg),(16,.arr z.message mh)],17⟩
def yO:List cu:=[.inLoop [47,46,45,3,2,1] (cy px [1,1,1,0,1,0,0]),.inBlock 2,.code (cy px [1,1,1,1])]
def Mk(F ai:Int)(M:c3)(ag:aK)(an:Int)(aE:Bool)(aI:Int)(aV:aK)(aZ bd:Int)(bu bx:da)(br bD:Int)(bM:Bool)(bJ bP bC bT:Int)(b1:cD)(cw:cG)(cB:aK)(cY:Int)(c6:Bool)(dc:Int)(dz:aK)(dD dZ:Int)(ea dB:da)(dS:cZ)(dF:c3)(eo:cF)(em:Int)(ep:cD)(eS:cG)(fR:cZ)(fS:c3)(gq:cF)(ho:cD)(gr:cG)(gV iC:aK)(j7 j8:da)(j9:cZ)(mg:c3)(mh:cF):bO:=⟨[(47,.one (A F)),(46,.one (A ai)),(45,.one (.E (z.list z.aP) M)),(3,.one (.ptr 0 0)),(2,.one (.ptr 1 0)),(1,.one (.ptr 2 0))],[(0,.box [.own 3,.own 4,af ag,A an,ax aE,A aI,af aV,A aZ,A bd,bh bu,bh bx,.own 5,.own 6,.own 7,A br]),(1,.box [.own 8,.own 9,.own 10,A bD,ax bM,A bJ,.own 11,A bP,A bC,.own 12,.own 13,.own 14,.own 15,.own 16,A bT]),(2,.box [.E (z.list z.str) b1,.E (z.list z.signed) cw,af cB,A cY,ax c6,A dc,af dz,A dD,A dZ,bh ea,bh dB,.E (z.list z.aO) dS,.E (z.list z.aP) dF,bs eo,A em]),(3,.arr z.str ep),(4,.arr z.signed eS),(5,.arr z.aO fR),(6,.arr z.aP fS),(7,.arr z.message gq),(8,.arr z.str ho),(9,.arr z.signed gr),(10,.arr z.int gV),(11,.arr z.int iC),(12,.arr z.bool j7),(13,.arr z.bool j8),(14,.arr z.aO j9),(15,.arr z.aP mg),(16,.arr z.message mh)],17⟩
def yP:List cu:=[.inLoop [62,61,60,3,2] (cy px [1,1,1,1,0,1,0,0]),.inBlock 4,.code (cy px [1,1,1,1,1])]
def Ml(F ai:Int)(M:cF)(ag:aK)(an:Int)(aE:Bool)(aI:Int)(aV:aK)(aZ bd:Int)(bu bx:da)(br bD:Int)(bM:Bool)(bJ bP bC bT:Int)(b1:cD)(cw:cG)(cB:cZ)(cY:c3)(c6:cF)(dc:cD)(dz:cG)(dD dZ:aK)(ea dB:da)(dS:cZ)(dF:c3)(eo:cF):bO:=⟨[(62,.one (A F)),(61,.one (A ai)),(60,.one (bs M)),(3,.one (.ptr 0 0)),(2,.one (.ptr 1 0))],[(0,.box [.own 2,.own 3,af ag,A an,ax aE,A aI,af aV,A aZ,A bd,bh bu,bh bx,.own 4,.own 5,.own 6,A br]),(1,.box [.own 7,.own 8,.own 9,A bD,ax bM,A bJ,.own 10,A bP,A bC,.own 11,.own 12,.own 13,.own 14,.own 15,A bT]),(2,.arr z.str b1),(3,.arr z.signed cw),(4,.arr z.aO cB),(5,.arr z.aP cY),(6,.arr z.message c6),(7,.arr z.str dc),(8,.arr z.signed dz),(9,.arr z.int dD),(10,.arr z.int dZ),(11,.arr z.bool ea),(12,.arr z.bool dB),(13,.arr z.aO dS),(14,.arr z.aP dF),(15,.arr z.message eo)],16⟩
theorem Wo{F:Int}{fR:cZ}{rec:bV}{K:aU}{ai M ag an aE aI aV aZ bd bu bx br bD bM bJ bP bC bT b1 cw cB cY c6 dc dz dD dZ ea dB dS dF eo em ep eS fS gq ho gr gV iC j7 j8 j9 mg mh}{v0}(bX:v0=fun a b=>Mj a ai M ag an aE aI aV aZ bd bu bx br bD bM bJ bP bC bT b1 cw cB cY c6 dc dz dD dZ ea dB dS dF eo em ep eS b fS gq ho gr gV iC j7 j8 j9 mg mh):zg wT tab px 0 K rec (cU yN) (v0 F fR)=(
 J (aL F ai)
 (((0:Int)<=F/\F<(len M:Int)) /\
 len ((nth M (Int.toNat F) (z.H z.aO)).f).words*8<=140737488355328 /\
 (len fR+len ((⟨(nth M (Int.toNat F) (z.H z.aO)).f,(nth M (Int.toNat F) (z.H z.aO)).up,(nth M (Int.toNat F) (z.H z.aO)).n,(nth M (Int.toNat F) (z.H z.aO)).eG⟩:oi)::[]))*56<=140737488355328 /\
 rec yN (v0 (U (F+1)) (cat fR ((⟨(nth M (Int.toNat F) (z.H z.aO)).f,(nth M (Int.toNat F) (z.H z.aO)).up,(nth M (Int.toNat F) (z.H z.aO)).n,(nth M (Int.toNat F) (z.H z.aO)).eG⟩:oi)::[]))))
 (rec yO (Mk 0 (len dF:Int) dF ag an aE aI aV aZ bd bu bx br bD bM bJ bP bC bT b1 cw cB cY c6 dc dz dD dZ ea dB dS dF eo em ep eS fR fS gq ho gr gV iC j7 j8 j9 mg mh))):=by subst_vars;kernel_rfl
theorem Wp{F:Int}{fS:c3}{rec:bV}{K:aU}{ai M ag an aE aI aV aZ bd bu bx br bD bM bJ bP bC bT b1 cw cB cY c6 dc dz dD dZ ea dB dS dF eo em ep eS fR gq ho gr gV iC j7 j8 j9 mg mh}{v1 v0}(b9:v1=fun a b=>Mk a ai M ag an aE aI aV aZ bd bu bx br bD bM bJ bP bC bT b1 cw cB cY c6 dc dz dD dZ ea dB dS dF eo em ep eS fR b gq ho gr gV iC j7 j8 j9 mg mh)(bX:v0=wA ⟨(nth M (Int.toNat F) (z.H z.aP)).n,(nth M (Int.toNat F) (z.H z.aP)).r,(nth M (Int.toNat F) (z.H z.aP)).cQ⟩):zg wT tab px 0 K rec (cU yO) (v1 F fS)=(
 J (aL F ai)
 (((0:Int)<=F/\F<(len M:Int)) /\
 v0=true /\
 (len fS+len ((⟨(nth M (Int.toNat F) (z.H z.aP)).n,(nth M (Int.toNat F) (z.H z.aP)).r,(nth M (Int.toNat F) (z.H z.aP)).cQ⟩:og)::[]))*72<=140737488355328 /\
 rec yO (v1 (U (F+1)) (cat fS ((⟨(nth M (Int.toNat F) (z.H z.aP)).n,(nth M (Int.toNat F) (z.H z.aP)).r,(nth M (Int.toNat F) (z.H z.aP)).cQ⟩:og)::[]))))
 (rec yP (Ml 0 (len eo:Int) eo ag an aE aI aV aZ bd bu bx br bD bM bJ bP bC bT ep eS fR fS gq ho gr gV iC j7 j8 j9 mg mh))):=by subst_vars;kernel_rfl
theorem Wq{F:Int}{c6:cF}{rec:bV}{K:aU}{ai M ag an aE aI aV aZ bd bu bx br bD bM bJ bP bC bT b1 cw cB cY dc dz dD dZ ea dB dS dF eo}{v0}(bX:v0=fun a b=>Ml a ai M ag an aE aI aV aZ bd bu bx br bD bM bJ bP bC bT b1 cw cB cY b dc dz dD dZ ea dB dS dF eo):zg wT tab px 0 K rec (cU yP) (v0 F c6)=(
 J (aL F ai)
 (((0:Int)<=F/\F<(len M:Int)) /\
 (0+len (nth M (Int.toNat F) (z.H z.message)).words)*8<=140737488355328 /\
 (len c6+len ((⟨(nth M (Int.toNat F) (z.H z.message)).kind,(nth M (Int.toNat F) (z.H z.message)).unit,(nth M (Int.toNat F) (z.H z.message)).n,(nth M (Int.toNat F) (z.H z.message)).at_,(nth M (Int.toNat F) (z.H z.message)).image,cat [] (nth M (Int.toNat F) (z.H z.message)).words,(nth M (Int.toNat F) (z.H z.message)).yes⟩:fD)::[]))*72<=140737488355328 /\
 rec yP (v0 (U (F+1)) (cat c6 ((⟨(nth M (Int.toNat F) (z.H z.message)).kind,(nth M (Int.toNat F) (z.H z.message)).unit,(nth M (Int.toNat F) (z.H z.message)).n,(nth M (Int.toNat F) (z.H z.message)).at_,(nth M (Int.toNat F) (z.H z.message)).image,cat [] (nth M (Int.toNat F) (z.H z.message)).words,(nth M (Int.toNat F) (z.H z.message)).yes⟩:fD)::[]))))
 (K (.agg [.E (z.list z.str) b1,.E (z.list z.signed) cw,af ag,A an,ax aE,A aI,af aV,A aZ,A bd,bh bu,bh bx,.own 0,.own 1,.own 2,A br]) [.arr z.aO cB,.arr z.aP cY,.arr z.message c6])):=by subst_vars;kernel_rfl

theorem TF(aJ:cD)(vs:cG)(ws:aK)(fu:Int)(up:Bool)(al:Int)(ah:aK)(ak aj:Int)(aa ab:da)(us:cZ)(cs:c3)(W:cF)(now:Int)(aQ:zM ⟨aJ,vs,⟨⟨ws,fu⟩,up,⟨⟨al,ah,ak⟩,aj⟩,aa,ab⟩,us,cs,W,now⟩)(K:aU)(D:K (.agg (et aJ vs ws fu up al ah ak aj aa ab (.own 0) (.own 1) (.own 2) now)) [.arr z.aO us,.arr z.aP cs,.arr z.message W]):∀(d k:Nat),k+d=W.length ->
  qo wT tab px 0 K (d+1) yP (Ml (k:Int) (((len W):Nat):Int) W ws fu up al ah ak aj aa ab now 0 false 0 0 0 0 (cat [] aJ) (cat [] vs) us cs (W.take k) [] [] [] [] [] [] [] [] [])
 |0,k,ae=>by
  rw[xv (L:=yP),Wq rfl,show k=W.length by omega,List.take_length];exact ci (by simp only[len];omega) D
 |d+1,k,ae=>by
  have I:=aQ.m _ (iu (l:=W) (k:=k) (by omega) (z.H z.message));have G:=aQ.ns;simp only at I G;rw[xv (L:=yP),Wq rfl,cM,di (by omega)];have e:cat (W.take k) [(⟨(nth W k (z.H z.message)).kind,(nth W k (z.H z.message)).unit,(nth W k (z.H z.message)).n,(nth W k (z.H z.message)).at_,(nth W k (z.H z.message)).image,cat [] (nth W k (z.H z.message)).words,(nth W k (z.H z.message)).yes⟩:fD)]=W.take (k+1):=(iz (by omega) _).symm;rw[e];exact cV (by simp only[len];omega) ⟨⟨by omega,by simp only[len];omega⟩,by simp only[len];omega,by simp only[len,List.length_take,List.length_cons,List.length_nil];omega,TF aJ vs ws fu up al ah ak aj aa ab us cs W now aQ K D d (k+1) (by omega)⟩
theorem Tz(aJ:cD)(vs:cG)(ws:aK)(fu:Int)(up:Bool)(al:Int)(ah:aK)(ak aj:Int)(aa ab:da)(us:cZ)(cs:c3)(W:cF)(now:Int)(aQ:zM ⟨aJ,vs,⟨⟨ws,fu⟩,up,⟨⟨al,ah,ak⟩,aj⟩,aa,ab⟩,us,cs,W,now⟩)(K:aU)(D:K (.agg (et aJ vs ws fu up al ah ak aj aa ab (.own 0) (.own 1) (.own 2) now)) [.arr z.aO us,.arr z.aP cs,.arr z.message W]):∀(d k:Nat),k+d=cs.length ->
  qo wT tab px 0 K (W.length+1+d+1) yO (Mk (k:Int) (((len cs):Nat):Int) cs ws fu up al ah ak aj aa ab now 0 false 0 0 0 0 aJ vs ws fu up al ah ak aj aa ab us cs W now (cat [] aJ) (cat [] vs) us (cs.take k) [] [] [] [] [] [] [] [] [] [])
 |0,k,ae=>by
  rw[xv (L:=yO),Wp rfl rfl,show k=cs.length by omega,List.take_length];exact ci (by simp only[len];omega) (TF aJ vs ws fu up al ah ak aj aa ab us cs W now aQ K D W.length 0 (by omega))
 |d+1,k,ae=>by
  have I:=aQ.c _ (iu (l:=cs) (k:=k) (by omega) (z.H z.aP));have G:=aQ.cs;simp only at I G;rw[show W.length+1+(d+1)+1=(W.length+1+d+1)+1 by omega,xv (L:=yO),Wp rfl rfl,cM,di (by omega)];have e:cat (cs.take k) [(⟨(nth cs k (z.H z.aP)).n,⟨(nth cs k (z.H z.aP)).r.version,(nth cs k (z.H z.aP)).r.cg,(nth cs k (z.H z.aP)).r.targets⟩,(nth cs k (z.H z.aP)).cQ⟩:og)]=cs.take (k+1):=(iz (by omega) _).symm;rw[e];exact cV (by simp only[len];omega) ⟨⟨by omega,by simp only[len];omega⟩,I,by simp only[len,List.length_take,List.length_cons,List.length_nil];omega,Tz aJ vs ws fu up al ah ak aj aa ab us cs W now aQ K D d (k+1) (by omega)⟩
theorem Tr(aJ:cD)(vs:cG)(ws:aK)(fu:Int)(up:Bool)(al:Int)(ah:aK)(ak aj:Int)(aa ab:da)(us:cZ)(cs:c3)(W:cF)(now:Int)(aQ:zM ⟨aJ,vs,⟨⟨ws,fu⟩,up,⟨⟨al,ah,ak⟩,aj⟩,aa,ab⟩,us,cs,W,now⟩)(K:aU)(D:K (.agg (et aJ vs ws fu up al ah ak aj aa ab (.own 0) (.own 1) (.own 2) now)) [.arr z.aO us,.arr z.aP cs,.arr z.message W]):∀(d k:Nat),k+d=us.length ->
  qo wT tab px 0 K (W.length+1+cs.length+1+d+1) yN (Mj (k:Int) (((len us):Nat):Int) us ws fu up al ah ak aj aa ab now 0 false 0 0 0 0 aJ vs ws fu up al ah ak aj aa ab us cs W now (cat [] aJ) (cat [] vs) (us.take k) [] [] [] [] [] [] [] [] [] [] [])
 |0,k,ae=>by
  rw[xv (L:=yN),Wo rfl,show k=us.length by omega,List.take_length];exact ci (by simp only[len];omega) (Tz aJ vs ws fu up al ah ak aj aa ab us cs W now aQ K D cs.length 0 (by omega))
 |d+1,k,ae=>by
  have I:=aQ.u _ (iu (l:=us) (k:=k) (by omega) (z.H z.aO));have G:=aQ.us;simp only at I G;rw[show W.length+1+cs.length+1+(d+1)+1=(W.length+1+cs.length+1+d+1)+1 by omega,xv (L:=yN),Wo rfl,cM,di (by omega)];have e:cat (us.take k) [(⟨⟨(nth us k (z.H z.aO)).f.words,(nth us k (z.H z.aO)).f.fuel⟩,(nth us k (z.H z.aO)).up,(nth us k (z.H z.aO)).n,(nth us k (z.H z.aO)).eG⟩:oi)]=us.take (k+1):=(iz (by omega) _).symm;rw[e];exact cV (by simp only[len];omega) ⟨⟨by omega,by simp only[len];omega⟩,by simp only[len];omega,by simp only[len,List.length_take,List.length_cons,List.length_nil];omega,Tr aJ vs ws fu up al ah ak aj aa ab us cs W now aQ K D d (k+1) (by omega)⟩
theorem Yq:bo 4 C5:=ai6 (Γ:=wT) 0 (((bn.f akO).f Ft).f akh) Tryz.func4 (by kernel_rfl) fun vs au=>by
 unfold C5;split;rotate_left;trivial;rename_i aJ vs ws fu up al ah ak aj aa ab us cs W now;refine⟨by kernel_rfl,fun ad K D=>?_⟩;have aQ:=B4.1 ad;refine⟨W.length+1+cs.length+1+us.length+2,?_⟩;refine abw (fun rec=>(by kernel_rfl:_=(
  (0+len aJ)*16<=140737488355328 /\
  (0+len vs)*16<=140737488355328 /\
  (len ws*8<=140737488355328/\len ah*8<=140737488355328/\len aa<=140737488355328/\len ab<=140737488355328) /\
  rec yN (Mj 0 (len us:Int) us ws fu up al ah ak aj aa ab now 0 false 0 0 0 0 aJ vs ws fu up al ah ak aj aa ab us cs W now (cat [] aJ) (cat [] vs) [] [] [] [] [] [] [] [] [] [] [] [])))) ?_
 have I:=aQ.b;have G:=aQ.s;have Y:=aQ.ws;have aS:=aQ.aF;have bj:=aQ.aa;have bK:=aQ.ab;simp only at I G Y aS bj bK;exact⟨by simp only[len];omega,by simp only[len];omega,⟨by simp only[len];omega,by simp only[len];omega,by simp only[len];omega,by simp only[len];omega⟩,Tr aJ vs ws fu up al ah ak aj aa ab us cs W now aQ K D us.length 0 (by omega)⟩

def Iq:a7
 |[.one (.E (.list .str) l),.one (.E .str s)],[]=>some (some (l.length<=140737488355328),.one (A (ev s l)),[])
 |_,_=>none
def F6:Ctx:=[]
def y3:List cu:=[.inLoop [8,7,4,0,1] (cy pz [1,0,1,0,0]),.inBlock 0,.code (cy pz [1,1])]
def MC(F ai M:Int)(ag:cD)(an:jM):bO:=⟨[(8,.one (A F)),(7,.one (A ai)),(4,.one (A M)),(0,.one (.E (z.list z.str) ag)),(1,.one (.E z.str an))],[],0⟩
theorem ah8(l:cD)(s:jM)(rec:bV)(K:aU):b5 F6 tab pz 0 K rec [.code (bR pz)] (df [.one (.E (z.list z.str) l),.one (.E z.str s)] [])=(
 rec y3 (MC 0 (len l:Int) 0 l s)):=by kernel_rfl
theorem WL{F:Int}{rec:bV}{K:aU}{ai M ag an}{v0}(bX:v0=fun a=>MC a ai M ag an):b5 F6 tab pz 0 K rec (cU y3) (v0 F)=(
 J (aL F ai)
 (((0:Int)<=F/\F<(len ag:Int)) /\
 J (eqs an (nth ag (Int.toNat F) (z.H z.str)))
 (K (.one (A F)) [])
 (rec y3 (v0 (U (F+1)))))
 (K (.one (A (-1))) [])):=by subst_vars;kernel_rfl

theorem Uw(l:cD)(s:jM)(az:l.length<=140737488355328)(K:aU):∀(d k:Nat),k+d=l.length->K (.one (A (hT k s (l.drop k)))) [] ->
  co F6 tab pz 0 K (d+1) y3 (MC (k:Int) (((len l):Nat):Int) 0 l s)
 |0,k,ae,D=>by
  rw[bW (L:=y3),WL rfl];rw[List.drop_of_length_le (by omega)]at D;exact ci (by simp only[len];omega) D
 |d+1,k,ae,D=>by
  rw[bW (L:=y3),WL rfl,cM];rw[ee (by omega) (z.H z.str)]at D;simp only[hT]at D;refine cV (by simp only[len];omega) ⟨⟨by omega,by simp only[len];omega⟩,b3 (fun h=>?_) (fun h=>?_)⟩
  ·rw[I5]at h;rw[if_pos h.symm]at D;exact D
  ·rw[I4]at h;rw[if_neg (fun e=>h e.symm)]at D;rw[di (by omega)];exact Uw l s az K d (k+1) (by omega) D
theorem NB:bo 98 Iq:=b2 (Γ:=F6) 0 bn Tryz.func98 (by kernel_rfl) fun vs au=>by
 unfold Iq;split;rotate_left;trivial;rename_i l s;refine⟨by kernel_rfl,fun ad K D=>?_⟩;refine⟨l.length+2,?_⟩;rw[eB,ah8 _ _ _ _];exact Uw l s ad K l.length 0 (by omega) D

def Ir:a7
 |[.one (.E (.list .str) l),.one (.E .str s)],[]=>some (some (l.length<=140737488355328),.one (ax (pE s l)),[])
 |_,_=>none

theorem ald:bo 89 Ir:=b2 0 (bn.f NB) Tryz.func89 (by kernel_rfl) fun vs au=>by
 unfold Ir;split;rotate_left;trivial;rename_i l s;refine⟨by kernel_rfl,fun ad K D=>?_⟩;refine⟨1,?_⟩;refine cf (fun rec=>(by kernel_rfl:_=(
  List.length l<=140737488355328 /\
  K (.one (ax (dh 0 (ev s l)))) []))) ?_
 rw[show dh 0 (ev s l)=pE s l from aeC s l];exact⟨ad,D⟩

def Db:a7
 |[.agg [.E (.list .str) l]],[]=>some (none,.one (A (fq l)),[])
 |_,_=>none
def OL:Ctx:=[(89,Ir)]
def y4:List cu:=[.inLoop [12,11,10,2,1] (Code.sub (bR Tryz.f20) [1,1,0,1,0,0]),.inBlock 0,.code (Code.sub (bR Tryz.f20) [1,1,1])]
def MD(F ai:Int)(M:cD)(ag:Int)(an:cD):bO:=⟨[(12,.one (A F)),(11,.one (A ai)),(10,.one (.E (z.list z.str) M)),(2,.one (A ag)),(1,.one (.ptr 0 0))],[(0,.box [.E (z.list z.str) an])],1⟩
theorem WM{F:Int}{rec:bV}{K:aU}{ai M ag an}{v1 v0}(b9:v1=fun a=>MD a ai M ag an)(bX:v0=pE (nth M (Int.toNat F) (z.H z.str)) (aW an (Int.toNat 0) (Int.toNat F))):b5 OL tab Tryz.f20 0 K rec (cU y4) (v1 F)=(
 J (aL F ai)
 (((0:Int)<=F/\F<(len M:Int)) /\
 J (aL 2000 (len (nth M (Int.toNat F) (z.H z.str)):Int))
 (K (.one (A 2)) [])
 (((0:Int)<=(0:Int)/\(0:Int)<=F/\F<=(len an:Int)) /\
 List.length (aW an (Int.toNat 0) (Int.toNat F))<=140737488355328 /\
 J v0
 (K (.one (A 6)) [])
 (rec y4 (v1 (U (F+1))))))
 (K (.one (A 0)) [])):=by subst_vars;kernel_rfl

theorem Ux(l:cD)(az:l.length<=60)(K:aU):∀(d k:Nat),k+d=l.length->K (.one (A (w4 (l.take k) (l.drop k)))) [] ->
  co OL tab Tryz.f20 0 K (d+1) y4 (MD (k:Int) (((len l):Nat):Int) l 0 l)
 |0,k,ae,D=>by
  rw[bW (L:=y4),WM rfl rfl];rw[List.drop_of_length_le (by omega)]at D;exact ci (by simp only[len];omega) D
 |d+1,k,ae,D=>by
  rw[bW (L:=y4),WM rfl rfl,cM,show Int.toNat (0:Int)=0 from rfl,Fj];rw[ee (by omega) (z.H z.str)]at D;simp only[w4]at D;refine cV (by simp only[len];omega) ⟨⟨by omega,by simp only[len];omega⟩,bq (fun h=>?_) (fun h=>⟨⟨by omega,by omega,by simp only[len];omega⟩,by rw[List.length_take];omega,b3 (fun G=>?_) (fun G=>?_)⟩)⟩
  ·rw[if_pos (by simp only[len]at h;omega)]at D;exact D
  ·rw[if_neg (by simp only[len]at h;omega),if_pos G]at D;exact D
  ·rw[if_neg (by simp only[len]at h;omega),if_neg (by rw[G];simp)]at D;rw[di (by omega)];rw[<- iz (by omega) (z.H z.str)]at D;exact Ux l az K d (k+1) (by omega) D
theorem Fy:bo 20 Db:=b2 (Γ:=OL) 0 (bn.f ald) Tryz.func20 (by kernel_rfl) fun vs au=>by
 unfold Db;split;rotate_left;trivial;rename_i l;refine⟨by kernel_rfl,fun K D=>?_⟩;refine⟨l.length+2,?_⟩;refine cf (fun rec=>(by kernel_rfl:_=(
  J (aL 60 (len l:Int))
  (K (.one (A 2)) [])
  (rec y4 (MD 0 (len l:Int) l 0 l))))) ?_
 unfold fq at D;refine bq (fun h=>?_) (fun h=>?_)
 ·rw[if_pos (by simp only[len]at h;omega)]at D;exact D
 ·rw[if_neg (by simp only[len]at h;omega)]at D;exact Ux l (by simp only[len]at h;omega) K l.length 0 (by omega) D

def z2:a7
 |[.one (.E (.list .signed) l)],[]=>some (none,.one (A (hO l)),[])
 |_,_=>none
def Od:Ctx:=[]
def x8:List cu:=[.inLoop [10,9,8,2] (Code.sub (bR Tryz.f21) [1,1,0,1,0,0]),.inBlock 0,.code (Code.sub (bR Tryz.f21) [1,1,1])]
def Lx(F ai:Int)(M:cG)(ag:Int):bO:=⟨[(10,.one (A F)),(9,.one (A ai)),(8,.one (.E (z.list z.signed) M)),(2,.one (A ag))],[],0⟩
theorem Vx{F:Int}{rec:bV}{K:aU}{ai M ag}{v0}(bX:v0=fun a=>Lx a ai M ag):b5 Od tab Tryz.f21 0 K rec (cU x8) (v0 F)=(
 J (aL F ai)
 (((0:Int)<=F/\F<(len M:Int)) /\
 J (aL (nth M (Int.toNat F) (z.H z.signed)).key 1)
 (K (.one (A 3)) [])
 (J (aL 50 (nth M (Int.toNat F) (z.H z.signed)).key)
 (K (.one (A 3)) [])
 (J (aL (nth M (Int.toNat F) (z.H z.signed)).name 1)
 (K (.one (A 3)) [])
 (J (aL 60 (nth M (Int.toNat F) (z.H z.signed)).name)
 (K (.one (A 3)) [])
 (rec x8 (v0 (U (F+1))))))))
 (K (.one (A 0)) [])):=by subst_vars;kernel_rfl

theorem TR(l:cG)(az:l.length<=360)(K:aU)(ag:Int):∀(d k:Nat),k+d=l.length->K (.one (A (if (l.drop k).all nm then 0 else 3))) [] ->
  co Od tab Tryz.f21 0 K (d+1) x8 (Lx (k:Int) (((len l):Nat):Int) l ag)
 |0,k,ae,D=>by
  rw[bW (L:=x8),Vx rfl];rw[List.drop_of_length_le (by omega)]at D;exact ci (by simp only[len];omega) D
 |d+1,k,ae,D=>by
  rw[bW (L:=x8),Vx rfl,cM];rw[ee (by omega) (z.H z.signed)]at D;obtain⟨x,aG⟩:∃x,nth l k (z.H z.signed)=x:=⟨_,rfl⟩
  rw[aG]at D |-;rw[List.all_cons]at D;have bad:¬(1<=x.key/\x.key<=50/\1<=x.name/\x.name<=60)->K (.one (A 3)) []:=fun h=>by
   rw[show nm x=false from by
    cases aA:nm x
    ·rfl
    ·simp only[nm,Bool.and_eq_true,decide_eq_true_eq]at aA;exact absurd aA (by omega)]at D
   exact D
  rw[di (by omega)];refine cV (by simp only[len];omega) ⟨⟨by omega,by simp only[len];omega⟩,bq (fun h=>bad (by omega)) (fun h=>bq (fun G=>bad (by omega)) (fun G=>bq (fun Y=>bad (by omega)) (fun Y=>bq (fun aS=>bad (by omega)) (fun aS=>?_))))⟩;rw[show nm x=true from by simp only[nm,Bool.and_eq_true,decide_eq_true_eq];omega,Bool.true_and]at D;exact TR l az K ag d (k+1) (by omega) D
theorem M9:bo 21 z2:=b2 (Γ:=Od) 0 bn Tryz.func21 (by kernel_rfl) fun vs au=>by
 unfold z2;split;rotate_left;trivial;rename_i l;refine⟨by kernel_rfl,fun K D=>?_⟩;refine⟨l.length+2,?_⟩;refine cf (fun rec=>(by kernel_rfl:_=(
  J (aL 360 (len l:Int))
  (K (.one (A 2)) [])
  (rec x8 (Lx 0 (len l:Int) l 0))))) ?_
 unfold hO at D;refine bq (fun h=>?_) (fun h=>?_)
 ·rw[if_pos (by simp only[len]at h;omega)]at D;exact D
 ·rw[if_neg (by simp only[len]at h;omega)]at D;exact TR l (by simp only[len]at h;omega) K 0 l.length 0 (by omega) D

def Qw:a7
 |[.agg [.E (.list .int) ws,.E .int fu]],[]=>some (none,.one (A (e9 ⟨ws,fu⟩)),[])
 |_,_=>none
def OJ:Ctx:=[]
def yZ:List cu:=[.inLoop [31,30,29,2] (Code.sub (bR Tryz.f145) [1,1,1,0,1,0,0]),.inBlock 0,.code (Code.sub (bR Tryz.f145) [1,1,1,1])]
def My(F ai:Int)(M:aK)(ag:Int):bO:=⟨[(31,.one (A F)),(30,.one (A ai)),(29,.one (af M)),(2,.one (A ag))],[],0⟩
theorem WE{F:Int}{rec:bV}{K:aU}{ai M ag}{v0}(bX:v0=fun a=>My a ai M ag):b5 OJ tab Tryz.f145 0 K rec (cU yZ) (v0 F)=(
 J (aL F ai)
 (((0:Int)<=F/\F<(len M:Int)) /\
 J (aL (nth M (Int.toNat F) (z.H z.int)) 0)
 (K (.one (A 3)) [])
 (J (aL 65535 (nth M (Int.toNat F) (z.H z.int)))
 (K (.one (A 3)) [])
 (rec yZ (v0 (U (F+1))))))
 (K (.one (A 0)) [])):=by subst_vars;kernel_rfl

theorem Uq(ws:aK)(az:ws.length<=192)(K:aU)(D:K (.one (A (if cC ws then 0 else 3))) []):∀(d k:Nat),k+d=ws.length->cC (ws.take k)=true ->
  co OJ tab Tryz.f145 0 K (d+1) yZ (My (k:Int) (((len ws):Nat):Int) ws (0:Int))
 |0,k,ae,bv=>by
  rw[bW (L:=yZ),WE rfl];refine ci (by simp only[len];omega) ?_;rw[List.take_of_length_le (by omega)]at bv;rw[if_pos bv]at D;exact D
 |d+1,k,ae,bv=>by
  rw[bW (L:=yZ),WE rfl];have bad:eR (nth ws k (z.H z.int))=false->K (.one (A 3)) []:=fun h=>by
   rw[show cC ws=false from all_false (k:=k) (by omega) _ h]at D;exact D
  refine cV (by simp only[len];omega) ⟨⟨by omega,by simp only[len];omega⟩,bq (fun h=>?_) (fun h=>bq (fun G=>?_) (fun G=>?_))⟩
  ·rw[cM]at h;exact bad (by simp only[eR,Bool.and_eq_false_iff,decide_eq_false_iff_not];exact .inl (by omega))
  ·rw[cM]at G;exact bad (by simp only[eR,Bool.and_eq_false_iff,decide_eq_false_iff_not];exact .inr (by omega))
  ·rw[di (by omega)];rw[cM]at h G;exact Uq ws az K D d (k+1) (by omega) (Cz (by omega) (z.H z.int) bv (by simp[eR,h,G]))
theorem B0:bo 145 Qw:=b2 (Γ:=OJ) 0 bn Tryz.func145 (by kernel_rfl) fun vs au=>by
 unfold Qw;split;rotate_left;trivial;rename_i ws fu;dsimp only[z.den]at ws fu;refine⟨by kernel_rfl,fun K D=>?_⟩;refine⟨ws.length+2,?_⟩;refine cf (fun rec=>(by kernel_rfl:_=(
  J (ar (len ws:Int) 0)
  (K (.one (A 4)) [])
  ((32:Int)≠(0:Int) /\
  J (!(ar (Int.tmod (len ws:Int) 32) 0))
  (K (.one (A 4)) [])
  (J (aL 192 (len ws:Int))
  (K (.one (A 4)) [])
  (J (aL fu (-1))
  (K (.one (A 3)) [])
  (J (aL 100000 fu)
  (K (.one (A 3)) [])
  (rec yZ (My 0 (len ws:Int) ws 0))))))))) ?_
 have four:kN ws.length=false->K (.one (A 4)) []:=fun h=>by
  rw[show e9 ⟨ws,fu⟩=4 from by simp[e9,h]]at D;exact D
 refine cI (fun h=>four ?_) (fun h=>⟨by decide,bG (fun G=>four ?_) (fun G=>bq (fun Y=>four ?_) (fun Y=>?_))⟩)
 ·simp only[len]at h;simp[kN];omega
 ·simp only[len]at G;rw[Int.tmod_eq_emod_of_nonneg (by omega)]at G;simp[kN];omega
 ·simp only[len]at Y;simp[kN];omega
 ·have hlen:kN ws.length=true:=by simp only[len]at h G Y;rw[Int.tmod_eq_emod_of_nonneg (by omega)]at G;simp[kN];omega
  have three:(decide (-1<=fu)&&decide (fu<=100000))=false->K (.one (A 3)) []:=fun h=>by
   rw[show e9 ⟨ws,fu⟩=3 from by simp[e9,hlen,h]]at D;exact D
  refine bq (fun aS=>three ?_) (fun aS=>bq (fun bj=>three ?_) (fun bj=>?_))
  ·simp;omega
  ·simp;omega
  ·refine Uq ws (by simp only[len]at Y;omega) K ?_ ws.length 0 (by omega) rfl;rw[show e9 ⟨ws,fu⟩=if cC ws then 0 else 3 from by simp[e9,hlen,aS,bj]]at D;exact D

def Ie:a7
 |[.agg [.E (.list .int) ws,.E .int _]],[]=>some (some (64<=len ws/\cC ws=true),.ao [.one (A (eg ws)),.one (A (eZ ws)),.one (ax (Ba ws))],[])
 |_,_=>none

theorem Nv:bo 155 Ie:=b2 0 bn Tryz.func155 (by kernel_rfl) fun vs au=>by
 unfold Ie;split;rotate_left;trivial;rename_i ws fu;dsimp only[z.den]at ws fu;refine⟨by kernel_rfl,fun ad K D=>?_⟩;obtain⟨az,fW⟩:=ad;refine⟨1,?_⟩;obtain⟨v0,bX⟩:∃v0,v0=K (.ao [.one (A 0),.one (A (nth ws (Int.toNat 0) (z.H z.int))),.one (ax (aL 0 (nth ws (Int.toNat 0) (z.H z.int))))]) []:=⟨_,rfl⟩
 obtain⟨v1,b9⟩:∃v1,v1=K (.ao [.one (A 1),.one (A (nth ws (Int.toNat 32) (z.H z.int))),.one (ax true)]) []:=⟨_,rfl⟩
 obtain⟨aC,cT⟩:∃aC,aC=K (.ao [.one (A 0),.one (A 0),.one (ax (aL 0 0))]) []:=⟨_,rfl⟩
 refine cf (fun rec=>(by subst cT b9 bX;kernel_rfl:_=(
  ((0:Int)<=(0:Int)/\(0:Int)<(len ws:Int)) /\
  ((0:Int)<=(32:Int)/\(32:Int)<(len ws:Int)) /\
  J (ar (nth ws (Int.toNat 0) (z.H z.int)) 65535)
  (J (ar (nth ws (Int.toNat 32) (z.H z.int)) 65535)
  aC
  (J (aL 0 (nth ws (Int.toNat 32) (z.H z.int)))
  v1
  aC))
  (J (ar (nth ws (Int.toNat 32) (z.H z.int)) 65535)
  (J (aL (nth ws (Int.toNat 0) (z.H z.int)) 0)
  (K (.ao [.one (A 1),.one (A 0),.one (ax true)]) [])
  v0)
  (J (aL (nth ws (Int.toNat 0) (z.H z.int)) (nth ws (Int.toNat 32) (z.H z.int)))
  v1
  v0))))) ?_
 subst cT b9 bX;have afp:=AA fW 0;have Bs:=AA fW 32;have dU:nth ws (Int.toNat (0:Int)) (z.H z.int)=ws.getD 0 0:=rfl;have aN:nth ws (Int.toNat (32:Int)) (z.H z.int)=ws.getD 32 0:=rfl;rw[dU,aN];have fe:eU ws 0=if ws.getD 0 0=65535 then 0 else ws.getD 0 0:=rfl
 have a1:eU ws 1=if ws.getD 32 0=65535 then 0 else ws.getD 32 0:=rfl
 unfold Ba eZ eg at D;refine⟨⟨by omega,by omega⟩,⟨by omega,by omega⟩,cI (fun h=>cI (fun G=>?_) (fun G=>bq (fun Y=>?_) (fun Y=>?_))) (fun h=>cI (fun G=>bq (fun Y=>?_) (fun Y=>?_)) (fun G=>bq (fun Y=>?_) (fun Y=>?_)))⟩
 ·rw[if_pos h]at fe;rw[if_pos G]at a1;rw[if_neg (by omega),fe]at D;exact D
 ·rw[if_pos h]at fe;rw[if_neg G]at a1;rw[if_pos (by omega),a1,show decide (0<ws.getD 32 0)=true from decide_eq_true Y]at D;exact D
 ·rw[if_pos h]at fe;rw[if_neg G]at a1;rw[if_neg (by omega),fe]at D;exact D
 ·omega
 ·rw[if_neg h]at fe;rw[if_pos G]at a1;rw[if_neg (by omega),fe]at D;exact D
 ·rw[if_neg h]at fe;rw[if_neg G]at a1;rw[if_pos (by omega),a1,show decide (0<ws.getD 32 0)=true from decide_eq_true (by omega)]at D;exact D
 ·rw[if_neg h]at fe;rw[if_neg G]at a1;rw[if_neg (by omega),fe]at D;exact D

def Ih:a7
 |[.agg [.E (.list .int) ws,.E .int fu]],[]=>some (none,.one (A (dC ⟨ws,fu⟩)),[])
 |_,_=>none

theorem Fw:bo 110 Ih:=b2 0 ((bn.f Nv).f B0) Tryz.func110 (by kernel_rfl) fun vs au=>by
 unfold Ih;split;rotate_left;trivial;rename_i ws fu;refine⟨by kernel_rfl,fun K D=>?_⟩;refine⟨1,?_⟩;refine cf (fun rec=>(by kernel_rfl:_=(
  J (!(ar (e9 (⟨ws,fu⟩:cp)) 0))
  (K (.one (A (e9 (⟨ws,fu⟩:cp)))) [])
  (J (aL (len ws:Int) 64)
  (K (.one (A 4)) [])
  ((64<=len ws/\cC ws=true) /\
  J (!(Ba ws))
  (K (.one (A 5)) [])
  (J (aL 60000 (eZ ws))
  (K (.one (A 5)) [])
  (K (.one (A 0)) []))))))) ?_
 unfold dC at D;refine bG (fun h=>?_) (fun h=>?_)
 ·rw[if_neg h]at D;exact D
 rw[if_pos h]at D;refine bq (fun G=>?_) (fun G=>?_)
 ·rw[if_neg (by simp only[len]at G |-; omega)]at D;exact D
 rw[if_pos (by simp only[len]at G |-; omega)]at D;refine⟨⟨by simp only[len]at G |-; omega,(jx h).2.2.2⟩,ew (fun Y=>?_) (fun Y=>bq (fun aS=>?_) (fun aS=>?_))⟩
 ·rw[if_neg (by simp only[Ba,decide_eq_false_iff_not]at Y |-; omega)]at D;exact D
 ·rw[if_neg (by simp only;omega)]at D;exact D
 ·rw[if_pos (by simp only[Ba,decide_eq_true_eq]at Y |-; omega)]at D;exact D

def Iu:a7
 |[.agg [.E .int v,.E (.list .int) aF,.E .int t]],[]=>some (none,.one (A (gf v aF t)),[])
 |_,_=>none
def OM:Ctx:=[]
def wh:List cu:=[.inLoop [26,25,24,2,1] (Code.sub (bR Tryz.f166) [1,1,1,0,1,0,0]),.inBlock 0,.code (Code.sub (bR Tryz.f166) [1,1,1,1])]
def MG(F ai:Int)(M:aK)(ag an:Int)(aE:aK)(aI:Int):bO:=⟨[(26,.one (A F)),(25,.one (A ai)),(24,.one (af M)),(2,.one (A ag)),(1,.one (.ptr 0 0))],[(0,.box [A an,af aE,A aI])],1⟩
theorem WR{F:Int}{rec:bV}{K:aU}{ai M ag an aE aI}{v0}(bX:v0=fun a=>MG a ai M ag an aE aI):b5 OM tab Tryz.f166 0 K rec (cU wh) (v0 F)=(
 J (aL F ai)
 (((0:Int)<=F/\F<(len M:Int)) /\
 J (aL (nth M (Int.toNat F) (z.H z.int)) 1)
 (K (.one (A 3)) [])
 (J (aL 50 (nth M (Int.toNat F) (z.H z.int)))
 (K (.one (A 3)) [])
 (J (aL 0 F)
 (((0:Int)<=U (F-1)/\U (F-1)<(len aE:Int)) /\
 J (dh (nth M (Int.toNat F) (z.H z.int)) (nth aE (Int.toNat (U (F-1))) (z.H z.int)))
 (K (.one (A 6)) [])
 (rec wh (v0 (U (F+1)))))
 (rec wh (v0 (U (F+1)))))))
 (J (aL aI 1)
 (K (.one (A 4)) [])
 (J (aL (len aE:Int) aI)
 (K (.one (A 4)) [])
 (K (.one (A 0)) [])))):=by subst_vars;kernel_rfl

theorem KO(aF:aK)(v t:Int)(az:aF.length<=6)(K:aU)(last:Nat->Option Int)(a2:last 0=none)(av:∀k,k<aF.length->last (k+1)=some (nth aF k 0)):∀(d k:Nat),k+d=aF.length ->
  K (.one (A (zf (l2 (last k) (aF.drop k)) t aF.length))) [] ->
  co OM tab Tryz.f166 0 K (d+1) wh (MG (k:Int) (((len aF):Nat):Int) aF 0 v aF t)
 |0,k,ae,D=>by
  rw[bW (L:=wh),WR rfl];rw[List.drop_of_length_le (by omega)]at D;rw[show zf (l2 (last k) []) t aF.length=if t<1\/(aF.length:Int)<t then 4 else 0 from rfl]at D;refine ci (by simp only[len];omega) (bq (fun h=>?_) (fun h=>bq (fun G=>?_) (fun G=>?_)))
  ·rw[if_pos (.inl h)]at D;exact D
  ·rw[if_pos (.inr G)]at D;exact D
  ·rw[if_neg (by simp only[len]at G;omega)]at D;exact D
 |d+1,k,ae,D=>by
  rw[bW (L:=wh),WR rfl,cM];rw[ee (by omega) (z.H z.int)]at D;have Kh:=av k (by omega);have e:nth aF k (z.H z.int)=nth aF k 0:=rfl;rw[e]at D |-;obtain⟨x,aG⟩:∃x,nth aF k (0:Int)=x:=⟨_,rfl⟩
  rw[aG]at D Kh |-;have hF:U ((k:Int)+1)=((k+1:Nat):Int):=di (by omega);rw[hF];refine cV (by simp only[len];omega) ⟨⟨by omega,by simp only[len];omega⟩,bq (fun h=>?_) (fun h=>bq (fun G=>?_) (fun G=>?_))⟩
  ·rw[show l2 (last k) (x::aF.drop (k+1))=3 from if_pos (.inl h)]at D;exact D
  ·rw[show l2 (last k) (x::aF.drop (k+1))=3 from if_pos (.inr G)]at D;exact D
  ·rw[show l2 (last k) (x::aF.drop (k+1))=if n3 (last k) x then 6 else l2 (some x) (aF.drop (k+1))from if_neg (by omega)]at D;refine bq (fun Y=>?_) (fun Y=>?_)
   ·obtain⟨j,rfl⟩:∃j,k=j+1:=⟨k-1,by omega⟩
    have aT:=av j (by omega);rw[aT]at D;rw[cb (n:=((j+1:Nat):Int)-1) (by omega) (by omega),show Int.toNat (((j+1:Nat):Int)-1)=j by omega];have aX:nth aF j (z.H z.int)=nth aF j 0:=rfl;rw[aX];refine⟨⟨by omega,by simp only[len];omega⟩,b3 (fun aS=>?_) (fun aS=>?_)⟩
    ·rw[fY]at aS;rw[if_pos (show n3 (some (nth aF j 0)) x=true from decide_eq_true aS)]at D;exact D
    ·rw[eL]at aS;rw[if_neg (show ¬n3 (some (nth aF j 0)) x=true from by simp only[n3,decide_eq_true_eq];omega)]at D;refine KO aF v t az K last a2 av d (j+1+1) (by omega) ?_;rw[Kh];exact D
   ·have acH:k=0:=by omega
    subst acH;rw[a2]at D;rw[if_neg (show ¬n3 none x=true from by simp[n3])]at D;refine KO aF v t az K last a2 av d 1 (by omega) ?_;rw[Kh];exact D
theorem NG:bo 166 Iu:=b2 (Γ:=OM) 0 bn Tryz.func166 (by kernel_rfl) fun vs au=>by
 unfold Iu;split;rotate_left;trivial;rename_i v aF t;refine⟨by kernel_rfl,fun K D=>?_⟩;refine⟨aF.length+2,?_⟩;refine cf (fun rec=>(by kernel_rfl:_=(
  J (aL v 1)
  (K (.one (A 3)) [])
  (J (aL 1000 v)
  (K (.one (A 3)) [])
  (J (ar (len aF:Int) 0)
  (K (.one (A 2)) [])
  (J (aL 6 (len aF:Int))
  (K (.one (A 2)) [])
  (rec wh (MG 0 (len aF:Int) aF 0 v aF t)))))))) ?_
 unfold gf at D;refine bq (fun h=>?_) (fun h=>bq (fun G=>?_) (fun G=>cI (fun Y=>?_) (fun Y=>bq (fun aS=>?_) (fun aS=>?_))))
 ·rw[if_pos (.inl h)]at D;exact D
 ·rw[if_pos (.inr G)]at D;exact D
 ·rw[if_neg (by omega),if_pos (by simp only[len]at Y;omega)]at D;exact D
 ·rw[if_neg (by omega),if_pos (by simp only[len]at aS;omega)]at D;exact D
 ·rw[if_neg (by omega),if_neg (by simp only[len]at Y aS;omega)]at D;exact KO aF v t (by simp only[len]at aS;omega) K (fun k=>match k with|0=>none|k+1=>some (nth aF k 0)) rfl (fun k _=>rfl) aF.length 0 (by omega) D

def CN:a7
 |[.agg [.E .int v,.E (.list .int) aF,.E .int t,.E .int n]],[]=>some (none,.one (A (g5 ⟨⟨v,aF,t⟩,n⟩)),[])
 |_,_=>none

theorem Na:bo 111 CN:=b2 0 (bn.f NG) Tryz.func111 (by kernel_rfl) fun vs au=>by
 unfold CN;split;rotate_left;trivial;rename_i v aF t n;refine⟨by kernel_rfl,fun K D=>?_⟩;refine⟨1,?_⟩;refine cf (fun rec=>(by kernel_rfl:_=(
  J (aL n 0)
  (K (.one (A 3)) [])
  (J (aL 1000 n)
  (K (.one (A 3)) [])
  (K (.one (A (gf v aF t))) []))))) ?_
 unfold g5 at D;simp only at D;refine bq (fun h=>?_) (fun h=>bq (fun G=>?_) (fun G=>?_))
 ·rw[if_pos (.inl h)]at D;exact D
 ·rw[if_pos (.inr G)]at D;exact D
 ·rw[if_neg (by omega)]at D;exact D

def G4:a7
 |[.agg [.E (.list .int) ws,.E .int fu,.E .bool up,.E .int al,.E (.list .int) ah,.E .int ak,.E .int aj,.E (.list .bool) aa,.E (.list .bool) ab]],[]=>some (none,.one (A (dG ⟨⟨ws,fu⟩,up,⟨⟨al,ah,ak⟩,aj⟩,aa,ab⟩)),[])
 |_,_=>none

theorem zl:bo 45 G4:=b2 0 ((bn.f Na).f Fw) Tryz.func45 (by kernel_rfl) fun vs au=>by
 unfold G4;split;rotate_left;trivial;rename_i ws fu up al ah ak aj aa ab;refine⟨by kernel_rfl,fun K D=>?_⟩;refine⟨1,?_⟩;refine cf (fun rec=>(by kernel_rfl:_=(
  J (!(ar (dC ⟨ws,fu⟩) 0))
  (K (.one (A (dC ⟨ws,fu⟩))) [])
  (J (aL (len aa:Int) 1)
  (K (.one (A 4)) [])
  (J (aL 4 (len aa:Int))
  (K (.one (A 4)) [])
  (J (!(ar (len ab:Int) (len aa:Int)))
  (K (.one (A 4)) [])
  (K (.one (A (g5 ⟨⟨al,ah,ak⟩,aj⟩))) []))))))) ?_
 unfold dG at D;simp only at D;refine bG (fun h=>?_) (fun h=>?_)
 ·rw[if_neg h]at D;exact D
 ·rw[if_pos h]at D;have dY:((len aa:Nat):Int)=(aa.length:Int):=rfl;have gI:((len ab:Nat):Int)=(ab.length:Int):=rfl;rw[dY,gI]
  by_cases c:aa.length<1\/4<aa.length\/ab.length≠aa.length
  ·rw[if_pos c]at D;exact bq (fun _=>D) (fun _=>bq (fun _=>D) (fun _=>UM (by omega) D))
  ·rw[if_neg c]at D;exact ci (by omega) (ci (by omega) (qI (by omega) D))

def GO:a7
 |[.agg [.E (.list .int) ws,.E .int fu,.E .bool up,.E .int bw,.E .int bz]],[]=>some (none,.one (A (e4 ⟨⟨ws,fu⟩,up,bw,bz⟩)),[])
 |_,_=>none

theorem BW:bo 46 GO:=b2 0 (bn.f Fw) Tryz.func46 (by kernel_rfl) fun vs au=>by
 unfold GO;split;rotate_left;trivial;rename_i ws fu up bw bz;refine⟨by kernel_rfl,fun K D=>?_⟩;refine⟨1,?_⟩;refine cf (fun rec=>(by kernel_rfl:_=(
  J (!(ar (dC ⟨ws,fu⟩) 0))
  (K (.one (A (dC ⟨ws,fu⟩))) [])
  (J (!(ar (len ws:Int) 192))
  (K (.one (A 4)) [])
  (J (aL bw 0)
  (K (.one (A 3)) [])
  (J (aL 8 bw)
  (K (.one (A 3)) [])
  (J (aL bz 0)
  (K (.one (A 3)) [])
  (J (aL 40 bz)
  (K (.one (A 3)) [])
  (K (.one (A 0)) []))))))))) ?_
 unfold e4 at D;simp only at D;refine bG (fun h=>?_) (fun h=>bG (fun G=>?_) (fun G=>bq (fun Y=>?_) (fun Y=>bq (fun aS=>?_) (fun aS=>bq (fun bj=>?_) (fun bj=>bq (fun bK=>?_) (fun bK=>?_))))))
 ·rw[if_neg h]at D;exact D
 ·rw[if_pos h,if_neg (by simp only[len]at G;omega)]at D;exact D
 all_goals rw[if_pos h,if_pos (by simp only[len]at G;omega)]at D
 ·rw[if_pos (by omega)]at D;exact D
 ·rw[if_pos (by omega)]at D;exact D
 ·rw[if_pos (by omega)]at D;exact D
 ·rw[if_pos (by omega)]at D;exact D
 ·rw[if_neg (by omega)]at D;exact D

def De:a7
 |[.one (.E (.list .int) l)],[]=>some (none,.one (A (fv l)),[])
 |_,_=>none
def ON:Ctx:=[]
def y8:List cu:=[.inLoop [15,14,13,2] (Code.sub (bR Tryz.f94) [1,1,0,1,0,0]),.inBlock 0,.code (Code.sub (bR Tryz.f94) [1,1,1])]
def MH(F ai:Int)(M:aK)(ag:Int):bO:=⟨[(15,.one (A F)),(14,.one (A ai)),(13,.one (af M)),(2,.one (A ag))],[],0⟩
theorem WT{F:Int}{rec:bV}{K:aU}{ai M ag}{v0}(bX:v0=fun a=>MH a ai M ag):b5 ON tab Tryz.f94 0 K rec (cU y8) (v0 F)=(
 J (aL F ai)
 (((0:Int)<=F/\F<(len M:Int)) /\
 J (aL (nth M (Int.toNat F) (z.H z.int)) 0)
 (K (.one (A 3)) [])
 (J (aL 65535 (nth M (Int.toNat F) (z.H z.int)))
 (K (.one (A 3)) [])
 (rec y8 (v0 (U (F+1))))))
 (K (.one (A 0)) [])):=by subst_vars;kernel_rfl

theorem UB(ws:aK)(az:ws.length<=40)(K:aU)(D:K (.one (A (if cC ws then 0 else 3))) []):∀(d k:Nat),k+d=ws.length->cC (ws.take k)=true ->
  co ON tab Tryz.f94 0 K (d+1) y8 (MH (k:Int) (((len ws):Nat):Int) ws (0:Int))
 |0,k,ae,bv=>by
  rw[bW (L:=y8),WT rfl];refine ci (by simp only[len];omega) ?_;rw[List.take_of_length_le (by omega)]at bv;rw[if_pos bv]at D;exact D
 |d+1,k,ae,bv=>by
  rw[bW (L:=y8),WT rfl];have bad:eR (nth ws k (z.H z.int))=false->K (.one (A 3)) []:=fun h=>by
   rw[show cC ws=false from all_false (k:=k) (by omega) _ h]at D;exact D
  refine cV (by simp only[len];omega) ⟨⟨by omega,by simp only[len];omega⟩,bq (fun h=>?_) (fun h=>bq (fun G=>?_) (fun G=>?_))⟩
  ·rw[cM]at h;exact bad (by simp only[eR,Bool.and_eq_false_iff,decide_eq_false_iff_not];exact .inl (by omega))
  ·rw[cM]at G;exact bad (by simp only[eR,Bool.and_eq_false_iff,decide_eq_false_iff_not];exact .inr (by omega))
  ·rw[di (by omega)];rw[cM]at h G;exact UB ws az K D d (k+1) (by omega) (Cz (by omega) (z.H z.int) bv (by simp[eR,h,G]))
theorem NH:bo 94 De:=b2 (Γ:=ON) 0 bn Tryz.func94 (by kernel_rfl) fun vs au=>by
 unfold De;split;rotate_left;trivial;rename_i l;refine⟨by kernel_rfl,fun K D=>?_⟩;refine⟨l.length+2,?_⟩;refine cf (fun rec=>(by kernel_rfl:_=(
  J (ar (len l:Int) 0)
  (K (.one (A 2)) [])
  (J (aL 40 (len l:Int))
  (K (.one (A 2)) [])
  (rec y8 (MH 0 (len l:Int) l 0)))))) ?_
 unfold fv at D;refine cI (fun h=>?_) (fun h=>bq (fun G=>?_) (fun G=>?_))
 ·rw[if_pos (by simp only[len]at h;omega)]at D;exact D
 ·rw[if_pos (by simp only[len]at G;omega)]at D;exact D
 ·rw[if_neg (by simp only[len]at h G;omega)]at D;exact UB l (by simp only[len]at G;omega) K D l.length 0 (by omega) rfl

def Dd:a7
 |[.agg [.E .int v,.E .int u,.E (.list .target) ts]],[]=>some (none,.one (A (gG v u ts)),[])
 |_,_=>none
def wV:Ctx:=[]
def y7:List cu:=[.inLoop [38,37,36,2] (cy pA [1,1,1,0,1,0,0]),.inBlock 0,.code (cy pA [1,1,1,1])]
def E0(F ai:Int)(M:LT)(ag:Int):bO:=⟨[(38,.one (A F)),(37,.one (A ai)),(36,.one (.E (z.list z.target) M)),(2,.one (A ag))],[],0⟩
def pT:List cu:=[.inLoop [55,54,53,52,51,50,49,48,47,46,45,44,43,3,4,42,41,40,39,38,37,36,2] (cy pA [1,1,1,0,1,0,0,1,1,0,0,1,1,0,0]),.inBlock 2,.inBlock 1,.code (cy pA [1,1,1,0,1,0,0,1,1,1]),.inLoop [38,37,36,2] (cy pA [1,1,1,0,1,0,0]),.inBlock 0,.code (cy pA [1,1,1,1])]
def BH(F ai M ag an aE aI aV aZ bd bu bx br bD bM bJ bP bC bT b1 cw cB cY c6 dc dz dD dZ:Int)(ea:LT)(dB:Nat)(dS:Int)(dF:Bool)(eo em:Int)(ep:LT)(eS fR fS gq:Int):bO:=⟨[(55,.one (A F)),(54,.agg [A ai,A M,A ag,A an,A aE,A aI,A aV,A aZ,A bd]),(53,.agg [A bu,A bx,A br]),(52,.one (A bD)),(51,.one (.ptr 0 2)),(50,.agg [A bM,A bJ,A bP]),(49,.one (A bC)),(48,.one (.ptr 0 1)),(47,.agg [A bT,A b1,A cw]),(46,.one (A cB)),(45,.one (A cY)),(44,.one (A c6)),(43,.one (.ptr 0 0)),(3,.one (A dc)),(4,.one (.ptr 0 0)),(42,.agg [A dz,A dD,A dZ]),(41,.one (.mw z.target ea dB 0)),(40,.one (A dS)),(39,.one (ax dF)),(38,.one (A eo)),(37,.one (A em)),(36,.one (.E (z.list z.target) ep)),(2,.one (A eS))],[(0,.box [A fR,A fS,A gq])],1⟩
theorem WS{F ai ag:Int}{M:LT}{rec:bV}{K:aU}:b5 wV tab pA 0 K rec (cU y7) (E0 F ai M ag)=(
 J (aL F ai)
 (((0:Int)<=F/\F<(len M:Int)) /\
 rec pT (BH 0 (nth M (Int.toNat F) (z.H z.target)).unit F F (nth M (Int.toNat F) (z.H z.target)).image 1 60 (nth M (Int.toNat F) (z.H z.target)).dr 1 40 (nth M (Int.toNat F) (z.H z.target)).dr 1 40 (nth M (Int.toNat F) (z.H z.target)).dr (nth M (Int.toNat F) (z.H z.target)).image 1 60 (nth M (Int.toNat F) (z.H z.target)).image (nth M (Int.toNat F) (z.H z.target)).unit F F F F (nth M (Int.toNat F) (z.H z.target)).unit F (nth M (Int.toNat F) (z.H z.target)).unit (nth M (Int.toNat F) (z.H z.target)).image (nth M (Int.toNat F) (z.H z.target)).dr M (Int.toNat F) F (aL F ai) F ai M ag (nth M (Int.toNat F) (z.H z.target)).unit (nth M (Int.toNat F) (z.H z.target)).image (nth M (Int.toNat F) (z.H z.target)).dr))
 (K (.one (A 0)) [])):=by kernel_rfl
theorem aib{ai M ag an aE aI aV aZ bd bu bx br bD bM bJ bP bC bT b1 cw cB cY c6 dc dz dD dZ dS eo em eS fR fS gq:Int}{ea ep:LT}{dB:Nat}{dF:Bool}{rec:bV}{K:aU}{v0}(bX:v0=fun a=>BH a ai M ag an aE aI aV aZ bd bu bx br bD bM bJ bP bC bT b1 cw cB cY c6 dc dz dD dZ ea dB dS dF eo em ep eS fR fS gq):b5 wV tab pA 0 K rec (cU pT) (v0 0)=(
 ((0:Int)<=(0:Int)/\(0:Int)<((3:Nat):Int)) /\
 ((0:Int)<=(0:Int)/\(0:Int)<((3:Nat):Int)) /\
 ((0:Int)<=(1:Int)/\(1:Int)<((3:Nat):Int)) /\
 J (aL ai M)
 (K (.one (A 3)) [])
 (((0:Int)<=(0:Int)/\(0:Int)<((3:Nat):Int)) /\
 ((0:Int)<=(2:Int)/\(2:Int)<((3:Nat):Int)) /\
 J (aL ag ai)
 (K (.one (A 3)) [])
 (rec pT (v0 (U ((0:Int)+(1:Int))))))):=by subst_vars;kernel_rfl
theorem aic{ai M ag an aE aI aV aZ bd bu bx br bD bM bJ bP bC bT b1 cw cB cY c6 dc dz dD dZ dS eo em eS fR fS gq:Int}{ea ep:LT}{dB:Nat}{dF:Bool}{rec:bV}{K:aU}{v0}(bX:v0=fun a=>BH a ai M ag an aE aI aV aZ bd bu bx br bD bM bJ bP bC bT b1 cw cB cY c6 dc dz dD dZ ea dB dS dF eo em ep eS fR fS gq):b5 wV tab pA 0 K rec (cU pT) (v0 1)=(
 ((0:Int)<=(1:Int)/\(1:Int)<((3:Nat):Int)) /\
 ((0:Int)<=(0:Int)/\(0:Int)<((3:Nat):Int)) /\
 ((0:Int)<=(1:Int)/\(1:Int)<((3:Nat):Int)) /\
 J (aL an aE)
 (K (.one (A 3)) [])
 (((0:Int)<=(0:Int)/\(0:Int)<((3:Nat):Int)) /\
 ((0:Int)<=(2:Int)/\(2:Int)<((3:Nat):Int)) /\
 J (aL aI an)
 (K (.one (A 3)) [])
 (rec pT (v0 (U ((1:Int)+(1:Int))))))):=by subst_vars;kernel_rfl
theorem aid{ai M ag an aE aI aV aZ bd bu bx br bD bM bJ bP bC bT b1 cw cB cY c6 dc dz dD dZ dS eo em eS fR fS gq:Int}{ea ep:LT}{dB:Nat}{dF:Bool}{rec:bV}{K:aU}{v0}(bX:v0=fun a=>BH a ai M ag an aE aI aV aZ bd bu bx br bD bM bJ bP bC bT b1 cw cB cY c6 dc dz dD dZ ea dB dS dF eo em ep eS fR fS gq):b5 wV tab pA 0 K rec (cU pT) (v0 2)=(
 ((0:Int)<=(2:Int)/\(2:Int)<((3:Nat):Int)) /\
 ((0:Int)<=(0:Int)/\(0:Int)<((3:Nat):Int)) /\
 ((0:Int)<=(1:Int)/\(1:Int)<((3:Nat):Int)) /\
 J (aL aV aZ)
 (K (.one (A 3)) [])
 (((0:Int)<=(0:Int)/\(0:Int)<((3:Nat):Int)) /\
 ((0:Int)<=(2:Int)/\(2:Int)<((3:Nat):Int)) /\
 J (aL bd aV)
 (K (.one (A 3)) [])
 (rec pT (v0 (U ((2:Int)+(1:Int))))))):=by subst_vars;kernel_rfl
theorem aie{ai M ag an aE aI aV aZ bd bu bx br bD bM bJ bP bC bT b1 cw cB cY c6 dc dz dD dZ dS eo em eS fR fS gq:Int}{ea ep:LT}{dB:Nat}{dF:Bool}{rec:bV}{K:aU}:b5 wV tab pA 0 K rec (cU pT) (BH 3 ai M ag an aE aI aV aZ bd bu bx br bD bM bJ bP bC bT b1 cw cB cY c6 dc dz dD dZ ea dB dS dF eo em ep eS fR fS gq)=(
 rec y7 (E0 (U (eo+1)) em ep eS)):=by kernel_rfl

theorem UA(ts:LT)(az:ts.length<=4)(K:aU):∀(d k:Nat),k+d=ts.length->K (.one (A (if j2 (k:Int) (ts.drop k)then 0 else 3))) [] ->
  co wV tab pA 0 K (5*d+1) y7 (E0 (k:Int) (((len ts):Nat):Int) ts 0)
 |0,k,ae,D=>by
  rw[show 5*0+1=0+1 by omega,bW (L:=y7),WS ];rw[List.drop_of_length_le (by omega)]at D;exact ci (by simp only[len];omega) D
 |d+1,k,ae,D=>by
  rw[show 5*(d+1)+1=(5*d+1+1+1+1+1)+1 by omega,bW (L:=y7),WS ,cM];rw[ee (by omega) (z.H z.target)]at D;obtain⟨x,aG⟩:∃x,nth ts k (z.H z.target)=x:=⟨_,rfl⟩
  rw[aG]at D |-;have three:qM (k:Int) x=false->K (.one (A 3)) []:=fun h=>by rw[show j2 (k:Int) (x::ts.drop (k+1))=false from by simp[j2,h]]at D;exact D
  have AY:qM (k:Int) x=true↔(x.unit=k/\1<=x.image/\x.image<=60/\1<=x.dr/\x.dr<=40):=by
   simp only[qM,Bool.and_eq_true,decide_eq_true_eq];omega
  have bad:¬(x.unit=k/\1<=x.image/\x.image<=60/\1<=x.dr/\x.dr<=40)->K (.one (A 3)) []:=fun h=>three (by
   cases aA:qM (k:Int) x
   ·rfl
   ·exact absurd (AY.1 aA) h)
  refine cV (by simp only[len];omega) ⟨⟨by omega,by simp only[len];omega⟩,?_⟩;rw[bW (L:=pT),aib rfl];refine⟨by omega,by omega,by omega,bq (fun h=>bad (by omega)) (fun h=>⟨by omega,by omega,bq (fun G=>bad (by omega)) (fun G=>?_)⟩)⟩;rw[show U ((0:Int)+1)=1 from cb (by omega) (by omega),bW (L:=pT),aic rfl];refine⟨by omega,by omega,by omega,bq (fun Y=>bad (by omega)) (fun Y=>⟨by omega,by omega,bq (fun aS=>bad (by omega)) (fun aS=>?_)⟩)⟩;rw[show U ((1:Int)+1)=2 from cb (by omega) (by omega),bW (L:=pT),aid rfl];refine⟨by omega,by omega,by omega,bq (fun bj=>bad (by omega)) (fun bj=>⟨by omega,by omega,bq (fun bK=>bad (by omega)) (fun bK=>?_)⟩)⟩;rw[show U ((2:Int)+1)=3 from cb (by omega) (by omega),bW (L:=pT),aie ,di (by omega)];rw[show j2 (k:Int) (x::ts.drop (k+1))=j2 ((k:Int)+1) (ts.drop (k+1))from by simp only[j2,AY.2 (show _ by omega),Bool.true_and]]at D;exact UA ts az K d (k+1) (by omega) (by rw[show((k+1:Nat):Int)=(k:Int)+1 by omega];exact D)
theorem YD:bo 112 Dd:=b2 (Γ:=wV) 0 bn Tryz.func112 (by kernel_rfl) fun vs au=>by
 unfold Dd;split;rotate_left;trivial;rename_i v u ts;refine⟨by kernel_rfl,fun K D=>?_⟩;refine⟨5*ts.length+1+1,?_⟩;refine cf (fun rec=>(by kernel_rfl:_=(
  J (aL v 1)
  (K (.one (A 3)) [])
  (J (aL 1000 v)
  (K (.one (A 3)) [])
  (J (aL u 0)
  (K (.one (A 3)) [])
  (J (aL 100000 u)
  (K (.one (A 3)) [])
  (J (ar (len ts:Int) 0)
  (K (.one (A 2)) [])
  (J (aL 4 (len ts:Int))
  (K (.one (A 2)) [])
  (rec y7 (E0 0 (len ts:Int) ts 0)))))))))) ?_
 unfold gG at D;refine bq (fun h=>?_) (fun h=>bq (fun G=>?_) (fun G=>bq (fun Y=>?_) (fun Y=>bq (fun aS=>?_) (fun aS=>cI (fun bj=>?_) (fun bj=>bq (fun bK=>?_) (fun bK=>?_))))))
 ·rw[if_pos (by omega)]at D;exact D
 ·rw[if_pos (by omega)]at D;exact D
 ·rw[if_pos (by omega)]at D;exact D
 ·rw[if_pos (by omega)]at D;exact D
 ·rw[if_neg (by omega),if_pos (by simp only[len]at bj;omega)]at D;exact D
 ·rw[if_neg (by omega),if_pos (by simp only[len]at bK;omega)]at D;exact D
 ·rw[if_neg (by omega),if_neg (by simp only[len]at bj bK;omega)]at D;exact UA ts (by simp only[len]at bK;omega) K ts.length 0 (by omega) D

def HC:a7
 |[.agg [.E .int eA,.E .int eY,.E .int ei,.E (.list .target) dH,.E (.list (.list .int)) cP],.one (.E .int n),.one (.E .int units)],[]=>some (some (0<=units/\units<=1000),.one (A (ou ⟨eA,⟨eY,ei,dH⟩,cP⟩ n units.toNat)),[])
 |_,_=>none
def Co:Ctx:=[(94,De),(112,Dd)]
theorem afP:fr Tryz.prog tab Co:=((bn.f YD).f NH)
def yr:List cu:=[.inLoop [32,31,30,6,3] (Code.sub (bR Tryz.f47) [1,1,0,1,0,0]),.inBlock 0,.code (Code.sub (bR Tryz.f47) [1,1,1])]
def LX(F ai:Int)(M:cj)(ag an aE aI:Int)(aV:LT)(aZ:cj):bO:=⟨[(32,.one (A F)),(31,.one (A ai)),(30,.one (ct M)),(6,.one (A ag)),(3,.one (.ptr 0 0))],[(0,.box [A an,A aE,A aI,.E (z.list z.target) aV,ct aZ])],1⟩
theorem ahx(eA eY ei:Int)(dH:LT)(cP:cj)(n units:Int)(rec:bV)(K:aU):b5 Co tab Tryz.f47 0 K rec [.code (bR Tryz.f47)] (df [.agg [A eA,A eY,A ei,.E (z.list z.target) dH,ct cP],.one (A n),.one (A units)] [])=(
 J (!(ar eA n))
 (K (.one (A 4)) [])
 (J (!(ar (len cP:Int) units))
 (K (.one (A 4)) [])
 (J (!(ar (len dH:Int) units))
 (K (.one (A 4)) [])
 (rec yr (LX 0 (len cP:Int) cP 0 eA eY ei dH cP))))):=by kernel_rfl
theorem VZ{F:Int}{rec:bV}{K:aU}{ai M ag an aE aI aV aZ}{aC v0 v1}(cT:aC=fun a=>LX a ai M ag an aE aI aV aZ)(bX:v0=fv (nth M (Int.toNat F) (z.H (z.list z.int))))(b9:v1=gG aE aI aV):b5 Co tab Tryz.f47 0 K rec (cU yr) (aC F)=(
 J (aL F ai)
 (((0:Int)<=F/\F<(len M:Int)) /\
 J (!(ar v0 0))
 (K (.one (A v0)) [])
 (rec yr (aC (U (F+1)))))
 (K (.one (A v1)) [])):=by subst_vars;kernel_rfl

theorem T9(l:cj)(az:l.length<=1000)(K:aU)(ag eA eY ei:Int)(dH:LT)(cP:cj):∀(d k:Nat),k+d=l.length->K (.one (A (if lx (l.drop k)=0 then gG eY ei dH else lx (l.drop k)))) [] ->
  co Co tab Tryz.f47 0 K (d+1) yr (LX (k:Int) (((len l):Nat):Int) l ag eA eY ei dH cP)
 |0,k,ae,D=>by
  rw[bW (L:=yr),VZ rfl rfl rfl];rw[List.drop_of_length_le (by omega)]at D;exact ci (by simp only[len];omega) D
 |d+1,k,ae,D=>by
  rw[bW (L:=yr),VZ rfl rfl rfl,cM,di (by omega)];rw[ee (by omega) (z.H (z.list z.int))]at D;unfold lx at D;refine cV (by simp only[len];omega) ⟨⟨by omega,by simp only[len];omega⟩,bG (fun h=>?_) (fun h=>?_)⟩
  ·rw[if_neg h,if_neg h]at D;exact D
  ·rw[if_pos h]at D;exact T9 l az K ag eA eY ei dH cP d (k+1) (by omega) D
theorem aiN(ad:0<=units/\units<=1000)(K:aU)(D:K (.one (A (ou ⟨eA,⟨eY,ei,dH⟩,cP⟩ n units.toNat))) []):∃m,co Co tab Tryz.f47 0 K m [.code (bR Tryz.f47)] (df [.agg [A eA,A eY,A ei,.E (.list .target) dH,ct cP],.one (A n),.one (A units)] []):=by
 obtain⟨ad,anm⟩:=ad;obtain⟨u,rfl⟩:=Int.eq_ofNat_of_zero_le ad;rw[cM]at D;refine⟨cP.length+2,?_⟩;rw[eB,ahx _ _ _ _ _ _ _ _ _];unfold ou at D;simp only at D;refine bG (fun h=>?_) (fun h=>bG (fun G=>?_) (fun G=>bG (fun Y=>?_) (fun Y=>?_)))
 ·rw[if_pos (.inl h)]at D;exact D
 ·rw[if_pos (.inr (.inl (by simp only[len]at G;omega)))]at D;exact D
 ·rw[if_pos (.inr (.inr (by simp only[len]at Y;omega)))]at D;exact D
 ·rw[if_neg (by simp only[len]at G Y;omega)]at D;exact T9 cP (by simp only[len]at G;omega) K 0 eA eY ei dH cP cP.length 0 (by omega) D
theorem aku:bo 47 HC:=hj afP Tryz.func47 (by kernel_rfl) (by
 intro vs au p v du h ad;unfold HC at h;split at h
 ·cases h;exact⟨by kernel_rfl,rfl,.inl (aiN _ _ _ _ _ _ _ ad.1 _ ⟨rfl,rfl⟩)⟩
 ·cases h)

def CL:a7
 |[.one (.E .int w)],[]=>some (none,.one (ax (!eR w)),[])
 |_,_=>none

theorem XJ:bo 186 CL:=b2 0 bn Tryz.func186 (by kernel_rfl) fun vs au=>by
 unfold CL;split;rotate_left;trivial;rename_i w;dsimp only[z.den]at w;refine⟨by kernel_rfl,fun K D=>?_⟩;refine⟨1,?_⟩;refine cf (fun rec=>(by kernel_rfl:_=(
  J (aL w 0)
  (K mY [])
  (K (.one (ax (aL 65535 w))) [])))) ?_
 refine bq (fun h=>?_) (fun h=>?_)
 ·rw[show(!eR w)=true from by simp[eR];omega]at D;exact D
 ·rw[show(!eR w)=aL 65535 w from by simp[eR,aL,h];by_cases G:w<=65535<;>simp[G]<;>omega]at D;exact D

def Pz:a7
 |[.one (.E .int w)],[]=>some (none,.one (ax (eR w)),[])
 |_,_=>none

theorem ajH:bo 159 Pz:=b2 0 bn Tryz.func159 (by kernel_rfl) fun vs au=>by
 unfold Pz;split;rotate_left;trivial;rename_i w;refine⟨by kernel_rfl,fun K D=>?_⟩;refine⟨1,?_⟩;refine cf (fun rec=>(by kernel_rfl:_=(
  J (dh 0 w)
  (K (.one (ax (dh w 65535))) [])
  (K dt [])))) ?_
 refine b3 (fun h=>?_) (fun h=>?_)
 ·rw[show eR w=dh w 65535 from by rw[fY]at h;simp[eR,dh,h]]at D;exact D
 ·rw[show eR w=false from by rw[eL]at h;simp[eR];omega]at D;exact D

def CO:a7
 |[.one (.E .int w)],[]=>some (none,.one (ax (!eR w)),[])
 |_,_=>none

theorem Nb:bo 158 CO:=b2 0 (bn.f ajH) Tryz.func158 (by kernel_rfl) fun vs au=>by
 unfold CO;split;rotate_left;trivial;rename_i w;refine⟨by kernel_rfl,fun K D=>?_⟩;refine⟨1,?_⟩;refine cf (fun rec=>(by kernel_rfl:_=(
  K (.one (ax (!(eR w)))) []))) ?_
 exact D

def CS:a7
 |[.one (.E .int w)],[]=>some (none,.one (ax (!eR w)),[])
 |_,_=>none

theorem Ng:bo 114 CS:=b2 0 bn Tryz.func114 (by kernel_rfl) fun vs au=>by
 unfold CS;split;rotate_left;trivial;rename_i w;dsimp only[z.den]at w;refine⟨by kernel_rfl,fun K D=>?_⟩;refine⟨1,?_⟩;refine cf (fun rec=>(by kernel_rfl:_=(
  J (aL w 0)
  (K mY [])
  (K (.one (ax (aL 65535 w))) [])))) ?_
 refine bq (fun h=>?_) (fun h=>?_)
 ·rw[show(!eR w)=true from by simp[eR];omega]at D;exact D
 ·rw[show(!eR w)=aL 65535 w from by simp[eR,aL,h];by_cases G:w<=65535<;>simp[G]<;>omega]at D;exact D

def GY:a7
 |[.one (.E (.list .int) l),.one (.fn f [])],[]=>(match Nat.beq f 186 with|true=>some (some (eW l),.one (A (mz l)),[])|false=>(match Nat.beq f 158 with|true=>some (some (eW l),.one (A (mz l)),[])|false=>(match Nat.beq f 114 with|true=>some (some (eW l),.one (A (mz l)),[])|false=>none)))
 |_,_=>none
def o6:Ctx:=[(186,CL),(158,CO),(114,CS)]
theorem afF:fr Tryz.prog tab o6:=(((bn.f Ng).f Nb).f XJ)
def yd:List cu:=[.inLoop [8,7,4,0,1] (cy kh [1,0,1,0,0]),.inBlock 0,.code (cy kh [1,1])]
def LD(F ai M:Int)(ag:aK):bO:=⟨[(8,.one (A F)),(7,.one (A ai)),(4,.one (A M)),(0,.one (af ag)),(1,.one (.fn 186 []))],[],0⟩
theorem ahf(l:aK)(rec:bV)(K:aU):b5 o6 tab kh 0 K rec [.code (bR kh)] (df [.one (af l),.one (.fn 186 [])] [])=(
 rec yd (LD 0 (len l:Int) 0 l)):=by kernel_rfl
theorem VE{F:Int}{rec:bV}{K:aU}{ai M ag}{v1 v0}(b9:v1=fun a=>LD a ai M ag)(bX:v0=eR (nth ag (Int.toNat F) (z.H z.int))):b5 o6 tab kh 0 K rec (cU yd) (v1 F)=(
 J (aL F ai)
 (((0:Int)<=F/\F<(len ag:Int)) /\
 J (!v0)
 (K (.one (A F)) [])
 (rec yd (v1 (U (F+1)))))
 (K (.one (A (-1))) [])):=by subst_vars;kernel_rfl

def ye:List cu:=[.inLoop [8,7,4,0,1] (cy kh [1,0,1,0,0]),.inBlock 0,.code (cy kh [1,1])]
def LF(F ai M:Int)(ag:aK):bO:=⟨[(8,.one (A F)),(7,.one (A ai)),(4,.one (A M)),(0,.one (af ag)),(1,.one (.fn 158 []))],[],0⟩
theorem ahg(l:aK)(rec:bV)(K:aU):b5 o6 tab kh 0 K rec [.code (bR kh)] (df [.one (af l),.one (.fn 158 [])] [])=(
 rec ye (LF 0 (len l:Int) 0 l)):=by kernel_rfl
theorem VF{F:Int}{rec:bV}{K:aU}{ai M ag}{v1 v0}(b9:v1=fun a=>LF a ai M ag)(bX:v0=eR (nth ag (Int.toNat F) (z.H z.int))):b5 o6 tab kh 0 K rec (cU ye) (v1 F)=(
 J (aL F ai)
 (((0:Int)<=F/\F<(len ag:Int)) /\
 J (!v0)
 (K (.one (A F)) [])
 (rec ye (v1 (U (F+1)))))
 (K (.one (A (-1))) [])):=by subst_vars;kernel_rfl

def yf:List cu:=[.inLoop [8,7,4,0,1] (cy kh [1,0,1,0,0]),.inBlock 0,.code (cy kh [1,1])]
def LG(F ai M:Int)(ag:aK):bO:=⟨[(8,.one (A F)),(7,.one (A ai)),(4,.one (A M)),(0,.one (af ag)),(1,.one (.fn 114 []))],[],0⟩
theorem ahh(l:aK)(rec:bV)(K:aU):b5 o6 tab kh 0 K rec [.code (bR kh)] (df [.one (af l),.one (.fn 114 [])] [])=(
 rec yf (LG 0 (len l:Int) 0 l)):=by kernel_rfl
theorem VG{F:Int}{rec:bV}{K:aU}{ai M ag}{v1 v0}(b9:v1=fun a=>LG a ai M ag)(bX:v0=eR (nth ag (Int.toNat F) (z.H z.int))):b5 o6 tab kh 0 K rec (cU yf) (v1 F)=(
 J (aL F ai)
 (((0:Int)<=F/\F<(len ag:Int)) /\
 J (!v0)
 (K (.one (A F)) [])
 (rec yf (v1 (U (F+1)))))
 (K (.one (A (-1))) [])):=by subst_vars;kernel_rfl

theorem TW(l:aK)(av:eW l)(K:aU):∀(d k:Nat),k+d=l.length->K (.one (A (mA k (l.drop k)))) [] ->
  co o6 tab kh 0 K (d+1) yd (LD (k:Int) (((len l):Nat):Int) 0 l)
 |0,k,ae,D=>by
  rw[bW (L:=yd),VE rfl rfl];refine ci (by simp only[len];omega) ?_;rw[List.drop_of_length_le (by omega)]at D;exact D
 |d+1,k,ae,D=>by
  have oJ:=av;unfold eW at oJ;rw[bW (L:=yd),VE rfl rfl];rw[ee (by omega) (z.H z.int)]at D;simp only[mA]at D;refine cV (by simp only[len];omega) ⟨⟨by omega,by simp only[len];omega⟩,ew (fun h=>?_) (fun h=>?_)⟩
  ·rw[cM]at h;rw[if_neg (by rw[h];simp)]at D;exact D
  ·rw[cM]at h;rw[if_pos h]at D;rw[di (by omega)];exact TW l av K d (k+1) (by omega) D
theorem aiA(ad:eW l)(K:aU)(D:K (.one (A (mz l))) []):ku o6 kh 0 K [.one (af l),.one (.fn 186 [])] []:=by
 refine⟨l.length+2,?_⟩;rw[eB,ahf _ _ _];exact TW l ad K l.length 0 (by omega) D
theorem TX(l:aK)(av:eW l)(K:aU):∀(d k:Nat),k+d=l.length->K (.one (A (mA k (l.drop k)))) [] ->
  co o6 tab kh 0 K (d+1) ye (LF (k:Int) (((len l):Nat):Int) 0 l)
 |0,k,ae,D=>by
  rw[bW (L:=ye),VF rfl rfl];refine ci (by simp only[len];omega) ?_;rw[List.drop_of_length_le (by omega)]at D;exact D
 |d+1,k,ae,D=>by
  have oJ:=av;unfold eW at oJ;rw[bW (L:=ye),VF rfl rfl];rw[ee (by omega) (z.H z.int)]at D;simp only[mA]at D;refine cV (by simp only[len];omega) ⟨⟨by omega,by simp only[len];omega⟩,ew (fun h=>?_) (fun h=>?_)⟩
  ·rw[cM]at h;rw[if_neg (by rw[h];simp)]at D;exact D
  ·rw[cM]at h;rw[if_pos h]at D;rw[di (by omega)];exact TX l av K d (k+1) (by omega) D
theorem aiB(ad:eW l)(K:aU)(D:K (.one (A (mz l))) []):ku o6 kh 0 K [.one (af l),.one (.fn 158 [])] []:=by
 refine⟨l.length+2,?_⟩;rw[eB,ahg _ _ _];exact TX l ad K l.length 0 (by omega) D
theorem TY(l:aK)(av:eW l)(K:aU):∀(d k:Nat),k+d=l.length->K (.one (A (mA k (l.drop k)))) [] ->
  co o6 tab kh 0 K (d+1) yf (LG (k:Int) (((len l):Nat):Int) 0 l)
 |0,k,ae,D=>by
  rw[bW (L:=yf),VG rfl rfl];refine ci (by simp only[len];omega) ?_;rw[List.drop_of_length_le (by omega)]at D;exact D
 |d+1,k,ae,D=>by
  have oJ:=av;unfold eW at oJ;rw[bW (L:=yf),VG rfl rfl];rw[ee (by omega) (z.H z.int)]at D;simp only[mA]at D;refine cV (by simp only[len];omega) ⟨⟨by omega,by simp only[len];omega⟩,ew (fun h=>?_) (fun h=>?_)⟩
  ·rw[cM]at h;rw[if_neg (by rw[h];simp)]at D;exact D
  ·rw[cM]at h;rw[if_pos h]at D;rw[di (by omega)];exact TY l av K d (k+1) (by omega) D
theorem aiC(ad:eW l)(K:aU)(D:K (.one (A (mz l))) []):ku o6 kh 0 K [.one (af l),.one (.fn 114 [])] []:=by
 refine⟨l.length+2,?_⟩;rw[eB,ahh _ _ _];exact TY l ad K l.length 0 (by omega) D
theorem ajU:bo 167 GY:=hj afF Tryz.func167 (by kernel_rfl) (by
 intro vs au p v du h ad;unfold GY at h;split at h
 ·split at h
  ·rename_i dW;have dW:=Nat.eq_of_beq_eq_true dW;subst dW;cases h;exact⟨by kernel_rfl,rfl,.inl (aiA _ ad.1 _ ⟨rfl,rfl⟩)⟩
  ·split at h
   ·rename_i dW;have dW:=Nat.eq_of_beq_eq_true dW;subst dW;cases h;exact⟨by kernel_rfl,rfl,.inl (aiB _ ad.1 _ ⟨rfl,rfl⟩)⟩
   ·split at h
    ·rename_i dW;have dW:=Nat.eq_of_beq_eq_true dW;subst dW;cases h;exact⟨by kernel_rfl,rfl,.inl (aiC _ ad.1 _ ⟨rfl,rfl⟩)⟩
    ·cases h
 ·cases h)

def PR:a7
 |[.one (.E (.list .int) l),.one (.fn f [])],[]=>(match Nat.beq f 186 with|true=>some (some (eW l),.one (ax (!cC l)),[])|false=>(match Nat.beq f 158 with|true=>some (some (eW l),.one (ax (!cC l)),[])|false=>(match Nat.beq f 114 with|true=>some (some (eW l),.one (ax (!cC l)),[])|false=>none)))
 |_,_=>none
def wO:Ctx:=[(167,GY),(186,CL),(158,CO),(114,CS)]
theorem afI:fr Tryz.prog tab wO:=((((bn.f Ng).f Nb).f XJ).f ajU)
theorem ahm(l:aK)(rec:bV)(K:aU) v0 (bX:v0=mz l):b5 wO tab sk 0 K rec [.code (bR sk)] (df [.one (af l),.one (.fn 186 [])] [])=(
 List.length l<=140737488355328 /\
 K (.one (ax (dh 0 v0))) []):=by subst_vars;kernel_rfl

theorem ahn(l:aK)(rec:bV)(K:aU) v0 (bX:v0=mz l):b5 wO tab sk 0 K rec [.code (bR sk)] (df [.one (af l),.one (.fn 158 [])] [])=(
 List.length l<=140737488355328 /\
 K (.one (ax (dh 0 v0))) []):=by subst_vars;kernel_rfl

theorem aho(l:aK)(rec:bV)(K:aU) v0 (bX:v0=mz l):b5 wO tab sk 0 K rec [.code (bR sk)] (df [.one (af l),.one (.fn 114 [])] [])=(
 List.length l<=140737488355328 /\
 K (.one (ax (dh 0 v0))) []):=by subst_vars;kernel_rfl

theorem DG:∀(l:aK) (k:Int),0<=k->dh 0 (mA k l)=!cC l
 |[],k,ae=>by simp[mA,cC,dh]
 |w::l,k,ae=>by
  simp only[mA,cC,List.all_cons];cases h:eR w with
  |true=>simpa[cC]using DG l (k+1) (by omega)
  |false=>simp[dh,ae]
theorem aiE(ad:eW l)(K:aU)(D:K (.one (ax (!cC l))) []):ku wO sk 0 K [.one (af l),.one (.fn 186 [])] []:=by
 refine⟨1,?_⟩;rw[eB,ahm _ _ _ _ rfl];refine⟨ad,?_⟩;rw[show dh 0 (mz l)=!cC l from DG l 0 (by omega)];exact D
theorem aiF(ad:eW l)(K:aU)(D:K (.one (ax (!cC l))) []):ku wO sk 0 K [.one (af l),.one (.fn 158 [])] []:=by
 refine⟨1,?_⟩;rw[eB,ahn _ _ _ _ rfl];refine⟨ad,?_⟩;rw[show dh 0 (mz l)=!cC l from DG l 0 (by omega)];exact D
theorem aiG(ad:eW l)(K:aU)(D:K (.one (ax (!cC l))) []):ku wO sk 0 K [.one (af l),.one (.fn 114 [])] []:=by
 refine⟨1,?_⟩;rw[eB,aho _ _ _ _ rfl];refine⟨ad,?_⟩;rw[show dh 0 (mz l)=!cC l from DG l 0 (by omega)];exact D
theorem Nh:bo 113 PR:=hj afI Tryz.func113 (by kernel_rfl) (by
 intro vs au p v du h ad;unfold PR at h;split at h
 ·split at h
  ·rename_i dW;have dW:=Nat.eq_of_beq_eq_true dW;subst dW;cases h;exact⟨by kernel_rfl,rfl,.inl (aiE _ ad.1 _ ⟨rfl,rfl⟩)⟩
  ·split at h
   ·rename_i dW;have dW:=Nat.eq_of_beq_eq_true dW;subst dW;cases h;exact⟨by kernel_rfl,rfl,.inl (aiF _ ad.1 _ ⟨rfl,rfl⟩)⟩
   ·split at h
    ·rename_i dW;have dW:=Nat.eq_of_beq_eq_true dW;subst dW;cases h;exact⟨by kernel_rfl,rfl,.inl (aiG _ ad.1 _ ⟨rfl,rfl⟩)⟩
    ·cases h
 ·cases h)

def GU:a7
 |[.agg [.E .int mk,.E .int ba,.E .int bb,.E .int bB,.E .int ch,.E (.list .int) bQ,.E .bool cz]],[]=>some (none,.one (A (gd ⟨mk,ba,bb,bB,ch,bQ,cz⟩)),[])
 |_,_=>none

theorem XN:bo 48 GU:=b2 0 ((bn.f Ng).f Nh) Tryz.func48 (by kernel_rfl) fun vs au=>by
 unfold GU;split;rotate_left;trivial;rename_i mk ba bb bB ch bQ cz;refine⟨by kernel_rfl,fun K D=>?_⟩;refine⟨1,?_⟩;refine cf (fun rec=>(by kernel_rfl:_=(
  J (aL mk 1)
  (K (.one (A 3)) [])
  (J (aL 7 mk)
  (K (.one (A 3)) [])
  (J (aL ba 0)
  (K (.one (A 3)) [])
  (J (dh 4 ba)
  (K (.one (A 3)) [])
  (J (aL bb 1)
  (K (.one (A 3)) [])
  (J (aL 8 bb)
  (K (.one (A 3)) [])
  (J (aL bB 0)
  (K (.one (A 3)) [])
  (J (aL 40 bB)
  (K (.one (A 3)) [])
  (J (aL ch 0)
  (K (.one (A 3)) [])
  (J (aL 60 ch)
  (K (.one (A 3)) [])
  (J (aL 8 (len bQ:Int))
  (K (.one (A 3)) [])
  (List.length bQ<=140737488355328 /\
  J (!(cC bQ))
  (K (.one (A 3)) [])
  (K (.one (A 0)) []))))))))))))))) ?_
 unfold gd at D;simp only at D;refine bq (fun I=>?_) (fun I=>bq (fun G=>?_) (fun G=>bq (fun Y=>?_) (fun Y=>b3 (fun aS=>?_) (fun aS=>bq (fun bj=>?_) (fun bj=>bq (fun bK=>?_) (fun bK=>bq (fun c4=>?_) (fun c4=>bq (fun dJ=>?_) (fun dJ=>bq (fun hd=>?_) (fun hd=>bq (fun lS=>?_) (fun lS=>bq (fun k5=>?_) (fun k5=>⟨?_,ew (fun mC=>?_) (fun mC=>?_)⟩)))))))))))
 all_goals try rw[fY]at aS
 all_goals try rw[eL]at aS
 ·rw[if_pos (by omega)]at D;exact D
 ·rw[if_pos (by omega)]at D;exact D
 ·rw[if_pos (by omega)]at D;exact D
 ·rw[if_pos (by omega)]at D;exact D
 ·rw[if_pos (by omega)]at D;exact D
 ·rw[if_pos (by omega)]at D;exact D
 ·rw[if_pos (by omega)]at D;exact D
 ·rw[if_pos (by omega)]at D;exact D
 ·rw[if_pos (by omega)]at D;exact D
 ·rw[if_pos (by omega)]at D;exact D
 ·rw[if_pos (by simp only[len]at k5;omega)]at D;exact D
 ·simp only[len]at k5;omega
 ·rw[if_neg (by simp only[len]at k5;omega)]at D;have:cC bQ=false:=by simpa using mC
  rw[if_neg (by rw[this];simp)]at D;exact D
 ·rw[if_neg (by simp only[len]at k5;omega)]at D;have:cC bQ=true:=by simpa using mC
  rw[if_pos this]at D;exact D

def C0:a7
 |[.agg [.E (.list .str) aJ,.E (.list .signed) vs,.E (.list .int) ws,.E .int fu,.E .bool up,.E .int al,.E (.list .int) ah,.E .int ak,.E .int aj,.E (.list .bool) aa,.E (.list .bool) ab,.E (.list .aO) us,.E (.list .aP) cs,.E (.list .message) W,.E .int now]],[]=>some (none,.one (A (mr ⟨aJ,vs,⟨⟨ws,fu⟩,up,⟨⟨al,ah,ak⟩,aj⟩,aa,ab⟩,us,cs,W,now⟩)),[])
 |_,_=>none
def wR:Ctx:=[(20,Db),(21,z2),(45,G4),(46,GO),(47,HC),(48,GU)]
def yt:List cu:=[.inLoop [44,43,42,2,1] (cy pt [1,1,1,1,1,0,1,0,0]),.inBlock 0,.code (cy pt [1,1,1,1,1,1])]
def LY(F ai:Int)(M:cZ)(ag:Int)(an:cD)(aE:cG)(aI:aK)(aV:Int)(aZ:Bool)(bd:Int)(bu:aK)(bx br:Int)(bD bM:da)(bJ:cZ)(bP:c3)(bC:cF)(bT:Int):bO:=⟨[(44,.one (A F)),(43,.one (A ai)),(42,.one (.E (z.list z.aO) M)),(2,.one (A ag)),(1,.one (.ptr 0 0))],[(0,.box [.E (z.list z.str) an,.E (z.list z.signed) aE,af aI,A aV,ax aZ,A bd,af bu,A bx,A br,bh bD,bh bM,.E (z.list z.aO) bJ,.E (z.list z.aP) bP,bs bC,A bT])],1⟩
def yu:List cu:=[.inLoop [67,66,65,2,1] (cy pt [1,1,1,1,1,1,1,0,1,0,0]),.inBlock 2,.code (cy pt [1,1,1,1,1,1,1,1])]
def LZ(F ai:Int)(M:c3)(ag:Int)(an:cD)(aE:cG)(aI:aK)(aV:Int)(aZ:Bool)(bd:Int)(bu:aK)(bx br:Int)(bD bM:da)(bJ:cZ)(bP:c3)(bC:cF)(bT:Int):bO:=⟨[(67,.one (A F)),(66,.one (A ai)),(65,.one (.E (z.list z.aP) M)),(2,.one (A ag)),(1,.one (.ptr 0 0))],[(0,.box [.E (z.list z.str) an,.E (z.list z.signed) aE,af aI,A aV,ax aZ,A bd,af bu,A bx,A br,bh bD,bh bM,.E (z.list z.aO) bJ,.E (z.list z.aP) bP,bs bC,A bT])],1⟩
def yv:List cu:=[.inLoop [86,85,84,2,1] (cy pt [1,1,1,1,1,1,1,1,0,1,0,0]),.inBlock 4,.code (cy pt [1,1,1,1,1,1,1,1,1])]
def L0(F ai:Int)(M:cF)(ag:Int)(an:cD)(aE:cG)(aI:aK)(aV:Int)(aZ:Bool)(bd:Int)(bu:aK)(bx br:Int)(bD bM:da)(bJ:cZ)(bP:c3)(bC:cF)(bT:Int):bO:=⟨[(86,.one (A F)),(85,.one (A ai)),(84,.one (bs M)),(2,.one (A ag)),(1,.one (.ptr 0 0))],[(0,.box [.E (z.list z.str) an,.E (z.list z.signed) aE,af aI,A aV,ax aZ,A bd,af bu,A bx,A br,bh bD,bh bM,.E (z.list z.aO) bJ,.E (z.list z.aP) bP,bs bC,A bT])],1⟩
theorem V0{F:Int}{rec:bV}{K:aU}{ai M ag an aE aI aV aZ bd bu bx br bD bM bJ bP bC bT}{v1 v0}(b9:v1=fun a=>LY a ai M ag an aE aI aV aZ bd bu bx br bD bM bJ bP bC bT)(bX:v0=e4 ⟨(nth M (Int.toNat F) (z.H z.aO)).f,(nth M (Int.toNat F) (z.H z.aO)).up,(nth M (Int.toNat F) (z.H z.aO)).n,(nth M (Int.toNat F) (z.H z.aO)).eG⟩):b5 wR tab pt 0 K rec (cU yt) (v1 F)=(
 J (aL F ai)
 (((0:Int)<=F/\F<(len M:Int)) /\
 J (!(ar v0 0))
 (K (.one (A v0)) [])
 (rec yt (v1 (U (F+1)))))
 (J (aL 8 (len bP:Int))
 (K (.one (A 2)) [])
 (J (aL 24 (len bC:Int))
 (K (.one (A 2)) [])
 (rec yu (LZ 0 (len bP:Int) bP ag an aE aI aV aZ bd bu bx br bD bM bJ bP bC bT))))):=by subst_vars;kernel_rfl
theorem V1{F:Int}{rec:bV}{K:aU}{ai M ag an aE aI aV aZ bd bu bx br bD bM bJ bP bC bT}{v1 v0}(b9:v1=fun a=>LZ a ai M ag an aE aI aV aZ bd bu bx br bD bM bJ bP bC bT)(bX:v0=ou ⟨(nth M (Int.toNat F) (z.H z.aP)).n,(nth M (Int.toNat F) (z.H z.aP)).r,(nth M (Int.toNat F) (z.H z.aP)).cQ⟩ (U (F+1)) (Int.toNat (len bJ:Int))):b5 wR tab pt 0 K rec (cU yu) (v1 F)=(
 J (aL F ai)
 (((0:Int)<=F/\F<(len M:Int)) /\
 ((0:Int)<=(len bJ:Int)/\(len bJ:Int)<=(1000:Int)) /\
 J (!(ar v0 0))
 (K (.one (A v0)) [])
 (rec yu (v1 (U (F+1)))))
 (rec yv (L0 0 (len bC:Int) bC ag an aE aI aV aZ bd bu bx br bD bM bJ bP bC bT))):=by subst_vars;kernel_rfl
theorem V2{F:Int}{rec:bV}{K:aU}{ai M ag an aE aI aV aZ bd bu bx br bD bM bJ bP bC bT}{v1 v0}(b9:v1=fun a=>L0 a ai M ag an aE aI aV aZ bd bu bx br bD bM bJ bP bC bT)(bX:v0=gd (nth M (Int.toNat F) (z.H z.message))):b5 wR tab pt 0 K rec (cU yv) (v1 F)=(
 J (aL F ai)
 (((0:Int)<=F/\F<(len M:Int)) /\
 J (!(ar v0 0))
 (K (.one (A v0)) [])
 (J (dh (len bJ:Int) (nth M (Int.toNat F) (z.H z.message)).unit)
 (K (.one (A 5)) [])
 (rec yv (v1 (U (F+1))))))
 (J (aL bT 0)
 (K (.one (A 3)) [])
 (J (aL 100000 bT)
 (K (.one (A 3)) [])
 (K (.one (A 0)) [])))):=by subst_vars;kernel_rfl

theorem TG(aJ:cD)(vs:cG)(ws:aK)(fu:Int)(up:Bool)(al:Int)(ah:aK)(ak aj:Int)(aa ab:da)(us:cZ)(cs:c3)(W:cF)(now:Int)(aq:W.length<=24)(K:aU)(ag:Int):∀(d k:Nat),k+d=W.length->K (.one (A (hQ us.length (W.drop k) now))) [] ->
  co wR tab pt 0 K (d+1) yv (L0 (k:Int) (((len W):Nat):Int) W ag aJ vs ws fu up al ah ak aj aa ab us cs W now)
 |0,k,ae,D=>by
  rw[bW (L:=yv),V2 rfl rfl];rw[List.drop_of_length_le (by omega)]at D;refine ci (by simp only[len];omega) (bq (fun h=>?_) (fun h=>bq (fun G=>?_) (fun G=>?_)))
  ·rw[show hQ us.length [] now=3 from(show hQ us.length [] now=vi now from rfl).trans (if_pos (.inl h))]at D;exact D
  ·rw[show hQ us.length [] now=3 from(show hQ us.length [] now=vi now from rfl).trans (if_pos (.inr G))]at D;exact D
  ·rw[show hQ us.length [] now=0 from(show hQ us.length [] now=vi now from rfl).trans (if_neg (by omega))]at D;exact D
 |d+1,k,ae,D=>by
  rw[bW (L:=yv),V2 rfl rfl,cM,di (by omega)];rw[ee (by omega) (z.H z.message)]at D;obtain⟨m,aB⟩:∃m,nth W k (z.H z.message)=m:=⟨_,rfl⟩
  rw[aB]at D |-;refine cV (by simp only[len];omega) ⟨⟨by omega,by simp only[len];omega⟩,bG (fun h=>?_) (fun h=>b3 (fun G=>?_) (fun G=>?_))⟩
  ·have e:nD us.length (m::W.drop (k+1))=gd m:=if_neg h;rw[show hQ us.length (m::W.drop (k+1)) now=gd m from by unfold hQ;rw[e,if_neg h]]at D;exact D
  ·rw[fY]at G;have e:nD us.length (m::W.drop (k+1))=5:=(if_pos h).trans (if_pos G);rw[show hQ us.length (m::W.drop (k+1)) now=5 from by unfold hQ;rw[e];rfl]at D;exact D
  ·rw[eL]at G;have e:nD us.length (m::W.drop (k+1))=nD us.length (W.drop (k+1)):=(if_pos h).trans (if_neg (by simp only[len]at G;omega));rw[show hQ us.length (m::W.drop (k+1)) now=hQ us.length (W.drop (k+1)) now from by unfold hQ;rw[e]]at D;exact TG aJ vs ws fu up al ah ak aj aa ab us cs W now aq K ag d (k+1) (by omega) D
theorem TC(aJ:cD)(vs:cG)(ws:aK)(fu:Int)(up:Bool)(al:Int)(ah:aK)(ak aj:Int)(aa ab:da)(us:cZ)(cs:c3)(W:cF)(now:Int)(aq:W.length<=24)(aA:cs.length<=8)(hu:us.length<=4)(K:aU)(ag:Int):∀(d k:Nat),k+d=cs.length->K (.one (A (na us.length ((k+1:Nat):Int) (cs.drop k) W now))) [] ->
  co wR tab pt 0 K (W.length+1+d+1) yu (LZ (k:Int) (((len cs):Nat):Int) cs ag aJ vs ws fu up al ah ak aj aa ab us cs W now)
 |0,k,ae,D=>by
  rw[bW (L:=yu),V1 rfl rfl];rw[List.drop_of_length_le (by omega)]at D;exact ci (by simp only[len];omega) (TG aJ vs ws fu up al ah ak aj aa ab us cs W now aq K ag W.length 0 (by omega) D)
 |d+1,k,ae,D=>by
  rw[show W.length+1+(d+1)+1=(W.length+1+d+1)+1 by omega,bW (L:=yu),V1 rfl rfl,cM,di (by omega),cM];rw[ee (by omega) (z.H z.aP)]at D;obtain⟨c,aB⟩:∃c,nth cs k (z.H z.aP)=c:=⟨_,rfl⟩
  rw[aB]at D |-;refine cV (by simp only[len];omega) ⟨⟨by omega,by simp only[len];omega⟩,⟨by omega,by simp only[len];omega⟩,bG (fun h=>?_) (fun h=>?_)⟩
  ·have e:ov us.length ((k+1:Nat):Int) (c::cs.drop (k+1))=ou c ((k+1:Nat):Int) us.length:=if_neg h;rw[show na us.length ((k+1:Nat):Int) (c::cs.drop (k+1)) W now=ou c ((k+1:Nat):Int) us.length from by unfold na;rw[e];exact if_neg h]at D;exact D
  ·have e:ov us.length ((k+1:Nat):Int) (c::cs.drop (k+1))=ov us.length ((k+1+1:Nat):Int) (cs.drop (k+1)):=if_pos h;rw[show na us.length ((k+1:Nat):Int) (c::cs.drop (k+1)) W now=na us.length ((k+1+1:Nat):Int) (cs.drop (k+1)) W now from by unfold na;rw[e]]at D;exact TC aJ vs ws fu up al ah ak aj aa ab us cs W now aq aA hu K ag d (k+1) (by omega) D
theorem Ts(aJ:cD)(vs:cG)(ws:aK)(fu:Int)(up:Bool)(al:Int)(ah:aK)(ak aj:Int)(aa ab:da)(us:cZ)(cs:c3)(W:cF)(now:Int)(hu:us.length<=4)(K:aU)(ag:Int)(q:Nat)(aH:W.length<=24->cs.length<=8->q=W.length+1+cs.length):∀(d k:Nat),k+d=us.length->K (.one (A (kZ us.length (us.drop k) cs W now))) [] ->
  co wR tab pt 0 K (q+1+d+1) yt (LY (k:Int) (((len us):Nat):Int) us ag aJ vs ws fu up al ah ak aj aa ab us cs W now)
 |0,k,ae,D=>by
  rw[bW (L:=yt),V0 rfl rfl];rw[List.drop_of_length_le (by omega)]at D;refine ci (by simp only[len];omega) (bq (fun h=>?_) (fun h=>bq (fun G=>?_) (fun G=>?_)))
  ·rw[show kZ us.length [] cs W now=2 from(show kZ us.length [] cs W now=vh us.length cs W now from rfl).trans (if_pos (.inl (by simp only[len]at h;omega)))]at D;exact D
  ·rw[show kZ us.length [] cs W now=2 from(show kZ us.length [] cs W now=vh us.length cs W now from rfl).trans (if_pos (.inr (by simp only[len]at G;omega)))]at D;exact D
  ·rw[show kZ us.length [] cs W now=na us.length 1 cs W now from(show kZ us.length [] cs W now=vh us.length cs W now from rfl).trans (if_neg (by simp only[len]at h G;omega))]at D;have a:W.length<=24:=by simp only[len]at G;omega
   have b:cs.length<=8:=by simp only[len]at h;omega
   rw[aH a b];exact TC aJ vs ws fu up al ah ak aj aa ab us cs W now a b hu K ag cs.length 0 (by omega) D
 |d+1,k,ae,D=>by
  rw[show q+1+(d+1)+1=(q+1+d+1)+1 by omega,bW (L:=yt),V0 rfl rfl,cM,di (by omega)];rw[ee (by omega) (z.H z.aO)]at D;obtain⟨u,aB⟩:∃u,nth us k (z.H z.aO)=u:=⟨_,rfl⟩
  rw[aB]at D |-;refine cV (by simp only[len];omega) ⟨⟨by omega,by simp only[len];omega⟩,bG (fun h=>?_) (fun h=>?_)⟩
  ·have e:pj (u::us.drop (k+1))=e4 u:=if_neg h;rw[show kZ us.length (u::us.drop (k+1)) cs W now=e4 u from by unfold kZ;rw[e];exact if_neg h]at D;exact D
  ·have e:pj (u::us.drop (k+1))=pj (us.drop (k+1)):=if_pos h;rw[show kZ us.length (u::us.drop (k+1)) cs W now=kZ us.length (us.drop (k+1)) cs W now from by unfold kZ;rw[e]]at D;exact Ts aJ vs ws fu up al ah ak aj aa ab us cs W now hu K ag q aH d (k+1) (by omega) D
theorem Nr:bo 10 C0:=b2 (Γ:=wR) 0 ((((((bn.f XN).f aku).f BW).f zl).f M9).f Fy) Tryz.func10 (by kernel_rfl) fun vs au=>by
 unfold C0;split;rotate_left;trivial;rename_i aJ vs ws fu up al ah ak aj aa ab us cs W now;refine⟨by kernel_rfl,fun K D=>?_⟩;refine⟨(W.length+1+cs.length)+1+us.length+2,?_⟩;refine cf (fun rec=>(by kernel_rfl:_=(
  J (!(ar (fq aJ) 0))
  (K (.one (A (fq aJ))) [])
  (J (!(ar (hO vs) 0))
  (K (.one (A (hO vs))) [])
  (J (!(ar (dG ⟨⟨ws,fu⟩,up,⟨⟨al,ah,ak⟩,aj⟩,aa,ab⟩) 0))
  (K (.one (A (dG ⟨⟨ws,fu⟩,up,⟨⟨al,ah,ak⟩,aj⟩,aa,ab⟩))) [])
  (J (!(ar (len us:Int) (len aa:Int)))
  (K (.one (A 4)) [])
  (rec yt (LY 0 (len us:Int) us 0 aJ vs ws fu up al ah ak aj aa ab us cs W now)))))))) ?_
 unfold mr at D;simp only at D;refine bG (fun h=>?_) (fun h=>bG (fun G=>?_) (fun G=>bG (fun Y=>?_) (fun Y=>bG (fun aS=>?_) (fun aS=>?_))))
 ·rw[if_neg h]at D;exact D
 ·rw[if_pos h,if_neg G]at D;exact D
 ·rw[if_pos h,if_pos G,if_neg Y]at D;exact D
 ·rw[if_pos h,if_pos G,if_pos Y,if_neg (by simp only[len]at aS;omega)]at D;exact D
 ·rw[if_pos h,if_pos G,if_pos Y,if_pos (by simp only[len]at aS;omega)]at D;obtain⟨_,a,b,_⟩:=iH Y;simp only at a b;exact Ts aJ vs ws fu up al ah ak aj aa ab us cs W now (by simp only[len]at aS;omega) K 0 (W.length+1+cs.length) (fun _ _=>rfl) us.length 0 (by omega) D

def CW:a7
 |[.one (.E (.list .str) l)],[]=>some (some (len l*16<=140737488355328),.one (.E (z.list z.str) l),[])
 |_,_=>none

theorem X4:bo 23 CW:=b2 0 bn Tryz.func23 (by kernel_rfl) fun vs au=>by
 unfold CW;split;rotate_left;trivial;rename_i l;refine⟨by kernel_rfl,fun ad K D=>?_⟩;refine⟨1,?_⟩;refine cf (fun rec=>(by kernel_rfl:_=(
  (∀fF:Bool,(fF=true->len l=0)->J fF
  (K (.one (.E (z.list z.str) [])) [])
  ((0+len l)*16<=140737488355328 /\
  K (.one (.E (z.list z.str) (cat [] l))) []))))) ?_
 intro fF ay;refine b3 (fun h=>?_) (fun h=>⟨by simp only[len]at ad |-; omega,D⟩);have:l=[]:=List.length_eq_zero_iff.1 (ay h);subst this;exact D

def CX:a7
 |[.one (.E (.list .signed) l)],[]=>some (some (len l*16<=140737488355328),.one (.E (z.list z.signed) l),[])
 |_,_=>none

theorem X5:bo 24 CX:=b2 0 bn Tryz.func24 (by kernel_rfl) fun vs au=>by
 unfold CX;split;rotate_left;trivial;rename_i l;refine⟨by kernel_rfl,fun ad K D=>?_⟩;refine⟨1,?_⟩;refine cf (fun rec=>(by kernel_rfl:_=(
  (∀fF:Bool,(fF=true->len l=0)->J fF
  (K (.one (.E (z.list z.signed) [])) [])
  ((0+len l)*16<=140737488355328 /\
  K (.one (.E (z.list z.signed) (cat [] l))) []))))) ?_
 intro fF ay;refine b3 (fun h=>?_) (fun h=>⟨by simp only[len]at ad |-; omega,D⟩);have:l=[]:=List.length_eq_zero_iff.1 (ay h);subst this;exact D

def z8:a7
 |[.one (.E (.list .int) l)],[]=>some (some (len l*8<=140737488355328),.one (.own 0),[.arr .int l])
 |_,_=>none

theorem wy:bo 82 z8:=mW 0 bn Tryz.func82 (by kernel_rfl) fun vs au=>by
 unfold z8;split;rotate_left;trivial;rename_i l;refine⟨by kernel_rfl,fun ad K D=>?_⟩;refine⟨1,?_⟩;refine k4 (fun rec=>(by kernel_rfl:_=(
  (∀fF:Bool,(fF=true->len l=0)->J fF
  (K (.one (.own 0)) [.arr z.int []])
  ((0+len l)*8<=140737488355328 /\
  K (.one (.own 0)) [.arr z.int (cat [] l)]))))) ?_
 intro fF ay;refine b3 (fun h=>?_) (fun h=>⟨by simp only[len]at ad |-; omega,D⟩);have:l=[]:=List.length_eq_zero_iff.1 (ay h);subst this;exact D

def PL:a7
 |[.agg [.E (.list .int) ws,.E .int fu]],[]=>some (some (len ws*8<=140737488355328),.agg [af ws,A fu],[])
 |_,_=>none

theorem XR:bo 132 PL:=b2 0 (bn.f wy) Tryz.func132 (by kernel_rfl) fun vs au=>by
 unfold PL;split;rotate_left;trivial;rename_i ws fu;refine⟨by kernel_rfl,fun ad K D=>?_⟩;refine⟨1,?_⟩;refine cf (fun rec=>(by kernel_rfl:_=(
  len ws*8<=140737488355328 /\
  K (.agg [af ws,A fu]) []))) ?_
 exact⟨ad,D⟩

def z6:a7
 |[.one (.E (.list .int) l)],[]=>some (some (len l*8<=140737488355328),.one (af l),[])
 |_,_=>none

theorem zk:bo 82 z6:=b2 0 bn Tryz.func82 (by kernel_rfl) fun vs au=>by
 unfold z6;split;rotate_left;trivial;rename_i l;refine⟨by kernel_rfl,fun ad K D=>?_⟩;refine⟨1,?_⟩;refine cf (fun rec=>(by kernel_rfl:_=(
  (∀fF:Bool,(fF=true->len l=0)->J fF
  (K (.one (af [])) [])
  ((0+len l)*8<=140737488355328 /\
  K (.one (af (cat [] l))) []))))) ?_
 intro fF ay;refine b3 (fun h=>?_) (fun h=>⟨by simp only[len]at ad |-; omega,D⟩);have:l=[]:=List.length_eq_zero_iff.1 (ay h);subst this;exact D

def PM:a7
 |[.one (.E (.list .bool) l)],[]=>some (some (len l<=1000),.one (.own 0),[.arr .bool l])
 |_,_=>none

theorem XS:bo 133 PM:=mW 0 bn Tryz.func133 (by kernel_rfl) fun vs au=>by
 unfold PM;split;rotate_left;trivial;rename_i l;refine⟨by kernel_rfl,fun ad K D=>?_⟩;refine⟨1,?_⟩;refine k4 (fun rec=>(by kernel_rfl:_=(
  (∀fF:Bool,(fF=true->len l=0)->J fF
  (K (.one (.own 0)) [.arr z.bool []])
  ((0+len l)*1<=140737488355328 /\
  K (.one (.own 0)) [.arr z.bool (cat [] l)]))))) ?_
 intro fF ay;refine b3 (fun h=>?_) (fun h=>⟨by simp only[len]at ad |-; omega,D⟩);have:l=[]:=List.length_eq_zero_iff.1 (ay h);subst this;exact D

def Hz:a7
 |[.agg [.E (.list .int) ws,.E .int fu,.E .bool up,.E .int al,.E (.list .int) ah,.E .int ak,.E .int aj,.E (.list .bool) aa,.E (.list .bool) ab]],[]=>some (some (len ws*8<=140737488355328/\len ah*8<=140737488355328/\len aa<=1000/\len ab<=1000),.agg [af ws,A fu,ax up,A al,af ah,A ak,A aj,bh aa,bh ab],[])
 |_,_=>none

theorem aks:bo 75 Hz:=b2 0 (((bn.f XS).f zk).f XR) Tryz.func75 (by kernel_rfl) fun vs au=>by
 unfold Hz;split;rotate_left;trivial;rename_i ws fu up al ah ak aj aa ab;refine⟨by kernel_rfl,fun ad K D=>?_⟩;refine⟨1,?_⟩;refine cf (fun rec=>(by kernel_rfl:_=(
  len ws*8<=140737488355328 /\
  len ah*8<=140737488355328 /\
  len aa<=1000 /\
  len ab<=1000 /\
  K (.agg [af ws,A fu,ax up,A al,af ah,A ak,A aj,bh aa,bh ab]) []))) ?_
 exact⟨ad.1,ad.2.1,ad.2.2.1,ad.2.2.2,D⟩

def Hv:a7
 |[.one (.E (.list .aO) l)],[]=>some (some (len l*56<=140737488355328),.one (.own 0),[.arr .aO l])
 |_,_=>none

theorem ako:bo 76 Hv:=mW 0 bn Tryz.func76 (by kernel_rfl) fun vs au=>by
 unfold Hv;split;rotate_left;trivial;rename_i l;refine⟨by kernel_rfl,fun ad K D=>?_⟩;refine⟨1,?_⟩;refine k4 (fun rec=>(by kernel_rfl:_=(
  (∀fF:Bool,(fF=true->len l=0)->J fF
  (K (.one (.own 0)) [.arr z.aO []])
  ((0+len l)*56<=140737488355328 /\
  K (.one (.own 0)) [.arr z.aO (cat [] l)]))))) ?_
 intro fF ay;refine b3 (fun h=>?_) (fun h=>⟨by simp only[len]at ad |-; omega,D⟩);have:l=[]:=List.length_eq_zero_iff.1 (ay h);subst this;exact D

def Ij:a7
 |[.agg [.E (.list .int) ws,.E .int fu]],[]=>some (some (len ws*8<=140737488355328),.agg [.own 0,A fu],[.arr .int ws])
 |_,_=>none

theorem B1:bo 132 Ij:=mW 0 (bn.f wy) Tryz.func132 (by kernel_rfl) fun vs au=>by
 unfold Ij;split;rotate_left;trivial;rename_i ws fu;refine⟨by kernel_rfl,fun ad K D=>?_⟩;refine⟨1,?_⟩;refine k4 (fun rec=>(by kernel_rfl:_=(
  len ws*8<=140737488355328 /\
  K (.agg [.own 0,A fu]) [.arr z.int ws]))) ?_
 exact⟨ad,D⟩

def GR:a7
 |[.agg [.E (.list .int) ws,.E .int fu,.E .bool up,.E .int bw,.E .int bz]],[]=>some (some (len ws*8<=140737488355328),.agg [af ws,A fu,ax up,A bw,A bz],[])
 |_,_=>none

theorem Nc:bo 77 GR:=b2 0 (bn.f B1) Tryz.func77 (by kernel_rfl) fun vs au=>by
 unfold GR;split;rotate_left;trivial;rename_i ws fu up bw bz;refine⟨by kernel_rfl,fun ad K D=>?_⟩;refine⟨1,?_⟩;refine cf (fun rec=>(by kernel_rfl:_=(
  len ws*8<=140737488355328 /\
  K (.agg [af ws,A fu,ax up,A bw,A bz]) []))) ?_
 exact⟨ad,D⟩

def Hw:a7
 |[.one (.E (.list .aP) l)],[]=>some (some (len l*72<=140737488355328),.one (.own 0),[.arr .aP l])
 |_,_=>none

theorem akp:bo 78 Hw:=mW 0 bn Tryz.func78 (by kernel_rfl) fun vs au=>by
 unfold Hw;split;rotate_left;trivial;rename_i l;refine⟨by kernel_rfl,fun ad K D=>?_⟩;refine⟨1,?_⟩;refine k4 (fun rec=>(by kernel_rfl:_=(
  (∀fF:Bool,(fF=true->len l=0)->J fF
  (K (.one (.own 0)) [.arr z.aP []])
  ((0+len l)*72<=140737488355328 /\
  K (.one (.own 0)) [.arr z.aP (cat [] l)]))))) ?_
 intro fF ay;refine b3 (fun h=>?_) (fun h=>⟨by simp only[len]at ad |-; omega,D⟩);have:l=[]:=List.length_eq_zero_iff.1 (ay h);subst this;exact D

def CY:a7
 |[.one (.E (.list .target) l)],[]=>some (some (len l*24<=140737488355328),.one (.E (.list .target) l),[])
 |_,_=>none

theorem X6:bo 79 CY:=b2 0 bn Tryz.func79 (by kernel_rfl) fun vs au=>by
 unfold CY;split;rotate_left;trivial;rename_i l;refine⟨by kernel_rfl,fun ad K D=>?_⟩;refine⟨1,?_⟩;refine cf (fun rec=>(by kernel_rfl:_=(
  (∀fF:Bool,(fF=true->len l=0)->J fF
  (K (.one (.E (z.list z.target) [])) [])
  ((0+len l)*24<=140737488355328 /\
  K (.one (.E (z.list z.target) (cat [] l))) []))))) ?_
 intro fF ay;refine b3 (fun h=>?_) (fun h=>⟨by simp only[len]at ad |-; omega,D⟩);have:l=[]:=List.length_eq_zero_iff.1 (ay h);subst this;exact D

def Hy:a7
 |[.one (.E (.list (.list .int)) l)],[]=>some (some (len l*24<=140737488355328),.one (.own 0),[.arr (.list .int) l])
 |_,_=>none

theorem akr:bo 134 Hy:=mW 0 bn Tryz.func134 (by kernel_rfl) fun vs au=>by
 unfold Hy;split;rotate_left;trivial;rename_i l;refine⟨by kernel_rfl,fun ad K D=>?_⟩;refine⟨1,?_⟩;refine k4 (fun rec=>(by kernel_rfl:_=(
  (∀fF:Bool,(fF=true->len l=0)->J fF
  (K (.one (.own 0)) [.arr (z.list z.int) []])
  ((0+len l)*24<=140737488355328 /\
  K (.one (.own 0)) [.arr (z.list z.int) (cat [] l)]))))) ?_
 intro fF ay;refine b3 (fun h=>?_) (fun h=>⟨by simp only[len]at ad |-; omega,D⟩);have:l=[]:=List.length_eq_zero_iff.1 (ay h);subst this;exact D

def CZ:a7
 |[.one (.E (.list (.list .int)) l)],[]=>some (some (len l<=1000/\wx l=true),.one (ct l),[])
 |_,_=>none
def Ou:Ctx:=[(134,Hy),(82,z6)]
def yq:List cu:=[.inLoop [9,8,7,2,0] (Code.sub (bR Tryz.f80) [1,1,0,1,0,0]),.inBlock 0,.code (Code.sub (bR Tryz.f80) [1,1,1])]
def LW(F ai:Int)(M ag:cj):bO:=⟨[(9,.one (A F)),(8,.one (A ai)),(7,.one (.own 0)),(2,.one (.own 1)),(0,.one (.own 0))],[(0,.arr (z.list z.int) M),(1,.arr (z.list z.int) ag)],2⟩
theorem VY{F:Int}{M:cj}{rec:bV}{K:aU}{ai ag}{v0}(bX:v0=fun a b=>LW a ai b ag):b5 Ou tab Tryz.f80 0 K rec (cU yq) (v0 F M)=(
 J (aL F ai)
 (((0:Int)<=F/\F<(len M:Int)) /\
 Int.toNat F<len M /\
 len (nth M (Int.toNat F) (z.H (z.list z.int)))*8<=140737488355328 /\
 ((0:Int)<=F/\F<(len M:Int)) /\
 Int.toNat F<len M /\
 rec yq (v0 (U (F+1)) (setAt M (Int.toNat F) (nth M (Int.toNat F) (z.H (z.list z.int))))))
 (K (.one (ct M)) [])):=by subst_vars;kernel_rfl

theorem T8(l:cj)(az:l.length<=1000)(av:wx l=true)(K:aU)(ag:cj)(D:K (.one (ct l)) []):∀(d k:Nat),k+d=l.length ->
  co Ou tab Tryz.f80 0 K (d+1) yq (LW (k:Int) (((len l):Nat):Int) l ag)
 |0,k,ae=>by
  rw[bW (L:=yq),VY rfl];exact ci (by simp only[len];omega) D
 |d+1,k,ae=>by
  rw[bW (L:=yq),VY rfl,cM,di (by omega),Fg (by omega)];have aB:(nth l k (z.H (z.list z.int))).length<=1000:=of_decide_eq_true (List.all_eq_true.1 av _ (iu (by omega) _));refine cV (by simp only[len];omega) ⟨⟨by omega,by simp only[len];omega⟩,by simp only[len];omega,by simp only[len];omega,⟨by omega,by simp only[len];omega⟩,by simp only[len];omega,?_⟩;exact T8 l az av K ag D d (k+1) (by omega)
theorem X7:bo 80 CZ:=b2 (Γ:=Ou) 0 ((bn.f zk).f akr) Tryz.func80 (by kernel_rfl) fun vs au=>by
 unfold CZ;split;rotate_left;trivial;rename_i l;refine⟨by kernel_rfl,fun ad K D=>?_⟩;refine⟨l.length+2,?_⟩;refine cf (fun rec=>(by kernel_rfl:_=(
  len l*24<=140737488355328 /\
  rec yq (LW 0 (len l:Int) l [])))) ?_
 exact⟨by omega,T8 l ad.1 ad.2 K [] D l.length 0 (by omega)⟩

def Hx:a7
 |[.one (.E (.list .message) l)],[]=>some (some (len l*72<=140737488355328),.one (.own 0),[.arr .message l])
 |_,_=>none

theorem akq:bo 81 Hx:=mW 0 bn Tryz.func81 (by kernel_rfl) fun vs au=>by
 unfold Hx;split;rotate_left;trivial;rename_i l;refine⟨by kernel_rfl,fun ad K D=>?_⟩;refine⟨1,?_⟩;refine k4 (fun rec=>(by kernel_rfl:_=(
  (∀fF:Bool,(fF=true->len l=0)->J fF
  (K (.one (.own 0)) [.arr z.message []])
  ((0+len l)*72<=140737488355328 /\
  K (.one (.own 0)) [.arr z.message (cat [] l)]))))) ?_
 intro fF ay;refine b3 (fun h=>?_) (fun h=>⟨by simp only[len]at ad |-; omega,D⟩);have:l=[]:=List.length_eq_zero_iff.1 (ay h);subst this;exact D

def HD:a7
 |[.agg [.E (.list .str) aJ,.E (.list .signed) vs,.E (.list .int) ws,.E .int fu,.E .bool up,.E .int al,.E (.list .int) ah,.E .int ak,.E .int aj,.E (.list .bool) aa,.E (.list .bool) ab,.E (.list .aO) us,.E (.list .aP) cs,.E (.list .message) W,.E .int now]],[]=>some (some (okW ⟨aJ,vs,⟨⟨ws,fu⟩,up,⟨⟨al,ah,ak⟩,aj⟩,aa,ab⟩,us,cs,W,now⟩=true),.agg (et aJ vs ws fu up al ah ak aj aa ab (.own 0) (.own 1) (.own 2) now),[.arr .aO us,.arr .aP cs,.arr .message W])
 |_,_=>none
def wS:Ctx:=[(23,CW),(24,CX),(75,Hz),(76,Hv),(77,GR),(78,Hw),(79,CY),(80,CZ),(81,Hx),(82,z6)]
def yw:List cu:=[.inLoop [30,29,28,2,1] (cy pw [1,1,1,1,0,1,0,0]),.inBlock 0,.code (cy pw [1,1,1,1,1])]
def L1(F ai:Int)(M:cZ)(ag:Int)(an:Bool)(aE aI aV aZ:Int)(bd:cD)(bu:cG)(bx:aK)(br:Int)(bD:Bool)(bM:Int)(bJ:aK)(bP bC:Int)(bT b1:da)(cw:c3)(cB:cF)(cY:Int)(c6:cD)(dc:cG)(dz dD:aK)(dZ ea:da)(dB:cZ)(dS:c3)(dF:cF):bO:=⟨[(30,.one (A F)),(29,.one (A ai)),(28,.one (.own 0)),(2,.one (.ptr 1 0)),(1,.one (.ptr 2 0))],[(0,.arr z.aO M),(1,.box [.own 3,.own 4,.own 5,A ag,ax an,A aE,.own 6,A aI,A aV,.own 7,.own 8,.own 9,.own 10,.own 11,A aZ]),(2,.box [.E (z.list z.str) bd,.E (z.list z.signed) bu,af bx,A br,ax bD,A bM,af bJ,A bP,A bC,bh bT,bh b1,.own 0,.E (z.list z.aP) cw,bs cB,A cY]),(3,.arr z.str c6),(4,.arr z.signed dc),(5,.arr z.int dz),(6,.arr z.int dD),(7,.arr z.bool dZ),(8,.arr z.bool ea),(9,.arr z.aO dB),(10,.arr z.aP dS),(11,.arr z.message dF)],12⟩
def yx:List cu:=[.inLoop [49,48,47,2,1] (cy pw [1,1,1,1,1,1,0,1,0,0]),.inBlock 2,.code (cy pw [1,1,1,1,1,1,1])]
def L2(F ai:Int)(M:c3)(ag:Int)(an:Bool)(aE aI aV aZ:Int)(bd:cD)(bu:cG)(bx:aK)(br:Int)(bD:Bool)(bM:Int)(bJ:aK)(bP bC:Int)(bT b1:da)(cw:cF)(cB:Int)(cY:cD)(c6:cG)(dc dz:aK)(dD dZ:da)(ea:cZ)(dB:c3)(dS:cF)(dF:cZ):bO:=⟨[(49,.one (A F)),(48,.one (A ai)),(47,.one (.own 0)),(2,.one (.ptr 1 0)),(1,.one (.ptr 2 0))],[(0,.arr z.aP M),(1,.box [.own 3,.own 4,.own 5,A ag,ax an,A aE,.own 6,A aI,A aV,.own 7,.own 8,.own 9,.own 10,.own 11,A aZ]),(2,.box [.E (z.list z.str) bd,.E (z.list z.signed) bu,af bx,A br,ax bD,A bM,af bJ,A bP,A bC,bh bT,bh b1,.own 12,.own 0,bs cw,A cB]),(3,.arr z.str cY),(4,.arr z.signed c6),(5,.arr z.int dc),(6,.arr z.int dz),(7,.arr z.bool dD),(8,.arr z.bool dZ),(9,.arr z.aO ea),(10,.arr z.aP dB),(11,.arr z.message dS),(12,.arr z.aO dF)],13⟩
def yy:List cu:=[.inLoop [80,79,78,2,1] (cy pw [1,1,1,1,1,1,1,1,0,1,0,0]),.inBlock 4,.code (cy pw [1,1,1,1,1,1,1,1,1])]
def L3(F ai:Int)(M:cF)(ag:Int)(an:Bool)(aE aI aV aZ:Int)(bd:cD)(bu:cG)(bx:aK)(br:Int)(bD:Bool)(bM:Int)(bJ:aK)(bP bC:Int)(bT b1:da)(cw:Int)(cB:cD)(cY:cG)(c6 dc:aK)(dz dD:da)(dZ:cZ)(ea:c3)(dB:cF)(dS:cZ)(dF:c3):bO:=⟨[(80,.one (A F)),(79,.one (A ai)),(78,.one (.own 0)),(2,.one (.ptr 1 0)),(1,.one (.ptr 2 0))],[(0,.arr z.message M),(1,.box [.own 3,.own 4,.own 5,A ag,ax an,A aE,.own 6,A aI,A aV,.own 7,.own 8,.own 9,.own 10,.own 11,A aZ]),(2,.box [.E (z.list z.str) bd,.E (z.list z.signed) bu,af bx,A br,ax bD,A bM,af bJ,A bP,A bC,bh bT,bh b1,.own 12,.own 13,.own 0,A cw]),(3,.arr z.str cB),(4,.arr z.signed cY),(5,.arr z.int c6),(6,.arr z.int dc),(7,.arr z.bool dz),(8,.arr z.bool dD),(9,.arr z.aO dZ),(10,.arr z.aP ea),(11,.arr z.message dB),(12,.arr z.aO dS),(13,.arr z.aP dF)],14⟩
theorem V3{F:Int}{M:cZ}{rec:bV}{K:aU}{ai ag an aE aI aV aZ bd bu bx br bD bM bJ bP bC bT b1 cw cB cY c6 dc dz dD dZ ea dB dS dF}{v0}(bX:v0=fun a b=>L1 a ai b ag an aE aI aV aZ bd bu bx br bD bM bJ bP bC bT b1 cw cB cY c6 dc dz dD dZ ea dB dS dF):js wS tab pw 0 K rec (cU yw) (v0 F M)=(
 J (aL F ai)
 (((0:Int)<=F/\F<(len M:Int)) /\
 Int.toNat F<len M /\
 len ((nth M (Int.toNat F) (z.H z.aO)).f).words*8<=140737488355328 /\
 ((0:Int)<=F/\F<(len M:Int)) /\
 Int.toNat F<len M /\
 rec yw (v0 (U (F+1)) (setAt M (Int.toNat F) ⟨(nth M (Int.toNat F) (z.H z.aO)).f,(nth M (Int.toNat F) (z.H z.aO)).up,(nth M (Int.toNat F) (z.H z.aO)).n,(nth M (Int.toNat F) (z.H z.aO)).eG⟩)))
 (len cw*72<=140737488355328 /\
 rec yx (L2 0 (len cw:Int) cw ag an aE aI aV aZ bd bu bx br bD bM bJ bP bC bT b1 cB cY c6 dc dz dD dZ ea dB dS dF M))):=by subst_vars;kernel_rfl
theorem V4{F:Int}{M:c3}{rec:bV}{K:aU}{ai ag an aE aI aV aZ bd bu bx br bD bM bJ bP bC bT b1 cw cB cY c6 dc dz dD dZ ea dB dS dF}{v1 v0}(b9:v1=fun a b=>L2 a ai b ag an aE aI aV aZ bd bu bx br bD bM bJ bP bC bT b1 cw cB cY c6 dc dz dD dZ ea dB dS dF)(bX:v0=wx (nth M (Int.toNat F) (z.H z.aP)).cQ):js wS tab pw 0 K rec (cU yx) (v1 F M)=(
 J (aL F ai)
 (((0:Int)<=F/\F<(len M:Int)) /\
 Int.toNat F<len M /\
 len ((nth M (Int.toNat F) (z.H z.aP)).r).targets*24<=140737488355328 /\
 (len (nth M (Int.toNat F) (z.H z.aP)).cQ<=1000/\v0=true) /\
 ((0:Int)<=F/\F<(len M:Int)) /\
 Int.toNat F<len M /\
 ((0:Int)<=F/\F<(((len (setAt M (Int.toNat F) ⟨(nth M (Int.toNat F) (z.H z.aP)).n,(nth M (Int.toNat F) (z.H z.aP)).r,(nth M (Int.toNat F) (z.H z.aP)).cQ⟩)):Nat):Int)) /\
 Int.toNat F<len (setAt M (Int.toNat F) ⟨(nth M (Int.toNat F) (z.H z.aP)).n,(nth M (Int.toNat F) (z.H z.aP)).r,(nth M (Int.toNat F) (z.H z.aP)).cQ⟩) /\
 rec yx (v1 (U (F+1)) (setAt (setAt M (Int.toNat F) ⟨(nth M (Int.toNat F) (z.H z.aP)).n,(nth M (Int.toNat F) (z.H z.aP)).r,(nth M (Int.toNat F) (z.H z.aP)).cQ⟩) (Int.toNat F) ⟨(nth (setAt M (Int.toNat F) ⟨(nth M (Int.toNat F) (z.H z.aP)).n,(nth M (Int.toNat F) (z.H z.aP)).r,(nth M (Int.toNat F) (z.H z.aP)).cQ⟩) (Int.toNat F) (z.H z.aP)).n,⟨((nth (setAt M (Int.toNat F) ⟨(nth M (Int.toNat F) (z.H z.aP)).n,(nth M (Int.toNat F) (z.H z.aP)).r,(nth M (Int.toNat F) (z.H z.aP)).cQ⟩) (Int.toNat F) (z.H z.aP)).r).version,((nth (setAt M (Int.toNat F) ⟨(nth M (Int.toNat F) (z.H z.aP)).n,(nth M (Int.toNat F) (z.H z.aP)).r,(nth M (Int.toNat F) (z.H z.aP)).cQ⟩) (Int.toNat F) (z.H z.aP)).r).cg,((nth (setAt M (Int.toNat F) ⟨(nth M (Int.toNat F) (z.H z.aP)).n,(nth M (Int.toNat F) (z.H z.aP)).r,(nth M (Int.toNat F) (z.H z.aP)).cQ⟩) (Int.toNat F) (z.H z.aP)).r).targets⟩,(nth M (Int.toNat F) (z.H z.aP)).cQ⟩)))
 (len cw*72<=140737488355328 /\
 rec yy (L3 0 (len cw:Int) cw ag an aE aI aV aZ bd bu bx br bD bM bJ bP bC bT b1 cB cY c6 dc dz dD dZ ea dB dS dF M))):=by subst_vars;kernel_rfl
theorem V5{F:Int}{M:cF}{rec:bV}{K:aU}{ai ag an aE aI aV aZ bd bu bx br bD bM bJ bP bC bT b1 cw cB cY c6 dc dz dD dZ ea dB dS dF}{v0}(bX:v0=fun a b=>L3 a ai b ag an aE aI aV aZ bd bu bx br bD bM bJ bP bC bT b1 cw cB cY c6 dc dz dD dZ ea dB dS dF):js wS tab pw 0 K rec (cU yy) (v0 F M)=(
 J (aL F ai)
 (((0:Int)<=F/\F<(len M:Int)) /\
 Int.toNat F<len M /\
 len (nth M (Int.toNat F) (z.H z.message)).words*8<=140737488355328 /\
 ((0:Int)<=F/\F<(len M:Int)) /\
 Int.toNat F<len M /\
 rec yy (v0 (U (F+1)) (setAt M (Int.toNat F) (nth M (Int.toNat F) (z.H z.message)))))
 (K (.agg [.E (z.list z.str) bd,.E (z.list z.signed) bu,af bx,A br,ax bD,A bM,af bJ,A bP,A bC,bh bT,bh b1,.own 0,.own 1,.own 2,A cw]) [.arr z.aO dS,.arr z.aP dF,.arr z.message M])):=by subst_vars;kernel_rfl

theorem TH(l:cF)(az:l.length<=24)(aB:∀m∈l,m.words.length<=8)(K:aU)(ag:Int)(an:Bool)(aE aI aV aZ:Int)(aJ:cD)(vs:cG)(ws:aK)(fu:Int)(up:Bool)(al:Int)(ah:aK)(ak aj:Int)(aa ab:da)(now:Int)(dI:cD)(eD:cG)(a3 a4:aK)(mn mo:da)(oj:cZ)(qd:c3)(a9:cF)(us:cZ)(cs:c3)
  (D:K (.agg (et aJ vs ws fu up al ah ak aj aa ab (.own 0) (.own 1) (.own 2) now)) [.arr z.aO us,.arr z.aP cs,.arr z.message l]):∀(d k:Nat),k+d=l.length ->
  h4 wS tab pw 0 K (d+1) yy (L3 (k:Int) (((len l):Nat):Int) l ag an aE aI aV aZ aJ vs ws fu up al ah ak aj aa ab now dI eD a3 a4 mn mo oj qd a9 us cs)
 |0,k,ae=>by
  rw[jS (L:=yy),V5 rfl];exact ci (by simp only[len];omega) D
 |d+1,k,ae=>by
  rw[jS (L:=yy),V5 rfl,cM,di (by omega)];have dJ:=aB _ (iu (l:=l) (k:=k) (by omega) (z.H z.message));have e:setAt l k (⟨(nth l k (z.H z.message)).kind,(nth l k (z.H z.message)).unit,(nth l k (z.H z.message)).n,(nth l k (z.H z.message)).at_,(nth l k (z.H z.message)).image,(nth l k (z.H z.message)).words,(nth l k (z.H z.message)).yes⟩:fD)=l:=Fg (by omega) _;rw[e];exact cV (by simp only[len];omega) ⟨⟨by omega,by simp only[len];omega⟩,by simp only[len];omega,by simp only[len];omega,⟨by omega,by simp only[len];omega⟩,by simp only[len];omega,TH l az aB K ag an aE aI aV aZ aJ vs ws fu up al ah ak aj aa ab now dI eD a3 a4 mn mo oj qd a9 us cs D d (k+1) (by omega)⟩
theorem TD(c:c3)(aA:c.length<=8)(en:∀x∈c,x.r.targets.length<=4/\x.cQ.length<=4/\wx x.cQ=true)(l:cF)(az:l.length<=24)(aB:∀m∈l,m.words.length<=8)(K:aU)(ag:Int)(an:Bool)(aE aI aV aZ:Int)(aJ:cD)(vs:cG)(ws:aK)(fu:Int)(up:Bool)(al:Int)(ah:aK)(ak aj:Int)(aa ab:da)(now:Int)(dI:cD)(eD:cG)(a3 a4:aK)(mn mo:da)(oj:cZ)(qd:c3)(a9:cF)(us:cZ)
  (D:K (.agg (et aJ vs ws fu up al ah ak aj aa ab (.own 0) (.own 1) (.own 2) now)) [.arr z.aO us,.arr z.aP c,.arr z.message l]):∀(d k:Nat),k+d=c.length ->
  h4 wS tab pw 0 K (l.length+1+d+1) yx (L2 (k:Int) (((len c):Nat):Int) c ag an aE aI aV aZ aJ vs ws fu up al ah ak aj aa ab l now dI eD a3 a4 mn mo oj qd a9 us)
 |0,k,ae=>by
  rw[jS (L:=yx),V4 rfl rfl];exact ci (by simp only[len];omega) ⟨by simp only[len];omega,TH l az aB K ag an aE aI aV aZ aJ vs ws fu up al ah ak aj aa ab now dI eD a3 a4 mn mo oj qd a9 us c D l.length 0 (by omega)⟩
 |d+1,k,ae=>by
  rw[show l.length+1+(d+1)+1=(l.length+1+d+1)+1 by omega,jS (L:=yx),V4 rfl rfl,cM,di (by omega)];obtain⟨I,G,Y⟩:=en _ (iu (l:=c) (k:=k) (by omega) (z.H z.aP));have e:setAt c k (⟨(nth c k (z.H z.aP)).n,⟨(nth c k (z.H z.aP)).r.version,(nth c k (z.H z.aP)).r.cg,(nth c k (z.H z.aP)).r.targets⟩,(nth c k (z.H z.aP)).cQ⟩:og)=c:=Fg (by omega) _;simp only[e];exact cV (by simp only[len];omega) ⟨⟨by omega,by simp only[len];omega⟩,by simp only[len];omega,by simp only[len];omega,⟨by simp only[len];omega,Y⟩,⟨by omega,by simp only[len];omega⟩,by simp only[len];omega,⟨by omega,by simp only[len];omega⟩,by simp only[len];omega,TD c aA en l az aB K ag an aE aI aV aZ aJ vs ws fu up al ah ak aj aa ab now dI eD a3 a4 mn mo oj qd a9 us D d (k+1) (by omega)⟩
theorem Tt(u:cZ)(hu:u.length<=4)(sG:∀x∈u,x.f.words.length=192)(c:c3)(aA:c.length<=8)(en:∀x∈c,x.r.targets.length<=4/\x.cQ.length<=4/\wx x.cQ=true)(l:cF)(az:l.length<=24)(aB:∀m∈l,m.words.length<=8)(K:aU)(ag:Int)(an:Bool)(aE aI aV aZ:Int)(aJ:cD)(vs:cG)(ws:aK)(fu:Int)(up:Bool)(al:Int)(ah:aK)(ak aj:Int)(aa ab:da)(now:Int)(dI:cD)(eD:cG)(a3 a4:aK)(mn mo:da)(oj:cZ)(qd:c3)(a9:cF)
  (D:K (.agg (et aJ vs ws fu up al ah ak aj aa ab (.own 0) (.own 1) (.own 2) now)) [.arr z.aO u,.arr z.aP c,.arr z.message l]):∀(d k:Nat),k+d=u.length ->
  h4 wS tab pw 0 K (l.length+1+c.length+1+d+1) yw (L1 (k:Int) (((len u):Nat):Int) u ag an aE aI aV aZ aJ vs ws fu up al ah ak aj aa ab c l now dI eD a3 a4 mn mo oj qd a9)
 |0,k,ae=>by
  rw[jS (L:=yw),V3 rfl];exact ci (by simp only[len];omega) ⟨by simp only[len];omega,TD c aA en l az aB K ag an aE aI aV aZ aJ vs ws fu up al ah ak aj aa ab now dI eD a3 a4 mn mo oj qd a9 u D c.length 0 (by omega)⟩
 |d+1,k,ae=>by
  rw[show l.length+1+c.length+1+(d+1)+1=(l.length+1+c.length+1+d+1)+1 by omega,jS (L:=yw),V3 rfl,cM,di (by omega)];have I:=sG _ (iu (l:=u) (k:=k) (by omega) (z.H z.aO));have e:setAt u k (⟨⟨(nth u k (z.H z.aO)).f.words,(nth u k (z.H z.aO)).f.fuel⟩,(nth u k (z.H z.aO)).up,(nth u k (z.H z.aO)).n,(nth u k (z.H z.aO)).eG⟩:oi)=u:=Fg (by omega) _;rw[e];exact cV (by simp only[len];omega) ⟨⟨by omega,by simp only[len];omega⟩,by simp only[len];omega,by simp only[len];omega,⟨by omega,by simp only[len];omega⟩,by simp only[len];omega,Tt u hu sG c aA en l az aB K ag an aE aI aV aZ aJ vs ws fu up al ah ak aj aa ab now dI eD a3 a4 mn mo oj qd a9 D d (k+1) (by omega)⟩
theorem X9:bo 17 HD:=mW (Γ:=wS) 0 ((((((((((bn.f zk).f akq).f X7).f X6).f akp).f Nc).f ako).f aks).f X5).f X4) Tryz.func17 (by kernel_rfl) fun vs au=>by
 unfold HD;split;rotate_left;trivial;rename_i aJ vs ws fu up al ah ak aj aa ab us cs W now;refine⟨by kernel_rfl,fun ad K D=>?_⟩;have aQ:=oW.1 ad;obtain⟨gi,iR⟩:=aQ.o4;have ay:=pg aQ.b;have av:=(Ag aQ.s).1;obtain⟨a1,bf,ck,eP⟩:=r7 aQ.g;have dJ:=aQ.m6;have pC:=aQ.lG;simp only at gi iR ay av dJ pC;refine⟨W.length+1+cs.length+1+us.length+2,?_⟩;refine k4 (fun rec=>(by kernel_rfl:_=(
  len aJ*16<=140737488355328 /\
  len vs*16<=140737488355328 /\
  (len ws*8<=140737488355328/\len ah*8<=140737488355328/\len aa<=1000/\len ab<=1000) /\
  len us*56<=140737488355328 /\
  rec yw (L1 0 (len us:Int) us 0 false 0 0 0 0 aJ vs ws fu up al ah ak aj aa ab cs W now [] [] [] [] [] [] [] [] [])))) ?_
 refine⟨by simp only[len];omega,by simp only[len];omega,⟨a1,bf,ck,eP⟩,by simp only[len];omega,?_⟩;refine Tt us iR (fun x aG=>(q9 (aQ.u x aG)).2.1) cs dJ (fun x aG=>?_) W pC (fun m aB=>(ph (m:=ox m) (aQ.msg m aB).1).2.2.2.2.2.2.2.2.2.2.1) K 0 false 0 0 0 0 aJ vs ws fu up al ah ak aj aa ab now [] [] [] [] [] [] [] [] [] D us.length 0 (by omega);obtain⟨b0,dm,e3,_⟩:=aQ.va _ aG;simp only at b0 dm;exact⟨by omega,by omega,XF e3⟩

def G9:a7
 |[.agg [.E (.list .int) ws,.E .int fu,.E .bool up,.E .int al,.E (.list .int) ah,.E .int ak,.E .int aj,.E (.list .bool) aa,.E (.list .bool) ab]],[]=>some (none,.one (A (hY ⟨⟨ws,fu⟩,up,⟨⟨al,ah,ak⟩,aj⟩,aa,ab⟩)),[])
 |_,_=>none

theorem Nk:bo 141 G9:=b2 0 (bn.f zl) Tryz.func141 (by kernel_rfl) fun vs au=>by
 unfold G9;split;rotate_left;trivial;rename_i ws fu up al ah ak aj aa ab;refine⟨by kernel_rfl,fun K D=>?_⟩;refine⟨1,?_⟩;refine cf (fun rec=>(by kernel_rfl:_=(
  J (!(ar (dG ⟨⟨ws,fu⟩,up,⟨⟨al,ah,ak⟩,aj⟩,aa,ab⟩) 0))
  (K (.one (A (dG ⟨⟨ws,fu⟩,up,⟨⟨al,ah,ak⟩,aj⟩,aa,ab⟩))) [])
  (J (!up)
  (K (.one (A 7)) [])
  (K (.one (A 0)) []))))) ?_
 unfold hY at D;refine bG (fun h=>?_) (fun h=>?_)
 ·rw[if_neg h]at D;exact D
 ·rw[if_pos h]at D;cases up
  ·exact K3 rfl D
  ·exact sP rfl D

def H2:a7
 |[.one (.E (.list .int) l)],[]=>some (some (len l*8<=140737488355328),.one (.own 0),[.arr .int l])
 |_,_=>none

theorem akW:bo 190 H2:=mW 0 bn Tryz.func190 (by kernel_rfl) fun vs au=>by
 unfold H2;split;rotate_left;trivial;rename_i l;refine⟨by kernel_rfl,fun ad K D=>?_⟩;refine⟨1,?_⟩;refine k4 (fun rec=>(by kernel_rfl:_=(
  (∀fF:Bool,(fF=true->len l=0)->J fF
  (K (.one (.own 0)) [.arr z.int []])
  ((0+len l)*8<=140737488355328 /\
  K (.one (.own 0)) [.arr z.int (cat [] l)]))))) ?_
 intro fF ay;refine b3 (fun h=>?_) (fun h=>⟨by simp only[len]at ad |-; omega,D⟩);have:l=[]:=List.length_eq_zero_iff.1 (ay h);subst this;exact D

def Ig:a7
 |[.agg [.E (.list .int) ws,.E .int _],.one (.E .int dL)],[]=>some (some (0<=dL/\dL<=1/\64<=len ws/\len ws<=192/\cC ws=true),.ao [.one (ct (ib ws dL.toNat).1),.one (A (oV dL.toNat (ib ws dL.toNat).2))],[])
 |_,_=>none
def uM:Ctx:=[(190,H2)]
theorem af3:fr Tryz.prog tab uM:=(bn.f akW)
def yY:List cu:=[.inLoop [7,6,5,4,1] (cy py [1,1,1,0,0,0]),.inBlock 0,.code (cy py [1,1,1,1])]
def Mx(F:Int)(ai:aK)(M ag:Int)(an:cj):bO:=⟨[(7,.one (A F)),(6,.one (af ai)),(5,.one (A M)),(4,.one (.own 0)),(1,.one (A ag))],[(0,.arr (z.list z.int) an)],1⟩
def ux:List cu:=[.inLoop [74,73,72,7,5,4,1] (cy py [1,1,1,1,0,1,0,0]),.inBlock 2,.code (cy py [1,1,1,1,1])]
def EX(F ai:Int)(M:aK)(ag an aE:Int)(aI:cj):bO:=⟨[(74,.one (A F)),(73,.one (A ai)),(72,.one (af M)),(7,.one (A ag)),(5,.one (A an)),(4,.one (.own 0)),(1,.one (A aE))],[(0,.arr (z.list z.int) aI)],1⟩
theorem ah5(ws:aK)(fu dL:Int)(rec:bV)(K:aU):b5 uM tab py 0 K rec [.code (bR py)] (df [.agg [af ws,A fu],.one (A dL)] [])=(
 ((0:Int)<=U (dL*32)/\U (dL*32)<=U (U (dL+1)*32)/\U (U (dL+1)*32)<=(len ws:Int)) /\
 rec yY (Mx 1 (aW ws (Int.toNat (U (dL*32))) (Int.toNat (U (U (dL+1)*32)))) 0 dL [])):=by kernel_rfl
theorem WB{F:Int}{an:cj}{rec:bV}{K:aU}{ai M ag}{v0 v1}(bX:v0=fun a b=>Mx a ai M ag b)(b9:v1=EX 0 (((len (aW ai (Int.toNat (min F (len ai:Int))) (Int.toNat (len ai:Int)))):Nat):Int) (aW ai (Int.toNat (min F (len ai:Int))) (Int.toNat (len ai:Int))) F M ag an):b5 uM tab py 0 K rec (cU yY) (v0 F an)=(
 J (aL F (len ai:Int))
 (((0:Int)<=F/\F<(len ai:Int)) /\
 J (!(ar (nth ai (Int.toNat F) (z.H z.int)) 65535))
 (((0:Int)<=F/\F<(len ai:Int)) /\
 J (aL (hZ (nth ai (Int.toNat F) (z.H z.int)) 42240) 1)
 (K (.ao [.one (ct an),.one (A (-1))]) [])
 (J (aL 4 (hZ (nth ai (Int.toNat F) (z.H z.int)) 42240))
 (K (.ao [.one (ct an),.one (A (-1))]) [])
 (J (aL (len ai:Int) (U (U (F+hZ (nth ai (Int.toNat F) (z.H z.int)) 42240)+1)))
 (K (.ao [.one (ct an),.one (A (-1))]) [])
 (((0:Int)<=U (F+1)/\U (F+1)<=U (U (F+1)+hZ (nth ai (Int.toNat F) (z.H z.int)) 42240)/\U (U (F+1)+hZ (nth ai (Int.toNat F) (z.H z.int)) 42240)<=(len ai:Int)) /\
 len (aW ai (Int.toNat (U (F+1))) (Int.toNat (U (U (F+1)+hZ (nth ai (Int.toNat F) (z.H z.int)) 42240))))*8<=140737488355328 /\
 (len an+len (aW ai (Int.toNat (U (F+1))) (Int.toNat (U (U (F+1)+hZ (nth ai (Int.toNat F) (z.H z.int)) 42240)))::[]))*24<=140737488355328 /\
 rec yY (v0 (U (F+U (hZ (nth ai (Int.toNat F) (z.H z.int)) 42240+1))) (cat an (aW ai (Int.toNat (U (F+1))) (Int.toNat (U (U (F+1)+hZ (nth ai (Int.toNat F) (z.H z.int)) 42240)))::[])))))))
 (((0:Int)<=min F (len ai:Int)/\min F (len ai:Int)<=(len ai:Int)/\(len ai:Int)<=(len ai:Int)) /\
 rec ux v1))
 (((0:Int)<=min F (len ai:Int)/\min F (len ai:Int)<=(len ai:Int)/\(len ai:Int)<=(len ai:Int)) /\
 rec ux v1)):=by subst_vars;kernel_rfl
theorem WC{F:Int}{rec:bV}{K:aU}{ai M ag an aE aI}{v0}(bX:v0=fun a=>EX a ai M ag an aE aI):b5 uM tab py 0 K rec (cU ux) (v0 F)=(
 J (aL F ai)
 (((0:Int)<=F/\F<(len M:Int)) /\
 J (!(ar (nth M (Int.toNat F) (z.H z.int)) 65535))
 (K (.ao [.one (ct aI),.one (A (-1))]) [])
 (rec ux (v0 (U (F+1)))))
 (K (.ao [.one (ct aI),.one (A (U (U (aE*32)+ag)))]) [])):=by subst_vars;kernel_rfl

theorem QO(ag an aE:Int)(aI:cj)(K:aU)(t:aK)(bm:t.length<=32)
  (D:K (.ao [.one (ct aI),.one (A (if ht t then U (U (aE*32)+ag)else -1))]) []):∀(d k:Nat),t.length<=k+d->k<=t.length->ht (t.take k)=true ->
  co uM tab py 0 K (d+1) ux (EX (k:Int) (((len t):Nat):Int) t ag an aE aI)
 |0,k,ae,jW,bv=>by
  rw[bW (L:=ux),WC rfl];rw[List.take_of_length_le (by omega)]at bv;rw[if_pos bv]at D;exact ci (by simp only[len];omega) D
 |d+1,k,ae,jW,bv=>by
  rw[bW (L:=ux),WC rfl,cM]
  by_cases c:k=t.length
  ·rw[List.take_of_length_le (by omega)]at bv;rw[if_pos bv]at D;exact ci (by simp only[len];omega) D
  refine cV (by simp only[len];omega) ⟨⟨by omega,by simp only[len];omega⟩,bG (fun dj=>?_) (fun heq=>?_)⟩
  ·rw[if_neg (by rw[show ht t=false from all_false (k:=k) (by omega) (z.H z.int) (by simpa using dj)];simp)]at D;exact D
  ·rw[di (by omega)];exact QO ag an aE aI K t bm D d (k+1) (by omega) (by omega) (Cz (by omega) (z.H z.int) bv (by simpa using heq))
theorem I9(s:aK)(sec:Nat)(qD:sec<=1)(az:s.length=32)(K:aU)(k:Nat)(ae:k<=32)(acc:cj)(gz:Nat)
  (D:K (.ao [.one (ct acc),.one (A (if ht (s.drop k)then 32*(sec:Int)+k else -1))]) []) :
  co uM tab py 0 K (gz+33) ux (EX (0:Int) (((len (aW s (Int.toNat (min (k:Int) (((len s):Nat):Int))) (Int.toNat (((len s):Nat):Int)))):Nat):Int) (aW s (Int.toNat (min (k:Int) (((len s):Nat):Int))) (Int.toNat (((len s):Nat):Int))) (k:Int) 0 (sec:Int) acc):=by
 rw[show Int.toNat (min (k:Int) (((len s):Nat):Int))=k by simp only[len];omega,show Int.toNat (((len s):Nat):Int)=s.length from rfl,XA];refine QO _ _ _ _ K (s.drop k) (by simp;omega) ?_ (gz+32) 0 (by simp;omega) (by omega) rfl;rw[cb (n:=(sec:Int)*32) (by omega) (by omega),cb (by omega) (by omega),show(sec:Int)*32+(k:Int)=32*(sec:Int)+k by omega];exact D
theorem Ur(s:aK)(sec:Nat)(qD:sec<=1)(az:s.length=32)(fW:cC s=true)(K:aU):∀(m k:Nat) (acc:cj),k<=32->32<=m+k->acc.length<=k ->
  K (.ao [.one (ct (acc++(e6 m (s.drop k)).1)),.one (A (match (e6 m (s.drop k)).2 with|some n=>32*(sec:Int)+k+n|none=>-1))]) [] ->
  co uM tab py 0 K (m+34) yY (Mx (k:Int) s 0 (sec:Int) acc)
 |0,k,acc,ae,aB,bl,D=>by
  have:k=32:=by omega
  subst this;rw[show 0+34=33+1 by omega,bW (L:=yY),WB rfl rfl];simp only[e6,List.append_nil]at D;refine ci (by simp only[len];omega) ⟨⟨by simp only[len];omega,by simp only[len];omega,by omega⟩,I9 s sec qD az K 32 (by omega) acc 0 ?_⟩;rw[List.drop_of_length_le (by omega)];simpa[ht]using D
 |m+1,k,acc,ae,aB,bl,D=>by
  rw[show m+1+34=(m+34)+1 by omega,bW (L:=yY),WB rfl rfl,cM]
  by_cases c:k=32
  ·subst c;rw[List.drop_of_length_le (by omega)]at D;simp only[e6,List.append_nil]at D;refine ci (by simp only[len];omega) ⟨⟨by simp only[len];omega,by simp only[len];omega,by omega⟩,I9 s sec qD az K 32 (by omega) acc (m+1) ?_⟩;rw[List.drop_of_length_le (by omega)];simpa[ht]using D
  rw[ee (by omega) (z.H z.int)]at D;obtain⟨x,aG⟩:∃x,nth s k (z.H z.int)=x:=⟨_,rfl⟩
  have Kn:eR x=true:=aG▸nn fW k (by omega);rw[aG]at D |-;simp only[e6]at D;refine cV (by simp only[len];omega) ⟨⟨by omega,by simp only[len];omega⟩,bG (fun dj=>?_) (fun heq=>?_)⟩
  case refine_2 =>
   rw[if_pos heq]at D;refine⟨⟨by simp only[len];omega,by simp only[len];omega,by omega⟩,I9 s sec qD az K k ae acc (m+1) ?_⟩;rw[ee (by omega) (z.H z.int),aG];have e:ht (x::s.drop (k+1))=ht (s.drop (k+1)):=by simp[ht,heq]
   rw[e];cases aA:ht (s.drop (k+1))
   ·simpa[aA]using D
   ·simpa[aA]using D
  rw[if_neg dj]at D;obtain⟨a1,bf,ck,eP⟩:=alY Kn;have UP:gZ x=0->K (.ao [.one (ct acc),.one (A (-1))]) []:=fun h=>by
   rw[if_pos h]at D;simpa using D
  refine⟨⟨by omega,by simp only[len];omega⟩,bq (fun I=>UP (ck (.inl I))) (fun I=>bq (fun G=>UP (ck (.inr G))) (fun G=>?_))⟩;obtain⟨aN,aX,cS⟩:=eP I G;rw[if_neg aX]at D;rw[aN];obtain⟨n,aq⟩:∃n,gZ x=n:=⟨_,rfl⟩
  rw[aq]at D aX cS |-;rw[cb (n:=(k:Int)+(n:Int)) (by omega) (by omega),cb (n:=(k:Int)+(n:Int)+1) (by omega) (by omega),cb (n:=(k:Int)+1) (by omega) (by omega),cb (n:=(k:Int)+1+(n:Int)) (by omega) (by omega),cb (n:=(n:Int)+1) (by omega) (by omega),cb (n:=(k:Int)+((n:Int)+1)) (by omega) (by omega)];have oP:(s.drop (k+1)).length=31-k:=by simp;omega
  refine bq (fun Y=>?_) (fun Y=>?_)
  ·rw[if_neg (by simp only[len]at Y;omega)]at D;simpa using D
  ·simp only[len]at Y;rw[if_pos (by omega)]at D;rw[show Int.toNat ((k:Int)+1)=k+1 by omega,show Int.toNat ((k:Int)+1+(n:Int))=k+1+n by omega,show(k:Int)+((n:Int)+1)=((k+1+n:Nat):Int)by omega];have es:aW s (k+1) (k+1+n)=(s.drop (k+1)).take n:=by simp[aW,List.take_drop]
   rw[es];refine⟨⟨by omega,by omega,by simp only[len];omega⟩,by simp only[len,List.length_take];omega,by simp only[len,List.length_cons,List.length_nil];omega,?_⟩;refine Ur s sec qD az fW K m (k+1+n) _ (by omega) (by omega) (by simp only[cat,List.length_append,List.length_cons,List.length_nil];omega) ?_;rw[List.drop_drop]at D;have gQ:=D;simp only[cat,List.append_assoc,List.cons_append,List.nil_append]at gQ |-;cases iq:(e6 m (s.drop (k+1+n))).2 with
   |none=>simpa[iq]using gQ
   |some p =>
    simp only[iq,Option.map]at gQ;rw[show 32*(sec:Int)+(k:Int)+((p+n+1:Nat):Int)=32*(sec:Int)+((k+1+n:Nat):Int)+(p:Int)by omega]at gQ;exact gQ
theorem ai4(ad:0<=dL/\dL<=1/\64<=len ws/\len ws<=192/\cC ws=true)(K:aU)(D:K (.ao [.one (ct (ib ws dL.toNat).1),.one (A (oV dL.toNat (ib ws dL.toNat).2))]) []):ku uM py 0 K [.agg [af ws,A fu],.one (A dL)] []:=by
 obtain⟨a2,I,G,Y,fW⟩:=ad;obtain⟨sec,rfl⟩:=Int.eq_ofNat_of_zero_le a2;refine⟨32+34+1,?_⟩;rw[eB,ah5 _ _ _ _ _];rw[cb (n:=(sec:Int)*32) (by omega) (by omega),cb (n:=(sec:Int)+1) (by omega) (by omega),cb (by omega) (by omega)];simp only[len]at G Y |-;refine⟨⟨by omega,by omega,by omega⟩,?_⟩;rw[show Int.toNat ((sec:Int)*32)=32*sec by omega,show Int.toNat (((sec:Int)+1)*32)=32*sec+32 by omega];refine Ur (aW ws (32*sec) (32*sec+32)) sec (by omega) (ob _ _ _ (by omega)) (M3 fW _ _) K 32 1 [] (by omega) (by omega) (by simp) ?_;rw[cM]at D;unfold ib nu at D;rw[List.nil_append];cases iq:(e6 32 ((aW ws (32*sec) (32*sec+32)).drop 1)).2 with
 |none =>
  simp only[iq,oV]at D;exact D
 |some p =>
  simp only[iq,oV]at D;exact D
theorem Yy:bo 156 Ig:=hj af3 Tryz.func156 (by kernel_rfl) (by
 intro vs au p v du h ad;unfold Ig at h;split at h
 ·cases h;exact⟨by kernel_rfl,rfl,.inl (ai4 _ _ _ ad.1 _ ⟨rfl,rfl⟩)⟩
 ·cases h)

def Qx:a7
 |[.agg [.E (.list .int) ws,.E .int fu]],[]=>some (none,.ao [.one (ct (kp ⟨ws,fu⟩).1),.one (A (kp ⟨ws,fu⟩).2)],[])
 |_,_=>none

theorem Nw:bo 163 Qx:=b2 0 (((bn.f Yy).f Nv).f Fw) Tryz.func163 (by kernel_rfl) fun vs au=>by
 unfold Qx;split;rotate_left;trivial;rename_i ws fu;refine⟨by kernel_rfl,fun K D=>?_⟩;refine⟨1,?_⟩;refine cf (fun rec=>(by kernel_rfl:_=(
  J (!(ar (dC (⟨ws,fu⟩:cp)) 0))
  (K (.ao [.one (ct []),.one (A (dC (⟨ws,fu⟩:cp)))]) [])
  ((64<=len ws/\cC ws=true) /\
  ((0:Int)<=(((eg ws):Nat):Int)/\(((eg ws):Nat):Int)<=(1:Int)/\64<=len ws/\len ws<=192/\cC ws=true) /\
  K (.ao [.one (ct (ib ws (Int.toNat (((eg ws):Nat):Int))).fst),.one (A 0)]) [])))) ?_
 unfold kp at D;refine bG (fun h=>?_) (fun h=>?_)
 ·rw[if_neg h]at D;exact D
 rw[if_pos h]at D;obtain⟨bL,b0,dm,e3⟩:=ow h;obtain⟨bp,bc,cq,dq⟩:=jx bL;obtain⟨hE,gv⟩:=rQ bp;have:=ub ws;exact⟨⟨b0,dq⟩,⟨by omega,by omega,b0,gv,dq⟩,D⟩

def PQ:a7
 |[.one (.E (.list (.list .int)) l)],[]=>some (some (len l<=1000/\uk l=true),.agg [A (ja l).n,A (ja l).version,ax (ja l).dv,ax (ja l).abort,ax (ja l).ended],[])
 |_,_=>none
def wN:Ctx:=[]
def oY:List cu:=[.inLoop [8,7,6,3,2] (cy sj [1,1,0,1,0,0]),.inBlock 0,.code (cy sj [1,1,1])]
def yi(F ai:Int)(M:cj)(ag an:Int)(aE aI aV:Bool)(aZ bd:Int)(bu bx br:Bool):bO:=⟨[(8,.one (A F)),(7,.one (A ai)),(6,.one (ct M)),(3,.one (.ptr 0 0)),(2,.one (.ptr 1 0))],[(0,.box [A ag,A an,ax aE,ax aI,ax aV]),(1,.box [A aZ,A bd,ax bu,ax bx,ax br])],2⟩
theorem ahj(l:cj)(rec:bV)(K:aU):b5 wN tab sj 0 K rec [.code (bR sj)] (df [.one (ct l)] [])=(
 rec oY (yi 0 (len l:Int) l 0 0 false false false 0 0 false false false)):=by kernel_rfl
theorem VJ{F ag an:Int}{aE aI aV:Bool}{rec:bV}{K:aU}{ai M aZ bd bu bx br}{v0 v4 cn v3 aC v1}(bX:v0=fun a b c d e f=>yi a ai M b c d e f aZ bd bu bx br)(e5:v4=rec oY (v0 (U (F+1)) ag an aE aI true))(hx:cn=rec oY (v0 (U (F+1)) ag an aE aI aV))(ed:v3=J (ar (nth (nth M (Int.toNat F) (z.H (z.list z.int))) (Int.toNat 0) (z.H z.int)) 4)
 (J aE
 v4
 (J aI
 v4
 cn))
 cn) (cT:aC=J (ar (nth (nth M (Int.toNat F) (z.H (z.list z.int))) (Int.toNat 0) (z.H z.int)) 3)
 (J (!aE)
 (rec oY (v0 (U (F+1)) ag an aE true aV))
 (((0:Int)<=(0:Int)/\(0:Int)<(((len (nth M (Int.toNat F) (z.H (z.list z.int)))):Nat):Int)) /\
 v3))
 (((0:Int)<=(0:Int)/\(0:Int)<(((len (nth M (Int.toNat F) (z.H (z.list z.int)))):Nat):Int)) /\
 v3)) (b9:v1=J (!(ar (((len (nth M (Int.toNat F) (z.H (z.list z.int)))):Nat):Int) 2))
 cn
 (((0:Int)<=(1:Int)/\(1:Int)<(((len (nth M (Int.toNat F) (z.H (z.list z.int)))):Nat):Int)) /\
 J (!(ar (nth (nth M (Int.toNat F) (z.H (z.list z.int))) (Int.toNat 1) (z.H z.int)) ag))
 cn
 (J (ar ag 0)
 cn
 (((0:Int)<=(0:Int)/\(0:Int)<(((len (nth M (Int.toNat F) (z.H (z.list z.int)))):Nat):Int)) /\
 J (ar (nth (nth M (Int.toNat F) (z.H (z.list z.int))) (Int.toNat 0) (z.H z.int)) 2)
 (J (!aI)
 (rec oY (v0 (U (F+1)) ag an true aI aV))
 (((0:Int)<=(0:Int)/\(0:Int)<(((len (nth M (Int.toNat F) (z.H (z.list z.int)))):Nat):Int)) /\
 aC))
 (((0:Int)<=(0:Int)/\(0:Int)<(((len (nth M (Int.toNat F) (z.H (z.list z.int)))):Nat):Int)) /\
 aC))))):b5 wN tab sj 0 K rec (cU oY) (v0 F ag an aE aI aV)=(
 J (aL F ai)
 (((0:Int)<=F/\F<(len M:Int)) /\
 ((0:Int)<=(0:Int)/\(0:Int)<(((len (nth M (Int.toNat F) (z.H (z.list z.int)))):Nat):Int)) /\
 J (ar (nth (nth M (Int.toNat F) (z.H (z.list z.int))) (Int.toNat 0) (z.H z.int)) 1)
 (J (ar (((len (nth M (Int.toNat F) (z.H (z.list z.int)))):Nat):Int) 3)
 (((0:Int)<=(1:Int)/\(1:Int)<(((len (nth M (Int.toNat F) (z.H (z.list z.int)))):Nat):Int)) /\
 J (dh 1 (nth (nth M (Int.toNat F) (z.H (z.list z.int))) (Int.toNat 1) (z.H z.int)))
 (((0:Int)<=(1:Int)/\(1:Int)<(((len (nth M (Int.toNat F) (z.H (z.list z.int)))):Nat):Int)) /\
 J (dh (nth (nth M (Int.toNat F) (z.H (z.list z.int))) (Int.toNat 1) (z.H z.int)) 8)
 (((0:Int)<=(1:Int)/\(1:Int)<(((len (nth M (Int.toNat F) (z.H (z.list z.int)))):Nat):Int)) /\
 ((0:Int)<=(2:Int)/\(2:Int)<(((len (nth M (Int.toNat F) (z.H (z.list z.int)))):Nat):Int)) /\
 rec oY (v0 (U (F+1)) (nth (nth M (Int.toNat F) (z.H (z.list z.int))) (Int.toNat 1) (z.H z.int)) (nth (nth M (Int.toNat F) (z.H (z.list z.int))) (Int.toNat 2) (z.H z.int)) false false false))
 v1)
 v1)
 v1)
 v1)
 (K (.agg [A ag,A an,ax aE,ax aI,ax aV]) [])):=by subst_vars;kernel_rfl

set_option maxHeartbeats 4000000 in
theorem alj(l:cj)(K:aU)(aZ bd:Int)(bu bx br:Bool)(gz k:Nat)(n v:Int)(c a e:Bool)(r:aK)(ae:k<l.length)(az:l.length<=1000)(a2:0<r.length)(aw:nth l k (z.H (z.list z.int))=r)
  (kL:∀(l4 e1:Int) (fN ey cd:Bool),gp ⟨n,v,c,a,e⟩ r=⟨l4,e1,fN,ey,cd⟩->co wN tab sj 0 K gz oY (yi ((k+1:Nat):Int) (((len l):Nat):Int) l l4 e1 fN ey cd aZ bd bu bx br)) :
  co wN tab sj 0 K (gz+1) oY (yi (k:Int) (((len l):Nat):Int) l n v c a e aZ bd bu bx br):=by
 rw[bW (L:=oY),VJ rfl rfl rfl rfl rfl rfl,cM,aw];have hF:U ((k:Int)+1)=((k+1:Nat):Int):=di (by omega);rw[hF];obtain⟨jb,dU⟩:∃jb,r.getD 0 0=jb:=⟨_,rfl⟩
 obtain⟨gi,aN⟩:∃gi,r.getD 1 0=gi:=⟨_,rfl⟩
 obtain⟨jc,aX⟩:∃jc,r.getD 2 0=jc:=⟨_,rfl⟩
 have es:gp ⟨n,v,c,a,e⟩ r=if jb=1/\r.length=3/\1<=gi/\gi<=8 then⟨gi,jc,false,false,false⟩else if r.length≠2\/gi≠n\/n=0 then⟨n,v,c,a,e⟩
   else if jb=2/\a=false then⟨n,v,true,a,e⟩else if jb=3/\c=false then⟨n,v,c,true,e⟩else if jb=4/\(c=true\/a=true)then⟨n,v,c,a,true⟩else⟨n,v,c,a,e⟩:=by
  unfold gp;rw[dU,aN,aX]
 rw[show nth r (Int.toNat 0) (z.H z.int)=jb from dU,show nth r (Int.toNat 1) (z.H z.int)=gi from aN,show nth r (Int.toNat 2) (z.H z.int)=jc from aX];have hlen:len r=r.length:=rfl;rw[hlen];rw[es]at kL;clear es;refine cV (by simp only[len];omega) ⟨⟨by omega,by simp only[len];omega⟩,?_⟩
 repeat' first
  |refine⟨⟨by omega,by omega⟩,?_⟩
  |refine cI (fun _=>?_) (fun _=>?_)
  |refine bG (fun _=>?_) (fun _=>?_)
  |refine ew (fun _=>?_) (fun _=>?_)
  |refine b3 (fun h=>?_) (fun h=>?_)<;>first|rw[fY]at h|rw[eL]at h
  |refine b3 (fun _=>?_) (fun _=>?_)
 all_goals first
  |(exfalso;omega)
  |exact kL _ _ _ _ _ (if_pos (by omega))
  |exact kL _ _ _ _ _ (by rw[if_neg (by omega),if_pos (by omega)])
  |exact kL _ _ _ _ _ (by rw[if_neg (by omega),if_neg (by omega),if_pos ⟨by omega,by assumption⟩])
  |exact kL _ _ _ _ _ (by rw[if_neg (by omega),if_neg (by omega),if_neg (by first|exact fun h=>absurd h.1 (by omega)|exact fun h=>absurd h.2 (by simp_all)),if_pos ⟨by omega,by assumption⟩])
  |exact kL _ _ _ _ _ (by rw[if_neg (by omega),if_neg (by omega),if_neg (by first|exact fun h=>absurd h.1 (by omega)|exact fun h=>absurd h.2 (by simp_all)),if_neg (by first|exact fun h=>absurd h.1 (by omega)|exact fun h=>absurd h.2 (by simp_all)),if_pos ⟨by omega,.inl (by assumption)⟩])
  |exact kL _ _ _ _ _ (by rw[if_neg (by omega),if_neg (by omega),if_neg (by first|exact fun h=>absurd h.1 (by omega)|exact fun h=>absurd h.2 (by simp_all)),if_neg (by first|exact fun h=>absurd h.1 (by omega)|exact fun h=>absurd h.2 (by simp_all)),if_pos ⟨by omega,.inr (by assumption)⟩])
  |exact kL _ _ _ _ _ (by rw[if_neg (by omega),if_neg (by omega),if_neg (by first|exact fun h=>absurd h.1 (by omega)|exact fun h=>absurd h.2 (by simp_all)),if_neg (by first|exact fun h=>absurd h.1 (by omega)|exact fun h=>absurd h.2 (by simp_all)),if_neg (by first|exact fun h=>absurd h.1 (by omega)|exact fun h=>absurd h.2 (by simp_all))])
theorem T1(l:cj)(az:l.length<=1000)(aq:uk l=true)(K:aU)(aZ bd:Int)(bu bx br:Bool):∀(d k:Nat) (n v:Int) (c a e:Bool),k+d=l.length ->
  K (.agg [A ((l.drop k).foldl gp ⟨n,v,c,a,e⟩).n,A ((l.drop k).foldl gp ⟨n,v,c,a,e⟩).version,ax ((l.drop k).foldl gp ⟨n,v,c,a,e⟩).dv,ax ((l.drop k).foldl gp ⟨n,v,c,a,e⟩).abort,ax ((l.drop k).foldl gp ⟨n,v,c,a,e⟩).ended]) [] ->
  co wN tab sj 0 K (d+1) oY (yi (k:Int) (((len l):Nat):Int) l n v c a e aZ bd bu bx br)
 |0,k,n,v,c,a,e,ae,D=>by
  rw[bW (L:=oY),VJ rfl rfl rfl rfl rfl rfl];rw[List.drop_of_length_le (by omega)]at D;exact ci (by simp only[len];omega) D
 |d+1,k,n,v,c,a,e,ae,D=>by
  have aB:nth l k (z.H (z.list z.int))∈l:=by
   have:k<l.length:=by omega
   simp[nth,List.getD_eq_getElem?_getD,this]
  have a2:0<(nth l k (z.H (z.list z.int))).length:=by simpa using List.all_eq_true.1 aq _ aB
  rw[ee (by omega) (z.H (z.list z.int))]at D;obtain⟨r,aw⟩:∃r,nth l k (z.H (z.list z.int))=r:=⟨_,rfl⟩
  rw[aw]at D a2;rw[List.foldl_cons]at D;refine alj l K aZ bd bu bx br (d+1) k n v c a e r (by omega) az a2 aw ?_;have kL:∀(l4 e1:Int) (fN ey cd:Bool),gp ⟨n,v,c,a,e⟩ r=⟨l4,e1,fN,ey,cd⟩->co wN tab sj 0 K (d+1) oY (yi ((k+1:Nat):Int) (((len l):Nat):Int) l l4 e1 fN ey cd aZ bd bu bx br):=fun l4 e1 fN ey cd h=>by
   rw[h]at D;exact T1 l az aq K aZ bd bu bx br d (k+1) l4 e1 fN ey cd (by omega) D
  exact kL
theorem XV:bo 165 PQ:=b2 (Γ:=wN) 0 bn Tryz.func165 (by kernel_rfl) fun vs au=>by
 unfold PQ;split;rotate_left;trivial;rename_i l;refine⟨by kernel_rfl,fun ad K D=>?_⟩;refine⟨l.length+2,?_⟩;rw[eB,ahj _ _ _];exact T1 l ad.1 ad.2 K 0 0 false false false l.length 0 0 0 false false false (by omega) D

def G2:a7
 |[.agg [.E (.list .int) ws,.E .int fu,.E .bool _,.E .int _,.E (.list .int) _,.E .int _,.E .int _,.E (.list .bool) _,.E (.list .bool) _]],[]=>some (none,.agg [A (bN ⟨ws,fu⟩).n,A (bN ⟨ws,fu⟩).version,ax (bN ⟨ws,fu⟩).dv,ax (bN ⟨ws,fu⟩).abort,ax (bN ⟨ws,fu⟩).ended],[])
 |_,_=>none

theorem Fq:bo 109 G2:=b2 0 ((bn.f XV).f Nw) Tryz.func109 (by kernel_rfl) fun vs au=>by
 unfold G2;split;rotate_left;trivial;rename_i ws fu up al ah ak aj aa ab;refine⟨by kernel_rfl,fun K D=>?_⟩;refine⟨1,?_⟩;obtain⟨aC,cT⟩:∃aC,aC=ja (kp ⟨ws,fu⟩).fst:=⟨_,rfl⟩
 refine cf (fun rec=>(by subst cT;kernel_rfl:_=(
  (len (kp ⟨ws,fu⟩).fst<=1000/\uk (kp ⟨ws,fu⟩).fst=true) /\
  K (.agg [A aC.n,A aC.version,ax aC.dv,ax aC.abort,ax aC.ended]) []))) ?_
 subst cT;have h:=BJ ⟨ws,fu⟩;exact⟨⟨by simp only[len];omega,K2 h.2⟩,D⟩

def It:a7
 |[.one (.E (.list .int) l)],[]=>some (some (len l<=1000/\j1 l=true),.one (.E .str (fO l)),[])
 |_,_=>none
def F8:Ctx:=[(160,Ac),(185,Da)]
def y6:List cu:=[.inLoop [8,7,6,3,2] (Code.sub (bR Tryz.f148) [1,1,0,1,0,0]),.inBlock 0,.code (Code.sub (bR Tryz.f148) [1,1,1])]
def MF(F ai:Int)(M:aK)(ag:jM)(an:cD):bO:=⟨[(8,.one (A F)),(7,.one (A ai)),(6,.one (af M)),(3,.one (.own 0)),(2,.one (.E z.str ag))],[(0,.arr z.str an)],1⟩
theorem aia(l:aK)(rec:bV)(K:aU):b5 F8 tab Tryz.f148 0 K rec [.code (bR Tryz.f148)] (df [.one (af l)] [])=(
 rec y6 (MF 0 (len l:Int) l [] [])):=by kernel_rfl
theorem WQ{F:Int}{an:cD}{rec:bV}{K:aU}{ai M ag}{aC v0 v1}(cT:aC=fun a b=>MF a ai M ag b)(bX:v0=fZ (nth M (Int.toNat F) (z.H z.int)))(b9:v1=jE ((32:UInt8)::[]) an):b5 F8 tab Tryz.f148 0 K rec (cU y6) (aC F an)=(
 J (aL F ai)
 (((0:Int)<=F/\F<(len M:Int)) /\
 ((0:Int)<=nth M (Int.toNat F) (z.H z.int)/\nth M (Int.toNat F) (z.H z.int)<=9223372036854775807) /\
 (len an+len (v0::[]))*16<=140737488355328 /\
 rec y6 (aC (U (F+1)) (cat an (v0::[]))))
 ((List.length an<=140737488355328/\List.length v1<=140737488355328) /\
 K (.one (.E z.str v1)) [])):=by subst_vars;kernel_rfl

theorem Uz(l:aK)(az:l.length<=1000)(aq:j1 l=true)(K:aU)(D:K (.one (.E .str (fO l))) [])(y:jM):∀(d k:Nat),k+d=l.length ->
  co F8 tab Tryz.f148 0 K (d+1) y6 (MF (k:Int) (((len l):Nat):Int) l y ((l.take k).map fZ))
 |0,k,ae=>by
  rw[bW (L:=y6),WQ rfl rfl rfl,List.take_of_length_le (by omega)];have I:=sL l;unfold fO at I;exact ci (by simp only[len];omega) ⟨⟨by rw[List.length_map];omega,by omega⟩,D⟩
 |d+1,k,ae=>by
  rw[bW (L:=y6),WQ rfl rfl rfl,cM];have aB:nth l k (z.H z.int)∈l:=by
   have:k<l.length:=by omega
   simp[nth,List.getD_eq_getElem?_getD,this]
  have I:=List.all_eq_true.1 aq _ aB;simp only[Bool.and_eq_true,decide_eq_true_eq]at I;refine cV (by simp only[len];omega) ⟨⟨by omega,by simp only[len];omega⟩,I,by simp only[len,List.length_map,List.length_take,List.length_cons,List.length_nil];omega,?_⟩;rw[di (by omega),show cat ((l.take k).map fZ) [fZ (nth l k (z.H z.int))]=(l.take (k+1)).map fZ from by rw[iz (by omega) (z.H z.int)];simp[cat]];exact Uz l az aq K D y d (k+1) (by omega)
theorem NF:bo 148 It:=b2 (Γ:=F8) 0 ((bn.f ⟨⟨_,Tryz.func185,(by kernel_rfl)⟩,YC⟩).f ⟨⟨_,Tryz.func160,(by kernel_rfl)⟩,Fx⟩) Tryz.func148 (by kernel_rfl) fun vs au=>by
 unfold It;split;rotate_left;trivial;rename_i l;refine⟨by kernel_rfl,fun ad K D=>?_⟩;refine⟨l.length+2,?_⟩;rw[eB,aia _ _ _];exact Uz l ad.1 ad.2 K D [] l.length 0 (by omega)

def Iv:a7
 |[.agg [.E .int v,.E (.list .int) aF,.E .int t]],[]=>some (none,.ao [.one (.E .str (sW v aF t).1),.one (A (sW v aF t).2)],[])
 |_,_=>none

theorem ale:bo 214 Iv:=b2 0 (((bn.f NF).f ⟨⟨_,Tryz.func160,(by kernel_rfl)⟩,Fx⟩).f NG) Tryz.func214 (by kernel_rfl) fun vs au=>by
 unfold Iv;split;rotate_left;trivial;rename_i v aF t;dsimp only[z.den]at v aF t;refine⟨by kernel_rfl,fun K D=>?_⟩;refine⟨1,?_⟩;refine cf (fun rec=>(by kernel_rfl:_=(
  J (!(ar (gf v aF t) 0))
  (K (.ao [.one (.E z.str []),.one (A (gf v aF t))]) [])
  (((0:Int)<=v/\v<=9223372036854775807) /\
  len ((114:UInt8)::(111:UInt8)::(111:UInt8)::(116:UInt8)::(32:UInt8)::[])+len (fZ v)<=140737488355328 /\
  len (cat ((114:UInt8)::(111:UInt8)::(111:UInt8)::(116:UInt8)::(32:UInt8)::[]) (fZ v))+len ((32:UInt8)::[])<=140737488355328 /\
  ((0:Int)<=t/\t<=9223372036854775807) /\
  len (cat (cat ((114:UInt8)::(111:UInt8)::(111:UInt8)::(116:UInt8)::(32:UInt8)::[]) (fZ v)) ((32:UInt8)::[]))+len (fZ t)<=140737488355328 /\
  len (cat (cat (cat ((114:UInt8)::(111:UInt8)::(111:UInt8)::(116:UInt8)::(32:UInt8)::[]) (fZ v)) ((32:UInt8)::[])) (fZ t))+len ((32:UInt8)::(111:UInt8)::(102:UInt8)::(32:UInt8)::[])<=140737488355328 /\
  (len aF<=1000/\j1 aF=true) /\
  len (cat (cat (cat (cat ((114:UInt8)::(111:UInt8)::(111:UInt8)::(116:UInt8)::(32:UInt8)::[]) (fZ v)) ((32:UInt8)::[])) (fZ t)) ((32:UInt8)::(111:UInt8)::(102:UInt8)::(32:UInt8)::[]))+len (fO aF)<=140737488355328 /\
  K (.ao [.one (.E z.str (cat (cat (cat (cat (cat ((114:UInt8)::(111:UInt8)::(111:UInt8)::(116:UInt8)::(32:UInt8)::[]) (fZ v)) ((32:UInt8)::[])) (fZ t)) ((32:UInt8)::(111:UInt8)::(102:UInt8)::(32:UInt8)::[])) (fO aF))),.one (A 0)]) [])))) ?_
 unfold sW at D;refine bG (fun h=>?_) (fun h=>?_)
 ·rw[if_neg h]at D;exact D
 rw[if_pos h]at D;obtain⟨I,G,Y,aS,bj,bK⟩:=q8 h;have gD:=um v;have iN:=um t;have jn:=sL aF;refine⟨by omega,by simp only[len,List.length_cons,List.length_nil];omega,by simp only[len,cat,List.length_append,List.length_cons,List.length_nil];omega,by omega,by simp only[len,cat,List.length_append,List.length_cons,List.length_nil];omega,by simp only[len,cat,List.length_append,List.length_cons,List.length_nil];omega,⟨by simp only[len];omega,bK⟩,by simp only[len,cat,List.length_append,List.length_cons,List.length_nil];omega,D⟩

def Dc:a7
 |[.agg [.E (.list .str) l],.one (.E .str s)],[]=>some (some (l.length<=140737488355328),.ao [.one (A (n2 l s).1),.one (A (n2 l s).2)],[])
 |_,_=>none

theorem NC:bo 93 Dc:=b2 0 ((bn.f NB).f Fy) Tryz.func93 (by kernel_rfl) fun vs au=>by
 unfold Dc;split;rotate_left;trivial;rename_i l s;refine⟨by kernel_rfl,fun ad K D=>?_⟩;refine⟨1,?_⟩;refine cf (fun rec=>(by kernel_rfl:_=(
  J (!(ar (fq l) 0))
  (K (.ao [.one (A 0),.one (A (fq l))]) [])
  (List.length l<=140737488355328 /\
  K (.ao [.one (A (U (ev s l+1))),.one (A 0)]) [])))) ?_
 unfold n2 at D;refine bG (fun h=>?_) (fun h=>⟨ad,?_⟩)
 ·rw[if_neg h]at D;exact D
 ·rw[if_pos h]at D;have:=Kr s l 0 (by omega);rw[cb (by unfold ev;omega) (by unfold ev;omega)];exact D

def Pw:a7
 |[.one (.E (.list .int) l),.one (.E .int k)],[]=>some (some (l.length<=140737488355328),.one (A (vJ k 0 l)),[])
 |_,_=>none
def FW:Ctx:=[]
def x6:List cu:=[.inLoop [8,7,4,0,1] (Code.sub (bR Tryz.f228) [1,0,1,0,0]),.inBlock 0,.code (Code.sub (bR Tryz.f228) [1,1])]
def Lv(F ai M:Int)(ag:aK)(an:Int):bO:=⟨[(8,.one (A F)),(7,.one (A ai)),(4,.one (A M)),(0,.one (af ag)),(1,.one (A an))],[],0⟩
theorem ag2(l:aK)(k:Int)(rec:bV)(K:aU):b5 FW tab Tryz.f228 0 K rec [.code (bR Tryz.f228)] (df [.one (af l),.one (A k)] [])=(
 rec x6 (Lv 0 (len l:Int) 0 l k)):=by kernel_rfl
theorem Vv{F:Int}{rec:bV}{K:aU}{ai M ag an}{v0}(bX:v0=fun a=>Lv a ai M ag an):b5 FW tab Tryz.f228 0 K rec (cU x6) (v0 F)=(
 J (aL F ai)
 (((0:Int)<=F/\F<(len ag:Int)) /\
 J (ar an (nth ag (Int.toNat F) (z.H z.int)))
 (K (.one (A F)) [])
 (rec x6 (v0 (U (F+1)))))
 (K (.one (A (-1))) [])):=by subst_vars;kernel_rfl

theorem TP(l:aK)(s:Int)(az:l.length<=140737488355328)(K:aU):∀(d k:Nat),k+d=l.length->K (.one (A (vJ s k (l.drop k)))) [] ->
  co FW tab Tryz.f228 0 K (d+1) x6 (Lv (k:Int) (((len l):Nat):Int) 0 l s)
 |0,k,ae,D=>by
  rw[bW (L:=x6),Vv rfl];rw[List.drop_of_length_le (by omega)]at D;exact ci (by simp only[len];omega) D
 |d+1,k,ae,D=>by
  rw[bW (L:=x6),Vv rfl,cM];rw[ee (by omega) (z.H z.int)]at D;simp only[vJ]at D;refine cV (by simp only[len];omega) ⟨⟨by omega,by simp only[len];omega⟩,cI (fun h=>?_) (fun h=>?_)⟩
  ·rw[if_pos h.symm]at D;exact D
  ·rw[if_neg (fun e=>h e.symm)]at D;rw[di (by omega)];exact TP l s az K d (k+1) (by omega) D
theorem ajA:bo 228 Pw:=b2 (Γ:=FW) 0 bn Tryz.func228 (by kernel_rfl) fun vs au=>by
 unfold Pw;split;rotate_left;trivial;rename_i l k;refine⟨by kernel_rfl,fun ad K D=>?_⟩;refine⟨l.length+2,?_⟩;rw[eB,ag2 _ _ _ _];exact TP l k ad K l.length 0 (by omega) D

def GK:a7
 |[.one (.E (.list .int) l),.one (.E .int k)],[]=>some (some (l.length<=140737488355328),.one (ax (rz k l)),[])
 |_,_=>none

theorem ajB:bo 215 GK:=b2 0 (bn.f ajA) Tryz.func215 (by kernel_rfl) fun vs au=>by
 unfold GK;split;rotate_left;trivial;rename_i l k;refine⟨by kernel_rfl,fun ad K D=>?_⟩;refine⟨1,?_⟩;refine cf (fun rec=>(by kernel_rfl:_=(
  List.length l<=140737488355328 /\
  K (.one (ax (dh 0 (vJ k 0 l)))) []))) ?_
 rw[<- SY k l 0 (by omega)]at D;exact⟨ad,D⟩

def Px:a7
 |[.one (.E (.list .signed) l),.agg [.E .int k,.E .int n]],[]=>some (some (l.length<=140737488355328),.one (A (vI k n 0 l)),[])
 |_,_=>none
def FX:Ctx:=[]
def x7:List cu:=[.inLoop [8,7,4,3,0] (Code.sub (bR Tryz.f229) [1,0,1,0,0]),.inBlock 0,.code (Code.sub (bR Tryz.f229) [1,1])]
def Lw(F ai M:Int)(ag:cG)(an aE:Int):bO:=⟨[(8,.one (A F)),(7,.one (A ai)),(4,.one (A M)),(3,.one (.ptr 0 0)),(0,.one (.E (z.list z.signed) ag))],[(0,.box [A an,A aE])],1⟩
theorem ag3(l:cG)(k n:Int)(rec:bV)(K:aU):b5 FX tab Tryz.f229 0 K rec [.code (bR Tryz.f229)] (df [.one (.E (z.list z.signed) l),.agg [A k,A n]] [])=(
 rec x7 (Lw 0 (len l:Int) 0 l k n)):=by kernel_rfl
theorem Vw{F:Int}{rec:bV}{K:aU}{ai M ag an aE}{v0}(bX:v0=fun a=>Lw a ai M ag an aE):b5 FX tab Tryz.f229 0 K rec (cU x7) (v0 F)=(
 J (aL F ai)
 (((0:Int)<=F/\F<(len ag:Int)) /\
 J ((ar an (nth ag (Int.toNat F) (z.H z.signed)).key)&&((ar aE (nth ag (Int.toNat F) (z.H z.signed)).name)&&true))
 (K (.one (A F)) [])
 (rec x7 (v0 (U (F+1)))))
 (K (.one (A (-1))) [])):=by subst_vars;kernel_rfl

theorem TQ(l:cG)(s n:Int)(az:l.length<=140737488355328)(K:aU):∀(d k:Nat),k+d=l.length->K (.one (A (vI s n k (l.drop k)))) [] ->
  co FX tab Tryz.f229 0 K (d+1) x7 (Lw (k:Int) (((len l):Nat):Int) 0 l s n)
 |0,k,ae,D=>by
  rw[bW (L:=x7),Vw rfl];rw[List.drop_of_length_le (by omega)]at D;exact ci (by simp only[len];omega) D
 |d+1,k,ae,D=>by
  rw[bW (L:=x7),Vw rfl,cM];rw[ee (by omega) (z.H z.signed)]at D;simp only[vI]at D;refine cV (by simp only[len];omega) ⟨⟨by omega,by simp only[len];omega⟩,b3 (fun h=>?_) (fun h=>?_)⟩
  ·rw[if_pos (show rH s n _=true from h)]at D;exact D
  ·rw[if_neg (show ¬rH s n _=true from by rw[show rH s n (nth l k (z.H z.signed))=false from h];simp)]at D;rw[di (by omega)];exact TQ l s n az K d (k+1) (by omega) D
theorem ajC:bo 229 Px:=b2 (Γ:=FX) 0 bn Tryz.func229 (by kernel_rfl) fun vs au=>by
 unfold Px;split;rotate_left;trivial;rename_i l k n;refine⟨by kernel_rfl,fun ad K D=>?_⟩;refine⟨l.length+2,?_⟩;rw[eB,ag3 _ _ _ _ _];exact TQ l k n ad K l.length 0 (by omega) D

def GL:a7
 |[.one (.E (.list .signed) l),.agg [.E .int k,.E .int n]],[]=>some (some (l.length<=140737488355328),.one (ax (nc k n l)),[])
 |_,_=>none

theorem ajD:bo 216 GL:=b2 0 (bn.f ajC) Tryz.func216 (by kernel_rfl) fun vs au=>by
 unfold GL;split;rotate_left;trivial;rename_i l k n;refine⟨by kernel_rfl,fun ad K D=>?_⟩;refine⟨1,?_⟩;refine cf (fun rec=>(by kernel_rfl:_=(
  List.length l<=140737488355328 /\
  K (.one (ax (dh 0 (vI k n 0 l)))) []))) ?_
 rw[<- SX k n l 0 (by omega)]at D;exact⟨ad,D⟩

def CM:a7
 |[.one (.E (.list .signed) l),.agg [.E .int v,.E (.list .int) aF,.E .int t],.one (.E (.list .int) a5),.one (.E .int n)],[]=>some (none,.ao [.one (A (iI l ⟨v,aF,t⟩ a5 n).1),.one (A (iI l ⟨v,aF,t⟩ a5 n).2)],[])
 |_,_=>none
def Oe:Ctx:=[(21,z2),(166,Iu),(215,GK),(216,GL)]
def uu:List cu:=[.inLoop [31,30,29,12,9,8,0,2,3] (Code.sub (bR Tryz.f203) [1,1,1,1,1,0,1,0,0]),.inBlock 0,.code (Code.sub (bR Tryz.f203) [1,1,1,1,1,1])]
def Ly(F ai:Int)(M:aK)(ag an aE:Int)(aI:cG)(aV:aK)(aZ:Int):bO:=⟨[(31,.one (A F)),(30,.one (A ai)),(29,.one (af M)),(12,.one (A ag)),(9,.one (A an)),(8,.one (A aE)),(0,.one (.E (z.list z.signed) aI)),(2,.one (af aV)),(3,.one (A aZ))],[],0⟩
theorem Vy{F ag:Int}{rec:bV}{K:aU}{ai M an aE aI aV aZ}{aC v0 v1}(cT:aC=fun a b=>Ly a ai M b an aE aI aV aZ)(bX:v0=rz (nth M (Int.toNat F) (z.H z.int)) aV)(b9:v1=nc (nth M (Int.toNat F) (z.H z.int)) aZ aI):b5 Oe tab Tryz.f203 0 K rec (cU uu) (aC F ag)=(
 J (aL F ai)
 (((0:Int)<=F/\F<(len M:Int)) /\
 List.length aV<=140737488355328 /\
 J v0
 (List.length aI<=140737488355328 /\
 J v1
 (rec uu (aC (U (F+1)) (U (ag+1))))
 (rec uu (aC (U (F+1)) ag)))
 (rec uu (aC (U (F+1)) ag)))
 (K (.ao [.one (A ag),.one (A 0)]) [])):=by subst_vars;kernel_rfl

theorem Ep(l:cG)(aF a5:aK)(n:Int)(nS:aF.length<=6)(az:l.length<=360)(av:a5.length<=50)(K:aU)(an aE:Int):∀(d k c:Nat),k+d=aF.length->c<=k->K (.ao [.one (A ((c+nE l a5 n (aF.drop k):Nat):Int)),.one (A 0)]) [] ->
  co Oe tab Tryz.f203 0 K (d+1) uu (Ly (k:Int) (((len aF):Nat):Int) aF (c:Int) an aE l a5 n)
 |0,k,c,ae,aA,D=>by
  rw[bW (L:=uu),Vy rfl rfl rfl];rw[List.drop_of_length_le (by omega)]at D;exact ci (by simp only[len];omega) D
 |d+1,k,c,ae,aA,D=>by
  rw[bW (L:=uu),Vy rfl rfl rfl,cM];rw[ee (by omega) (z.H z.int),QS]at D;obtain⟨x,aG⟩:∃x,nth aF k (z.H z.int)=x:=⟨_,rfl⟩
  rw[aG]at D |-;rw[di (k:=k) (by omega),di (k:=c) (by omega)];have no:o1 l a5 n x=false->K (.ao [.one (A ((c+nE l a5 n (aF.drop (k+1)):Nat):Int)),.one (A 0)]) []:=fun h=>by
   rw[if_neg (by rw[h];simp),Nat.zero_add]at D;exact D
  refine cV (by simp only[len];omega) ⟨⟨by omega,by simp only[len];omega⟩,by omega,b3 (fun h=>⟨by omega,b3 (fun G=>?_) (fun G=>?_)⟩) (fun h=>?_)⟩
  ·rw[if_pos (show o1 l a5 n x=true from by simp[o1,h,G])]at D;exact Ep l aF a5 n nS az av K an aE d (k+1) (c+1) (by omega) (by omega) (by rw[show c+1+nE l a5 n (aF.drop (k+1))=c+(1+nE l a5 n (aF.drop (k+1)))by omega];exact D)
  ·exact Ep l aF a5 n nS az av K an aE d (k+1) c (by omega) (by omega) (no (by simp[o1,G]))
  ·exact Ep l aF a5 n nS az av K an aE d (k+1) c (by omega) (by omega) (no (by simp[o1,h]))
theorem XK:bo 203 CM:=b2 (Γ:=Oe) 0 ((((bn.f ajD).f ajB).f NG).f M9) Tryz.func203 (by kernel_rfl) fun vs au=>by
 unfold CM;split;rotate_left;trivial;rename_i l v aF t a5 n;refine⟨by kernel_rfl,fun K D=>?_⟩;refine⟨aF.length+2,?_⟩;refine cf (fun rec=>(by kernel_rfl:_=(
  J (!(ar (hO l) 0))
  (K (.ao [.one (A 0),.one (A (hO l))]) [])
  (J (!(ar (gf v aF t) 0))
  (K (.ao [.one (A 0),.one (A (gf v aF t))]) [])
  (J (aL 50 (len a5:Int))
  (K (.ao [.one (A 0),.one (A 2)]) [])
  (rec uu (Ly 0 (len aF:Int) aF 0 0 0 l a5 n))))))) ?_
 unfold iI at D;simp only at D;refine bG (fun h=>?_) (fun h=>bG (fun G=>?_) (fun G=>bq (fun Y=>?_) (fun Y=>?_)))
 ·rw[if_neg h]at D;exact D
 ·rw[if_pos h,if_neg G]at D;exact D
 ·rw[if_pos h,if_pos G,if_pos (by simp only[len]at Y;omega)]at D;exact D
 ·rw[if_pos h,if_pos G,if_neg (by simp only[len]at Y;omega)]at D;have az:l.length<=360:=by
   unfold hO at h
   by_cases c:360<l.length
   ·rw[if_pos c]at h;cases h
   ·omega
  exact Ep l aF a5 n (q8 G).2.2.2.2.1 az (by simp only[len]at Y;omega) K 0 0 aF.length 0 0 (by omega) (by omega) (by rw[Nat.zero_add];exact D)

def GM:a7
 |[.agg [.E (.list .str) b],.one (.E (.list .signed) l),.agg [.E .int v,.E (.list .int) aF,.E .int t,.E .int n],.agg [.E .int eM,.E (.list .int) el,.E .int eQ],.one (.E (.list .int) a5)],[]=>some (some (b.length<=140737488355328),.ao [.agg [A (gK b l ⟨⟨v,aF,t⟩,n⟩ ⟨eM,el,eQ⟩ a5).1.r.version,af (gK b l ⟨⟨v,aF,t⟩,n⟩ ⟨eM,el,eQ⟩ a5).1.r.keys,A (gK b l ⟨⟨v,aF,t⟩,n⟩ ⟨eM,el,eQ⟩ a5).1.r.dV,A (gK b l ⟨⟨v,aF,t⟩,n⟩ ⟨eM,el,eQ⟩ a5).1.version],.one (A (gK b l ⟨⟨v,aF,t⟩,n⟩ ⟨eM,el,eQ⟩ a5).2)],[])
 |_,_=>none
def Ch:Ctx:=[(111,CN),(214,Iv),(93,Dc),(203,CM),(82,z8)]
def rR:List cu:=[.inLoop [57,56,15,11,10,8,7,1,4] (Code.sub (bR Tryz.f202) [1,1,1,1,1,1,1,0,1,0,0]),.inBlock 0,.code (Code.sub (bR Tryz.f202) [1,1,1,1,1,1,1,1])]
def BD(F ai:Int)(M:aK)(ag an:Int)(aE:aK)(aI aV aZ:Int)(bd:cG)(bu:aK)(bx br bD bM:Int)(bJ:aK)(bP bC:Int)(bT:aK)(b1 cw:Int)(cB:aK):bO:=⟨[(57,.one (A F)),(56,.agg [A ai,af M,A ag,A an,af aE,A aI]),(15,.one (A aV)),(11,.one (A aZ)),(10,.one (.ptr 0 0)),(8,.one (.ptr 1 0)),(7,.one (.ptr 2 0)),(1,.one (.E (z.list z.signed) bd)),(4,.one (af bu))],[(0,.box [A bx,.own 3,A br,A bD]),(1,.box [A bM,af bJ,A bP]),(2,.box [A bC,af bT,A b1,A cw]),(3,.arr z.int cB)],4⟩
theorem ag4{ai ag an aI aV aZ bx br bD bM bP bC b1 cw:Int}{M aE bu bJ bT cB:aK}{bd:cG}{rec:bV}{K:aU}{v1 v0}(b9:v1=fun a=>BD a ai M ag an aE aI aV aZ bd bu bx br bD bM bJ bP bC bT b1 cw cB)(bX:v0=iI bd ⟨ai,M,ag⟩ bu aV):b5 Ch tab Tryz.f202 0 K rec (cU rR) (v1 0)=(
 ((0:Int)<=(0:Int)/\(0:Int)<((2:Nat):Int)) /\
 J (!(ar v0.snd 0))
 (K (.ao [.agg [A (0:Int),af [],A (0:Int),A (0:Int)],.one (A v0.snd)]) [])
 (J (aL v0.fst ag)
 (K (.ao [.agg [A (0:Int),af [],A (0:Int),A (0:Int)],.one (A 9)]) [])
 (rec rR (v1 (U ((0:Int)+(1:Int))))))):=by subst_vars;kernel_rfl
theorem ag5{ai ag an aI aV aZ bx br bD bM bP bC b1 cw:Int}{M aE bu bJ bT cB:aK}{bd:cG}{rec:bV}{K:aU}{v1 v0}(b9:v1=fun a=>BD a ai M ag an aE aI aV aZ bd bu bx br bD bM bJ bP bC bT b1 cw cB)(bX:v0=iI bd ⟨an,aE,aI⟩ bu aV):b5 Ch tab Tryz.f202 0 K rec (cU rR) (v1 1)=(
 ((0:Int)<=(1:Int)/\(1:Int)<((2:Nat):Int)) /\
 J (!(ar v0.snd 0))
 (K (.ao [.agg [A (0:Int),af [],A (0:Int),A (0:Int)],.one (A v0.snd)]) [])
 (J (aL v0.fst aI)
 (K (.ao [.agg [A (0:Int),af [],A (0:Int),A (0:Int)],.one (A 9)]) [])
 (rec rR (v1 (U ((1:Int)+(1:Int))))))):=by subst_vars;kernel_rfl
theorem ag6{ai ag an aI aV aZ bx br bD bM bP bC b1 cw:Int}{M aE bu bJ bT cB:aK}{bd:cG}{rec:bV}{K:aU}:b5 Ch tab Tryz.f202 0 K rec (cU rR) (BD 2 ai M ag an aE aI aV aZ bd bu bx br bD bM bJ bP bC bT b1 cw cB)=(
 len bJ*8<=140737488355328 /\
 K (.ao [.agg [A bM,af bJ,A bP,A cw],.one (A 0)]) []):=by kernel_rfl
theorem anE{ai ag an aI aV aZ bx br bD bM bP bC b1 cw:Int}{M aE bu bJ bT cB:aK}{bd:cG}{rec:bV}{K:aU}:b5 Ch tab Tryz.f202 0 K rec (cU rR) (BD 3 ai M ag an aE aI aV aZ bd bu bx br bD bM bJ bP bC bT b1 cw cB)=(
 len bJ*8<=140737488355328 /\
 K (.ao [.agg [A bM,af bJ,A bP,A cw],.one (A 0)]) []):=by kernel_rfl

theorem ajE:bo 202 GM:=b2 (Γ:=Ch) 0 (((((bn.f wy).f XK).f NC).f ale).f Na) Tryz.func202 (by kernel_rfl) fun vs au=>by
 unfold GM;split;rotate_left;trivial;rename_i b l v aF t n eM el eQ a5;refine⟨by kernel_rfl,fun ad K D=>?_⟩;refine⟨5,?_⟩;obtain⟨aC,cT⟩:∃aC,aC=n2 b (sW eM el eQ).fst:=⟨_,rfl⟩
 refine cf (fun rec=>(by subst cT;kernel_rfl:_=(
  J (!(ar (g5 ⟨⟨v,aF,t⟩,n⟩) 0))
  (K (.ao [.agg [A (0:Int),af [],A (0:Int),A (0:Int)],.one (A (g5 ⟨⟨v,aF,t⟩,n⟩))]) [])
  (J (!(ar (sW eM el eQ).snd 0))
  (K (.ao [.agg [A (0:Int),af [],A (0:Int),A (0:Int)],.one (A (sW eM el eQ).snd)]) [])
  (List.length b<=140737488355328 /\
  J (!(ar aC.snd 0))
  (K (.ao [.agg [A (0:Int),af [],A (0:Int),A (0:Int)],.one (A aC.snd)]) [])
  (J (!(ar eM (U (v+1))))
  (K (.ao [.agg [A (0:Int),af [],A (0:Int),A (0:Int)],.one (A 10)]) [])
  (rec rR (BD 0 v aF t eM el eQ aC.fst 0 l a5 0 0 0 eM el eQ v aF t n [])))))))) ?_
 subst cT;have bad:∀e:Int,e≠0->rV b l ⟨⟨v,aF,t⟩,n⟩ ⟨eM,el,eQ⟩ a5=e->K (.ao [.agg [A 0,af [],A 0,A 0],.one (A e)]) []:=fun e bv h=>by
  rw[show gK b l ⟨⟨v,aF,t⟩,n⟩ ⟨eM,el,eQ⟩ a5=(l5,e)from by unfold gK;rw[if_neg (by rw[h];exact bv),h]]at D;exact D
 refine bG (fun h=>bad _ h (if_neg h)) (fun h=>?_);have er:rV b l ⟨⟨v,aF,t⟩,n⟩ ⟨eM,el,eQ⟩ a5=_:=if_pos h;refine bG (fun G=>?_) (fun G=>⟨ad,?_⟩)
 ·unfold sW at G |-
  by_cases c:gf eM el eQ=0
  ·rw[if_pos c]at G;exact absurd rfl G
  ·rw[if_neg c];exact bad _ c (er.trans (if_neg c))
 have bc:gf eM el eQ=0:=by
  by_cases c:gf eM el eQ=0
  ·exact c
  ·unfold sW at G;rw[if_neg c]at G;exact G
 rw[show sW eM el eQ=(j4 eM el eQ,0)from if_pos bc];have dO:=er.trans (if_pos bc);refine bG (fun Y=>?_) (fun Y=>?_)
 ·unfold n2 at Y |-
  by_cases c:fq b=0
  ·rw[if_pos c]at Y;exact absurd rfl Y
  ·rw[if_neg c];exact bad _ c (dO.trans (if_neg c))
 have cq:fq b=0:=by
  by_cases c:fq b=0
  ·exact c
  ·unfold n2 at Y;rw[if_neg c]at Y;exact Y
 have gu:=dO.trans (if_pos cq);simp only[show n2 b (j4 eM el eQ)=(ev (j4 eM el eQ) b+1,0)from if_pos cq];obtain⟨t1,t2,t3⟩:=Ah h;obtain⟨gm,hH,hW,qS,E1,_⟩:=q8 t3;obtain⟨cO,cL,eH,gy,n8,_⟩:=q8 bc;simp only at t1 t2 gm hH hW qS E1;rw[cb (n:=v+1) (by omega) (by omega)];refine bG (fun aS=>bad _ (by decide) (gu.trans (if_neg aS))) (fun aS=>?_);have ic:=gu.trans (if_pos aS);have step:∀(r:q0) (P Q R:Prop),(gP l r a5 (ev (j4 eM el eQ) b+1)≠0->(iI l r a5 (ev (j4 eM el eQ) b+1)).2≠0->(iI l r a5 (ev (j4 eM el eQ) b+1)).2=gP l r a5 (ev (j4 eM el eQ) b+1)->P)->(gP l r a5 (ev (j4 eM el eQ) b+1)=9->Q)->(gP l r a5 (ev (j4 eM el eQ) b+1)=0->R) ->
   J (!ar (iI l r a5 (ev (j4 eM el eQ) b+1)).2 0) P (J (aL (iI l r a5 (ev (j4 eM el eQ) b+1)).1 r.dV) Q R):=fun r P Q R nQ qs g7=>by
  refine bG (fun g=>?_) (fun g=>bq (fun bf=>qs ?_) (fun bf=>g7 ?_))
  ·have e:gP l r a5 (ev (j4 eM el eQ) b+1)=(iI l r a5 (ev (j4 eM el eQ) b+1)).2:=if_neg g;exact nQ (by rw[e];exact g) g e.symm
  ·unfold gP;rw[if_pos g,if_pos bf]
  ·unfold gP;rw[if_pos g,if_neg (by omega)]
 rw[bW (L:=rR),ag4 rfl rfl];refine⟨by omega,step ⟨v,aF,t⟩ _ _ _ (fun g a1 bf=>bad _ a1 ((ic.trans (if_neg g)).trans bf.symm)) (fun g=>bad _ (by decide) ((ic.trans (if_neg (by rw[g];decide))).trans g)) (fun g=>?_)⟩;have m3:=ic.trans (if_pos g);rw[show U ((0:Int)+1)=1 from cb (by omega) (by omega),bW (L:=rR),ag5 rfl rfl];refine⟨by omega,step ⟨eM,el,eQ⟩ _ _ _ (fun g a1 bf=>bad _ a1 (m3.trans bf.symm)) (fun g=>bad _ (by decide) (m3.trans g)) (fun g=>?_)⟩;rw[show U ((1:Int)+1)=2 from cb (by omega) (by omega),bW (L:=rR),ag6 ];refine⟨by simp only[len];omega,?_⟩;rw[show gK b l ⟨⟨v,aF,t⟩,n⟩ ⟨eM,el,eQ⟩ a5=(⟨⟨eM,el,eQ⟩,n⟩,0)from if_pos (m3.trans g)]at D;exact D

def GN:a7
 |[.one (.E .int e)],[]=>some (none,.ao [.agg [A 0,af [],A 0,A 0],.one (A e)],[])
 |_,_=>none

theorem ajF:bo 201 GN:=b2 0 bn Tryz.func201 (by kernel_rfl) fun vs au=>by
 unfold GN;split;rotate_left;trivial;rename_i e;refine⟨by kernel_rfl,fun K D=>?_⟩;refine⟨1,?_⟩;refine cf (fun rec=>(by kernel_rfl:_=(
  K (.ao [.agg [A (0:Int),af [],A (0:Int),A (0:Int)],.one (A e)]) []))) ?_
 exact D

def Df:a7
 |[.agg [.E .int v,.E .int u,.E (.list .target) ts]],[]=>some (none,.ao [.one (.E .str (nr v u ts).1),.one (A (nr v u ts).2)],[])
 |_,_=>none
def OO:Ctx:=[(112,Dd),(160,Ac),(148,It)]
def y9:List cu:=[.inLoop [25,24,23,5,3,2] (Code.sub (bR Tryz.f106) [1,1,1,0,1,0,0]),.inBlock 0,.code (Code.sub (bR Tryz.f106) [1,1,1,1])]
def MI(F ai:Int)(M:LT)(ag:jM)(an:Int)(aE:jM):bO:=⟨[(25,.one (A F)),(24,.one (A ai)),(23,.one (.E (z.list z.target) M)),(5,.one (.E z.str ag)),(3,.one (A an)),(2,.one (.E z.str aE))],[],0⟩
theorem WU{F:Int}{ag:jM}{rec:bV}{K:aU}{ai M an aE}{aC v0 v1}(cT:aC=fun a b=>MI a ai M b an aE)(bX:v0=j1 ((nth M (Int.toNat F) (z.H z.target)).unit::(nth M (Int.toNat F) (z.H z.target)).image::(nth M (Int.toNat F) (z.H z.target)).dr::[]))(b9:v1=fO ((nth M (Int.toNat F) (z.H z.target)).unit::(nth M (Int.toNat F) (z.H z.target)).image::(nth M (Int.toNat F) (z.H z.target)).dr::[])):b5 OO tab Tryz.f106 0 K rec (cU y9) (aC F ag)=(
 J (aL F ai)
 (((0:Int)<=F/\F<(len M:Int)) /\
 (len ((nth M (Int.toNat F) (z.H z.target)).unit::(nth M (Int.toNat F) (z.H z.target)).image::(nth M (Int.toNat F) (z.H z.target)).dr::[])<=1000/\v0=true) /\
 len ((59:UInt8)::(32:UInt8)::[])+len v1<=140737488355328 /\
 len ag+len (cat ((59:UInt8)::(32:UInt8)::[]) v1)<=140737488355328 /\
 rec y9 (aC (U (F+1)) (cat ag (cat ((59:UInt8)::(32:UInt8)::[]) v1))))
 (K (.ao [.one (.E z.str ag),.one (A 0)]) [])):=by subst_vars;kernel_rfl

theorem UC(ts:LT)(az:ts.length<=4)(aq:∀t∈ts,0<=t.unit/\t.unit<=1000/\0<=t.image/\t.image<=1000/\0<=t.dr/\t.dr<=1000)(K:aU)(pre:jM)(ad:pre.length<=1000)(an:Int)(aE:jM)(D:K (.ao [.one (.E .str (pre++od ts)),.one (A 0)]) []):∀(d k:Nat),k+d=ts.length->(od (ts.take k)).length<=65*k ->
  co OO tab Tryz.f106 0 K (d+1) y9 (MI (k:Int) (((len ts):Nat):Int) ts (pre++od (ts.take k)) an aE)
 |0,k,ae,aH=>by
  rw[bW (L:=y9),WU rfl rfl rfl,List.take_of_length_le (by omega)];exact ci (by simp only[len];omega) D
 |d+1,k,ae,aH=>by
  have bm:=iz (l:=ts) (k:=k) (by omega) (z.H z.target);have aB:nth ts k (z.H z.target)∈ts:=by
   have:k<ts.length:=by omega
   simp[nth,List.getD_eq_getElem?_getD,this]
  have aG:=aq _ aB;have step:od (ts.take (k+1))=od (ts.take k)++zq (nth ts k (z.H z.target)):=by rw[bm];simp[od]
  rw[bW (L:=y9),WU rfl rfl rfl,cM];obtain⟨x,sI⟩:∃x,nth ts k (z.H z.target)=x:=⟨_,rfl⟩
  rw[sI]at aG step |-;have dY:=sL [x.unit,x.image,x.dr];simp only[List.length_cons,List.length_nil]at dY;have nF:(zq x).length=2+(fO [x.unit,x.image,x.dr]).length:=by simp[zq];omega
  have hF:U ((k:Int)+1)=((k+1:Nat):Int):=di (by omega);rw[hF];refine cV (by simp only[len];omega) ⟨⟨by omega,by simp only[len];omega⟩,⟨by simp[len],?_⟩,by simp only[len,List.length_cons,List.length_nil];omega,by simp only[len,cat,List.length_append,List.length_cons,List.length_nil];omega,?_⟩
  ·simp only[j1,List.all_cons,List.all_nil,Bool.and_true,Bool.and_eq_true,decide_eq_true_eq];omega
  ·have:=UC ts az aq K pre ad an aE D d (k+1) (by omega) (by rw[step,List.length_append,nF];omega);rw[step]at this;have e:cat (pre++od (ts.take k)) (cat [59,32] (fO [x.unit,x.image,x.dr]))=pre++(od (ts.take k)++zq x):=by simp[cat,zq]
   rw[<- e]at this;exact this
theorem YE:bo 106 Df:=b2 (Γ:=OO) 0 (((bn.f NF).f ⟨⟨_,Tryz.func160,(by kernel_rfl)⟩,Fx⟩).f YD) Tryz.func106 (by kernel_rfl) fun vs au=>by
 unfold Df;split;rotate_left;trivial;rename_i v u ts;dsimp only[z.den]at v u ts;refine⟨by kernel_rfl,fun K D=>?_⟩;refine⟨ts.length+2,?_⟩;refine cf (fun rec=>(by kernel_rfl:_=(
  J (!(ar (gG v u ts) 0))
  (K (.ao [.one (.E z.str []),.one (A (gG v u ts))]) [])
  (((0:Int)<=v/\v<=9223372036854775807) /\
  len ((114:UInt8)::(101:UInt8)::(108:UInt8)::(101:UInt8)::(97:UInt8)::(115:UInt8)::(101:UInt8)::(32:UInt8)::[])+len (fZ v)<=140737488355328 /\
  len (cat ((114:UInt8)::(101:UInt8)::(108:UInt8)::(101:UInt8)::(97:UInt8)::(115:UInt8)::(101:UInt8)::(32:UInt8)::[]) (fZ v))+len ((32:UInt8)::(117:UInt8)::(110:UInt8)::(116:UInt8)::(105:UInt8)::(108:UInt8)::(32:UInt8)::[])<=140737488355328 /\
  ((0:Int)<=u/\u<=9223372036854775807) /\
  len (cat (cat ((114:UInt8)::(101:UInt8)::(108:UInt8)::(101:UInt8)::(97:UInt8)::(115:UInt8)::(101:UInt8)::(32:UInt8)::[]) (fZ v)) ((32:UInt8)::(117:UInt8)::(110:UInt8)::(116:UInt8)::(105:UInt8)::(108:UInt8)::(32:UInt8)::[]))+len (fZ u)<=140737488355328 /\
  rec y9 (MI 0 (len ts:Int) ts (cat (cat (cat ((114:UInt8)::(101:UInt8)::(108:UInt8)::(101:UInt8)::(97:UInt8)::(115:UInt8)::(101:UInt8)::(32:UInt8)::[]) (fZ v)) ((32:UInt8)::(117:UInt8)::(110:UInt8)::(116:UInt8)::(105:UInt8)::(108:UInt8)::(32:UInt8)::[])) (fZ u)) 0 []))))) ?_
 unfold nr at D;refine bG (fun h=>?_) (fun h=>?_)
 ·rw[if_neg h]at D;exact D
 rw[if_pos h]at D;obtain⟨I,G,Y,aS,bj,bK,c4⟩:=Af h;have gD:=um v;have iN:=um u;refine⟨by omega,by simp only[len,List.length_cons,List.length_nil];omega,by simp only[len,cat,List.length_append,List.length_cons,List.length_nil];omega,by omega,by simp only[len,cat,List.length_append,List.length_cons,List.length_nil];omega,?_⟩;have:=UC ts bK c4 K ([114,101,108,101,97,115,101,32]++fZ v++[32,117,110,116,105,108,32]++fZ u) (by simp only[List.length_append,List.length_cons,List.length_nil];omega) 0 [] D ts.length 0 (by omega) (by simp[od]);rw[show od (ts.take 0)=[]from by simp[od],List.append_nil]at this;exact this

def Iw:a7
 |[.one (.E (.list .int) l)],[]=>some (none,.ao [.one (.E .str (lb l).1),.one (A (lb l).2)],[])
 |_,_=>none

theorem YF:bo 92 Iw:=b2 0 ((bn.f NF).f NH) Tryz.func92 (by kernel_rfl) fun vs au=>by
 unfold Iw;split;rotate_left;trivial;rename_i l;refine⟨by kernel_rfl,fun K D=>?_⟩;refine⟨1,?_⟩;refine cf (fun rec=>(by kernel_rfl:_=(
  J (!(ar (fv l) 0))
  (K (.ao [.one (.E z.str []),.one (A (fv l))]) [])
  ((len l<=1000/\j1 l=true) /\
  len ((105:UInt8)::(109:UInt8)::(97:UInt8)::(103:UInt8)::(101:UInt8)::(32:UInt8)::[])+len (fO l)<=140737488355328 /\
  K (.ao [.one (.E z.str (cat ((105:UInt8)::(109:UInt8)::(97:UInt8)::(103:UInt8)::(101:UInt8)::(32:UInt8)::[]) (fO l))),.one (A 0)]) [])))) ?_
 unfold lb at D;refine bG (fun h=>?_) (fun h=>?_)
 ·rw[if_neg h]at D;exact D
 rw[if_pos h]at D;obtain⟨I,G,Y⟩:=r8 h;have jn:=sL l;exact⟨⟨by simp only[len];omega,US Y⟩,by simp only[len,List.length_cons,List.length_nil];omega,D⟩

def Ad:a7
 |[.agg [.E (.list .str) l],.one (.E (.list .int) ws)],[]=>some (some (l.length<=140737488355328),.ao [.one (A (gH l ws).1),.one (A (gH l ws).2)],[])
 |_,_=>none

theorem NI:bo 25 Ad:=b2 0 ((bn.f NC).f YF) Tryz.func25 (by kernel_rfl) fun vs au=>by
 unfold Ad;split;rotate_left;trivial;rename_i l ws;refine⟨by kernel_rfl,fun ad K D=>?_⟩;refine⟨1,?_⟩;refine cf (fun rec=>(by kernel_rfl:_=(
  J (!(ar (lb ws).snd 0))
  (K (.ao [.one (A 0),.one (A (lb ws).snd)]) [])
  (List.length l<=140737488355328 /\
  K (.ao [.one (A (n2 l (lb ws).fst).fst),.one (A (n2 l (lb ws).fst).snd)]) [])))) ?_
 unfold gH at D
 by_cases h:fv ws=0
 ·rw[if_pos h]at D;rw[show lb ws=(kk ws,0)from if_pos h];exact qI rfl ⟨ad,D⟩
 ·rw[if_neg h]at D;rw[show lb ws=([],fv ws)from if_neg h];exact UM h D

def Py:a7
 |[.agg [.E (.list .str) b],.one (.E (.list .signed) l),.agg [.E .int v,.E (.list .int) aF,.E .int t,.E .int n],.agg [.E (.list .root) rs,.E (.list (.list .int)) rg,.E .int bE,.E .int bY,.E (.list .target) ts,.E (.list .int) a5,.E (.list (.list .int)) a8],.one (.E .int now),.one (.E .int units)],[]=>some (some (b.length<=140737488355328),.ao [.agg [A (ha b l ⟨⟨v,aF,t⟩,n⟩ ⟨rs,rg,⟨bE,bY,ts⟩,a5,a8⟩ now units).1.r.version,af (ha b l ⟨⟨v,aF,t⟩,n⟩ ⟨rs,rg,⟨bE,bY,ts⟩,a5,a8⟩ now units).1.r.keys,A (ha b l ⟨⟨v,aF,t⟩,n⟩ ⟨rs,rg,⟨bE,bY,ts⟩,a5,a8⟩ now units).1.r.dV,A (ha b l ⟨⟨v,aF,t⟩,n⟩ ⟨rs,rg,⟨bE,bY,ts⟩,a5,a8⟩ now units).1.version],.one (A (ha b l ⟨⟨v,aF,t⟩,n⟩ ⟨rs,rg,⟨bE,bY,ts⟩,a5,a8⟩ now units).2)],[])
 |_,_=>none
def Ci:Ctx:=[(111,CN),(202,GM),(201,GN),(106,Df),(93,Dc),(203,CM),(25,Ad),(82,z8)]
def x9:List cu:=[.inLoop [57,56,55,14,13,12,9,8,6,1,4,5] (cy tx [1,1,1,1,0,1,0,0]),.inBlock 0,.code (cy tx [1,1,1,1,1])]
def Lz(F ai:Int)(M:hs)(ag:Int)(an:cG)(aE aI aV aZ bd:Int)(bu:hs)(bx:cj)(br bD:Int)(bM:LT)(bJ:aK)(bP:cj)(bC:Int)(bT:aK)(b1 cw:Int)(cB:cD)(cY:aK):bO:=⟨[(57,.one (A F)),(56,.one (A ai)),(55,.one (.E (z.list z.root) M)),(14,.one (.fn 201 [])),(13,.one (A ag)),(12,.one (.ptr 0 0)),(9,.one (.ptr 1 0)),(8,.one (.ptr 2 0)),(6,.one (.ptr 3 0)),(1,.one (.E (z.list z.signed) an)),(4,.one (A aE)),(5,.one (A aI))],[(0,.box [A aV,.own 4,A aZ,A bd]),(1,.box [.E (z.list z.root) bu,ct bx,A br,A bD,.E (z.list z.target) bM,af bJ,ct bP]),(2,.box [A bC,af bT,A b1,A cw]),(3,.box [.E (z.list z.str) cB]),(4,.arr z.int cY)],5⟩
def ya:List cu:=[.inLoop [181,180,179,14,13,12,9,8,6] (cy tx [1,1,1,1,1,1,1,1,1,1,1,0,1,0,0]),.inBlock 3,.code (cy tx [1,1,1,1,1,1,1,1,1,1,1,1])]
def LA(F ai:Int)(M:LT)(ag an aE aI:Int)(aV:hs)(aZ:cj)(bd bu:Int)(bx:LT)(br:aK)(bD:cj)(bM:Int)(bJ:aK)(bP bC:Int)(bT:cD)(b1:aK):bO:=⟨[(181,.one (A F)),(180,.one (A ai)),(179,.one (.E (z.list z.target) M)),(14,.one (.fn 201 [])),(13,.one (A ag)),(12,.one (.ptr 0 0)),(9,.one (.ptr 1 0)),(8,.one (.ptr 2 0)),(6,.one (.ptr 3 0))],[(0,.box [A an,.own 4,A aE,A aI]),(1,.box [.E (z.list z.root) aV,ct aZ,A bd,A bu,.E (z.list z.target) bx,af br,ct bD]),(2,.box [A bM,af bJ,A bP,A bC]),(3,.box [.E (z.list z.str) bT]),(4,.arr z.int b1)],5⟩
theorem Vz{F bC b1 cw:Int}{bT:aK}{rec:bV}{K:aU}{ai M ag an aE aI aV aZ bd bu bx br bD bM bJ bP cB cY}{v4 v0 v1 aC v3 cn}(e5:v4=fun a b c d e=>Lz a ai M ag an aE aI aV aZ bd bu bx br bD bM bJ bP b c d e cB cY)(bX:v0=gK cB an ⟨⟨bC,bT,b1⟩,cw⟩ ⟨(nth M (Int.toNat F) (z.H z.root)).version,(nth M (Int.toNat F) (z.H z.root)).keys,(nth M (Int.toNat F) (z.H z.root)).dV⟩ (nth bx (Int.toNat F) (z.H (z.list z.int))))(b9:v1=nr br bD bM)(cT:aC=n2 cB v1.fst)(ed:v3=iI an ⟨bC,bT,b1⟩ bJ aC.fst)(hx:cn=K (.ao [.agg [A (0:Int),af [],A (0:Int),A (0:Int)],.one (A 4)]) []):b5 Ci tab tx 0 K rec (cU x9) (v4 F bC bT b1 cw)=(
 J (aL F ai)
 (((0:Int)<=F/\F<(len M:Int)) /\
 ((0:Int)<=F/\F<(len bx:Int)) /\
 List.length cB<=140737488355328 /\
 J (!(ar v0.snd 0))
 (K (.ao [.agg [A (0:Int),af [],A (0:Int),A (0:Int)],.one (A v0.snd)]) [])
 (rec x9 (v4 (U (F+1)) v0.fst.r.version v0.fst.r.keys v0.fst.r.dV v0.fst.version)))
 (J (!(ar v1.snd 0))
 (K (.ao [.agg [A (0:Int),af [],A (0:Int),A (0:Int)],.one (A v1.snd)]) [])
 (List.length cB<=140737488355328 /\
 J (!(ar aC.snd 0))
 (K (.ao [.agg [A (0:Int),af [],A (0:Int),A (0:Int)],.one (A aC.snd)]) [])
 (J (!(ar v3.snd 0))
 (K (.ao [.agg [A (0:Int),af [],A (0:Int),A (0:Int)],.one (A v3.snd)]) [])
 (J (aL v3.fst b1)
 (K (.ao [.agg [A (0:Int),af [],A (0:Int),A (0:Int)],.one (A 9)]) [])
 (J (dh br cw)
 (K (.ao [.agg [A (0:Int),af [],A (0:Int),A (0:Int)],.one (A 10)]) [])
 (J (aL bD aE)
 (K (.ao [.agg [A (0:Int),af [],A (0:Int),A (0:Int)],.one (A 11)]) [])
 (J (!(ar (len bM:Int) aI))
 cn
 (J (!(ar (len bP:Int) aI))
 cn
 (rec ya (LA 0 (len bM:Int) bM ag aV aZ bd bu bx br bD bM bJ bP bC bT b1 cw cB cY))))))))))):=by subst_vars;kernel_rfl
theorem VA{F:Int}{rec:bV}{K:aU}{ai M ag an aE aI aV aZ bd bu bx br bD bM bJ bP bC bT b1}{v1 v0 aC}(b9:v1=fun a=>LA a ai M ag an aE aI aV aZ bd bu bx br bD bM bJ bP bC bT b1)(bX:v0=gH bT (nth bD (Int.toNat F) (z.H (z.list z.int))))(cT:aC=K (.ao [.agg [A (0:Int),af [],A (0:Int),A (0:Int)],.one (A 5)]) []):b5 Ci tab tx 0 K rec (cU ya) (v1 F)=(
 J (aL F ai)
 (((0:Int)<=F/\F<(len M:Int)) /\
 ((0:Int)<=F/\F<(len bD:Int)) /\
 List.length bT<=140737488355328 /\
 J (!(ar v0.snd 0))
 aC
 (J (!(ar v0.fst (nth M (Int.toNat F) (z.H z.target)).image))
 aC
 (((0:Int)<=F/\F<(len bD:Int)) /\
 J (!(ar (((len (nth bD (Int.toNat F) (z.H (z.list z.int)))):Nat):Int) (nth M (Int.toNat F) (z.H z.target)).dr))
 aC
 (rec ya (v1 (U (F+1)))))))
 (len bJ*8<=140737488355328 /\
 K (.ao [.agg [A bM,af bJ,A bP,A bd],.one (A 0)]) [])):=by subst_vars;kernel_rfl

theorem TB(b:cD)(ay:b.length<=140737488355328)(ts:LT)(a8:cj)(az:ts.length<=4)(hi:a8.length=ts.length)(K:aU)(ag an aE aI:Int)(rs:hs)(rg:cj)(bE bY:Int)(a5:aK)(v:Int)(aF:aK)(t n:Int)(ae:aF.length<=6)(b1:aK):∀(d k:Nat),k+d=ts.length ->
  (n6 b (ts.drop k) (a8.drop k)=true->K (.ao [.agg [A v,af aF,A t,A bE],.one (A 0)]) []) ->
  (n6 b (ts.drop k) (a8.drop k)=false->K (.ao [.agg [A 0,af [],A 0,A 0],.one (A 5)]) []) ->
  co Ci tab tx 0 K (d+1) ya (LA (k:Int) (((len ts):Nat):Int) ts ag an aE aI rs rg bE bY ts a5 a8 v aF t n b b1)
 |0,k,jC,bI,c8=>by
  rw[bW (L:=ya),VA rfl rfl rfl];rw[List.drop_of_length_le (by omega)]at bI;exact ci (by simp only[len];omega) ⟨by simp only[len];omega,bI rfl⟩
 |d+1,k,jC,bI,c8=>by
  rw[bW (L:=ya),VA rfl rfl rfl,cM];rw[ee (l:=ts) (by omega) (z.H z.target),ee (l:=a8) (by omega) (z.H (z.list z.int))]at bI c8;obtain⟨x,aG⟩:∃x,nth ts k (z.H z.target)=x:=⟨_,rfl⟩
  obtain⟨w,b8⟩:∃w,nth a8 k (z.H (z.list z.int))=w:=⟨_,rfl⟩
  rw[aG,b8]at bI c8 |-;simp only[n6,List.headD_cons,List.tail_cons]at bI c8;have kB:n5 b x w=false->K (.ao [.agg [A 0,af [],A 0,A 0],.one (A 5)]) []:=fun h=>c8 (by rw[h];rfl)
  have hF:U ((k:Int)+1)=((k+1:Nat):Int):=di (by omega);rw[hF];refine cV (by simp only[len];omega) ⟨⟨by omega,by simp only[len];omega⟩,⟨by omega,by simp only[len];omega⟩,ay,bG (fun h=>kB ?_) (fun h=>bG (fun G=>kB ?_) (fun G=>⟨⟨by omega,by simp only[len];omega⟩,bG (fun Y=>kB ?_) (fun Y=>?_)⟩))⟩
  ·simp[n5,h]
  ·simp[n5,G]
  ·simp only[n5,Bool.and_eq_false_iff,decide_eq_false_iff_not];exact .inr Y
  ·have ok:n5 b x w=true:=by
    simp only[n5,Bool.and_eq_true,decide_eq_true_eq];exact⟨⟨h,G⟩,Y⟩
   rw[ok]at bI c8;exact TB b ay ts a8 az hi K ag an aE aI rs rg bE bY a5 v aF t n ae b1 d (k+1) (by omega) (fun g=>bI (by rw[g];rfl)) (fun g=>c8 (by rw[g];rfl))
theorem TS(b:cD)(ay:b.length<=140737488355328)(l:cG)(rs:hs)(rg:cj)(bE bY:Int)(ts:LT)(a5:aK)(a8:cj)(now units:Int)(aw:rs.length<=6)(bt:rg.length=rs.length)(K:aU)(ag aV aZ bd:Int)(cY:aK):∀(d k:Nat) (v:Int) (aF:aK) (t n:Int),k+d=rs.length->aF.length<=6 ->
  K (.ao [.agg [A (takeEnd b l ⟨rs,rg,⟨bE,bY,ts⟩,a5,a8⟩ now units (gU b l ⟨⟨v,aF,t⟩,n⟩ (rs.drop k) (rg.drop k))).1.r.version,af (takeEnd b l ⟨rs,rg,⟨bE,bY,ts⟩,a5,a8⟩ now units (gU b l ⟨⟨v,aF,t⟩,n⟩ (rs.drop k) (rg.drop k))).1.r.keys,A (takeEnd b l ⟨rs,rg,⟨bE,bY,ts⟩,a5,a8⟩ now units (gU b l ⟨⟨v,aF,t⟩,n⟩ (rs.drop k) (rg.drop k))).1.r.dV,A (takeEnd b l ⟨rs,rg,⟨bE,bY,ts⟩,a5,a8⟩ now units (gU b l ⟨⟨v,aF,t⟩,n⟩ (rs.drop k) (rg.drop k))).1.version],.one (A (takeEnd b l ⟨rs,rg,⟨bE,bY,ts⟩,a5,a8⟩ now units (gU b l ⟨⟨v,aF,t⟩,n⟩ (rs.drop k) (rg.drop k))).2)]) [] ->
  co Ci tab tx 0 K ((ts.length+1)+d+1) x9 (Lz (k:Int) (((len rs):Nat):Int) rs ag l now units aV aZ bd rs rg bE bY ts a5 a8 v aF t n b cY)
 |0,k,v,aF,t,n,ae,rB,D=>by
  rw[bW (L:=x9),Vz rfl rfl rfl rfl rfl rfl];rw[List.drop_of_length_le (by omega)]at D;refine ci (by simp only[len];omega) ?_;have dU:takeEnd b l ⟨rs,rg,⟨bE,bY,ts⟩,a5,a8⟩ now units (gU b l ⟨⟨v,aF,t⟩,n⟩ [] (rg.drop k))=if mV b l ⟨⟨v,aF,t⟩,n⟩ ⟨rs,rg,⟨bE,bY,ts⟩,a5,a8⟩ now units=0 then(⟨⟨v,aF,t⟩,bE⟩,0)else(l5,mV b l ⟨⟨v,aF,t⟩,n⟩ ⟨rs,rg,⟨bE,bY,ts⟩,a5,a8⟩ now units):=rfl
  rw[dU]at D;have bad:∀e:Int,e≠0->mV b l ⟨⟨v,aF,t⟩,n⟩ ⟨rs,rg,⟨bE,bY,ts⟩,a5,a8⟩ now units=e->K (.ao [.agg [A 0,af [],A 0,A 0],.one (A e)]) []:=fun e bv h=>by
   rw[if_neg (by rw[h];exact bv),h]at D;exact D
  have ru:mV b l ⟨⟨v,aF,t⟩,n⟩ ⟨rs,rg,⟨bE,bY,ts⟩,a5,a8⟩ now units=0->K (.ao [.agg [A v,af aF,A t,A bE],.one (A 0)]) []:=fun h=>by
   rw[if_pos h]at D;exact D
  clear D dU;refine bG (fun G=>?_) (fun G=>⟨ay,?_⟩)
  ·unfold nr at G |-
   by_cases c:gG bE bY ts=0
   ·rw[if_pos c]at G;exact absurd rfl G
   ·rw[if_neg c];exact bad _ c (if_neg c)
  have bc:gG bE bY ts=0:=by
   by_cases c:gG bE bY ts=0
   ·exact c
   ·unfold nr at G;rw[if_neg c]at G;exact G
  rw[show nr bE bY ts=(l8 bE bY ts,0)from if_pos bc];have dO:mV b l ⟨⟨v,aF,t⟩,n⟩ ⟨rs,rg,⟨bE,bY,ts⟩,a5,a8⟩ now units=_:=if_pos bc;refine bG (fun Y=>?_) (fun Y=>?_)
  ·unfold n2 at Y |-
   by_cases c:fq b=0
   ·rw[if_pos c]at Y;exact absurd rfl Y
   ·rw[if_neg c];exact bad _ c (dO.trans (if_neg c))
  have cq:fq b=0:=by
   by_cases c:fq b=0
   ·exact c
   ·unfold n2 at Y;rw[if_neg c]at Y;exact Y
  have gu:=dO.trans (if_pos cq);simp only[show n2 b (l8 bE bY ts)=(ev (l8 bE bY ts) b+1,0)from if_pos cq];obtain⟨cO,cL,eH,gy,n8,sS,_⟩:=Af bc;refine bG (fun g=>?_) (fun g=>bq (fun bf=>?_) (fun bf=>?_))
  ·have e:gP l ⟨v,aF,t⟩ a5 (ev (l8 bE bY ts) b+1)=(iI l ⟨v,aF,t⟩ a5 (ev (l8 bE bY ts) b+1)).2:=if_neg g;exact bad _ g ((gu.trans (if_neg (by rw[e];exact g))).trans e)
  ·have e:gP l ⟨v,aF,t⟩ a5 (ev (l8 bE bY ts) b+1)=9:=by unfold gP;rw[if_pos g,if_pos bf]
   exact bad _ (by decide) ((gu.trans (if_neg (by rw[e];decide))).trans e)
  have e:gP l ⟨v,aF,t⟩ a5 (ev (l8 bE bY ts) b+1)=0:=by unfold gP;rw[if_pos g,if_neg (by simp only;omega)]
  have ic:=gu.trans (if_pos e);simp only at ic;refine b3 (fun bj=>?_) (fun bj=>?_)
  ·rw[fY]at bj;exact bad _ (by decide) (ic.trans (if_pos bj))
  rw[eL]at bj;have m3:=ic.trans (if_neg (by omega));refine bq (fun bK=>bad _ (by decide) (m3.trans (if_pos bK))) (fun bK=>?_);have p5:=m3.trans (if_neg (by omega));refine bG (fun c4=>bad _ (by decide) (p5.trans (if_pos (.inl c4)))) (fun c4=>bG (fun dJ=>bad _ (by decide) (p5.trans (if_pos (.inr dJ)))) (fun dJ=>?_));have rW:=p5.trans (if_neg (by simp only[len]at c4 dJ;omega));exact TB b ay ts a8 sS (by simp only[len]at c4 dJ;omega) K ag aV aZ bd rs rg bE bY a5 v aF t n rB cY ts.length 0 (by omega) (fun g=>ru (rW.trans (if_pos g))) (fun g=>bad 5 (by decide) (rW.trans (if_neg (by rw[show n6 b ts a8=false from g];simp))))
 |d+1,k,v,aF,t,n,ae,rB,D=>by
  rw[show ts.length+1+(d+1)+1=(ts.length+1+d+1)+1 by omega,bW (L:=x9),Vz rfl rfl rfl rfl rfl rfl,cM];rw[ee (l:=rs) (by omega) (z.H z.root),ee (l:=rg) (by omega) (z.H (z.list z.int))]at D;obtain⟨x,aG⟩:∃x,nth rs k (z.H z.root)=x:=⟨_,rfl⟩
  obtain⟨w,b8⟩:∃w,nth rg k (z.H (z.list z.int))=w:=⟨_,rfl⟩
  rw[aG,b8]at D |-;have hF:U ((k:Int)+1)=((k+1:Nat):Int):=di (by omega);rw[hF];have ex:(⟨x.version,x.keys,x.dV⟩:q0)=x:=rfl;rw[ex];refine cV (by simp only[len];omega) ⟨⟨by omega,by simp only[len];omega⟩,⟨by omega,by simp only[len];omega⟩,ay,bG (fun h=>?_) (fun h=>?_)⟩
  ·rw[show gU b l ⟨⟨v,aF,t⟩,n⟩ (x::rs.drop (k+1)) (w::rg.drop (k+1))=(l5,(gK b l ⟨⟨v,aF,t⟩,n⟩ x w).2)from if_neg h]at D;have e:takeEnd b l ⟨rs,rg,⟨bE,bY,ts⟩,a5,a8⟩ now units (l5,(gK b l ⟨⟨v,aF,t⟩,n⟩ x w).2)=(l5,(gK b l ⟨⟨v,aF,t⟩,n⟩ x w).2):=if_neg h;rw[e]at D;exact D
  ·rw[show gU b l ⟨⟨v,aF,t⟩,n⟩ (x::rs.drop (k+1)) (w::rg.drop (k+1))=gU b l (gK b l ⟨⟨v,aF,t⟩,n⟩ x w).1 (rs.drop (k+1)) (rg.drop (k+1))from if_pos h]at D;obtain⟨I,G⟩:=Y5 h;obtain⟨_,Y,_⟩:=Y4 I;rw[G]at D |-;exact TS b ay l rs rg bE bY ts a5 a8 now units aw bt K ag aV aZ bd cY d (k+1) x.version x.keys x.dV n (by omega) (q8 Y).2.2.2.2.1 D
theorem ajG:bo 177 Py:=b2 (Γ:=Ci) 0 ((((((((bn.f wy).f NI).f XK).f NC).f YE).f ajF).f ajE).f Na) Tryz.func177 (by kernel_rfl) fun vs au=>by
 unfold Py;split;rotate_left;trivial;rename_i b l v aF t n rs rg bE bY ts a5 a8 now units;refine⟨by kernel_rfl,fun ad K D=>?_⟩;refine⟨ts.length+1+rs.length+1+1,?_⟩;obtain⟨v1,b9⟩:∃v1,v1=K (.ao [.agg [A (0:Int),af [],A (0:Int),A (0:Int)],.one (A 2)]) []:=⟨_,rfl⟩
 refine cf (fun rec=>(by subst b9;kernel_rfl:_=(
  J (!(ar (g5 ⟨⟨v,aF,t⟩,n⟩) 0))
  (K (.ao [.agg [A (0:Int),af [],A (0:Int),A (0:Int)],.one (A (g5 ⟨⟨v,aF,t⟩,n⟩))]) [])
  (J (aL 6 (len rs:Int))
  v1
  (J (!(ar (len rg:Int) (len rs:Int)))
  v1
  (rec x9 (Lz 0 (len rs:Int) rs 0 l now units 0 0 0 rs rg bE bY ts a5 a8 v aF t n b []))))))) ?_
 subst b9;unfold ha at D;simp only at D;refine bG (fun h=>?_) (fun h=>bq (fun G=>?_) (fun G=>bG (fun Y=>?_) (fun Y=>?_)))
 ·rw[if_neg h]at D;exact D
 ·rw[if_pos h,if_pos (.inl (by simp only[len]at G;omega))]at D;exact D
 ·rw[if_pos h,if_pos (.inr (by simp only[len]at Y;omega))]at D;exact D
 ·rw[if_pos h,if_neg (by simp only[len]at G Y;omega)]at D;exact TS b ad l rs rg bE bY ts a5 a8 now units (by simp only[len]at G;omega) (by simp only[len]at Y;omega) K 0 0 0 0 [] rs.length 0 v aF t n (by omega) (q8 (Ah h).2.2).2.2.2.2.1 D

def PS:a7
 |[.agg [.E (.list .int) ws,.E .int fu,.E .bool up,.E .int al,.E (.list .int) ah,.E .int ak,.E .int aj,.E (.list .bool) aa,.E (.list .bool) ab]],[]=>some (some (len ws*8<=140737488355328/\len ah*8<=140737488355328/\len aa<=1000/\len ab<=1000),.agg [af ws,A fu,ax up,A al,af ah,A ak,A aj,.own 0,.own 1],[.arr .bool aa,.arr .bool ab])
 |_,_=>none

theorem Fs:bo 75 PS:=mW 0 (((bn.f XS).f zk).f XR) Tryz.func75 (by kernel_rfl) fun vs au=>by
 unfold PS;split;rotate_left;trivial;rename_i ws fu up al ah ak aj aa ab;refine⟨by kernel_rfl,fun ad K D=>?_⟩;refine⟨1,?_⟩;refine k4 (fun rec=>(by kernel_rfl:_=(
  len ws*8<=140737488355328 /\
  len ah*8<=140737488355328 /\
  len aa<=1000 /\
  len ab<=1000 /\
  K (.agg [af ws,A fu,ax up,A al,af ah,A ak,A aj,.own 0,.own 1]) [.arr z.bool aa,.arr z.bool ab]))) ?_
 exact⟨ad.1,ad.2.1,ad.2.2.1,ad.2.2.2,D⟩

def G3:a7
 |[.agg [.E (.list .int) ws,.E .int fu,.E .bool _,.E .int _,.E (.list .int) _,.E .int _,.E .int _,.own 0,.own 1]],[.arr .bool aa,.arr .bool ab]=>some (none,.agg [A (bN ⟨ws,fu⟩).n,A (bN ⟨ws,fu⟩).version,ax (bN ⟨ws,fu⟩).dv,ax (bN ⟨ws,fu⟩).abort,ax (bN ⟨ws,fu⟩).ended],[.arr .bool aa,.arr .bool ab])
 |_,_=>none

theorem XW:bo 109 G3:=b2 2 ((bn.f XV).f Nw) Tryz.func109 (by kernel_rfl) fun vs au=>by
 unfold G3;split;rotate_left;trivial;rename_i ws fu up al ah ak aj aa ab;refine⟨by kernel_rfl,fun K D=>?_⟩;refine⟨1,?_⟩;obtain⟨aC,cT⟩:∃aC,aC=ja (kp ⟨ws,fu⟩).fst:=⟨_,rfl⟩
 refine cf (fun rec=>(by subst cT;kernel_rfl:_=(
  (len (kp ⟨ws,fu⟩).fst<=1000/\uk (kp ⟨ws,fu⟩).fst=true) /\
  K (.agg [A aC.n,A aC.version,ax aC.dv,ax aC.abort,ax aC.ended]) [.arr z.bool aa,.arr z.bool ab]))) ?_
 subst cT;have h:=BJ ⟨ws,fu⟩;exact⟨⟨by simp only[len];omega,K2 h.2⟩,D⟩

def G8:a7
 |[.agg [.E .int eV,.E .int kD,.E .bool gc,.E .bool tD,.E .bool ge]],[]=>some (none,.one (ct (mM ⟨eV,kD,gc,tD,ge⟩)),[])
 |_,_=>none

theorem ajZ:bo 182 G8:=b2 0 bn Tryz.func182 (by kernel_rfl) fun vs au=>by
 unfold G8;split;rotate_left;trivial;rename_i eV kD gc tD ge;refine⟨by kernel_rfl,fun K D=>?_⟩;refine⟨1,?_⟩;refine cf (fun rec=>(by kernel_rfl:_=(
  J (ar eV 0)
  (K (.one (ct [])) [])
  (J gc
  ((len (((1:Int)::eV::kD::[])::[])+len (((2:Int)::eV::[])::[]))*24<=140737488355328 /\
  J tD
  ((len (cat (((1:Int)::eV::kD::[])::[]) (((2:Int)::eV::[])::[]))+len (((3:Int)::eV::[])::[]))*24<=140737488355328 /\
  J ge
  ((len (cat (cat (((1:Int)::eV::kD::[])::[]) (((2:Int)::eV::[])::[])) (((3:Int)::eV::[])::[]))+len (((4:Int)::eV::[])::[]))*24<=140737488355328 /\
  K (.one (ct (cat (cat (cat (((1:Int)::eV::kD::[])::[]) (((2:Int)::eV::[])::[])) (((3:Int)::eV::[])::[])) (((4:Int)::eV::[])::[])))) [])
  (K (.one (ct (cat (cat (((1:Int)::eV::kD::[])::[]) (((2:Int)::eV::[])::[])) (((3:Int)::eV::[])::[])))) []))
  (J ge
  ((len (cat (((1:Int)::eV::kD::[])::[]) (((2:Int)::eV::[])::[]))+len (((4:Int)::eV::[])::[]))*24<=140737488355328 /\
  K (.one (ct (cat (cat (((1:Int)::eV::kD::[])::[]) (((2:Int)::eV::[])::[])) (((4:Int)::eV::[])::[])))) [])
  (K (.one (ct (cat (((1:Int)::eV::kD::[])::[]) (((2:Int)::eV::[])::[])))) [])))
  (J tD
  ((len (((1:Int)::eV::kD::[])::[])+len (((3:Int)::eV::[])::[]))*24<=140737488355328 /\
  J ge
  ((len (cat (((1:Int)::eV::kD::[])::[]) (((3:Int)::eV::[])::[]))+len (((4:Int)::eV::[])::[]))*24<=140737488355328 /\
  K (.one (ct (cat (cat (((1:Int)::eV::kD::[])::[]) (((3:Int)::eV::[])::[])) (((4:Int)::eV::[])::[])))) [])
  (K (.one (ct (cat (((1:Int)::eV::kD::[])::[]) (((3:Int)::eV::[])::[])))) []))
  (J ge
  ((len (((1:Int)::eV::kD::[])::[])+len (((4:Int)::eV::[])::[]))*24<=140737488355328 /\
  K (.one (ct (cat (((1:Int)::eV::kD::[])::[]) (((4:Int)::eV::[])::[])))) [])
  (K (.one (ct (((1:Int)::eV::kD::[])::[]))) []))))))) ?_
 unfold mM at D;refine cI (fun h=>?_) (fun h=>?_)
 ·rw[if_pos (by exact h)]at D;exact D
 ·rw[if_neg (by exact h)]at D;cases gc<;>cases tD<;>cases ge
  ·exact e7 rfl (e7 rfl (e7 rfl D))
  ·exact e7 rfl (e7 rfl (gk rfl ⟨by simp[len],D⟩))
  ·exact e7 rfl (gk rfl ⟨by simp[len],e7 rfl D⟩)
  ·exact e7 rfl (gk rfl ⟨by simp[len],gk rfl ⟨by simp[len,cat],D⟩⟩)
  ·exact gk rfl ⟨by simp[len],e7 rfl (e7 rfl D)⟩
  ·exact gk rfl ⟨by simp[len],e7 rfl (gk rfl ⟨by simp[len,cat],D⟩)⟩
  ·exact gk rfl ⟨by simp[len],gk rfl ⟨by simp[len,cat],e7 rfl D⟩⟩
  ·exact gk rfl ⟨by simp[len],gk rfl ⟨by simp[len,cat],gk rfl ⟨by simp[len,cat],D⟩⟩⟩

def CR:a7
 |[.one (.E .int w)],[]=>some (none,.one (ax (!eR w)),[])
 |_,_=>none

theorem Nf:bo 188 CR:=b2 0 bn Tryz.func188 (by kernel_rfl) fun vs au=>by
 unfold CR;split;rotate_left;trivial;rename_i w;dsimp only[z.den]at w;refine⟨by kernel_rfl,fun K D=>?_⟩;refine⟨1,?_⟩;refine cf (fun rec=>(by kernel_rfl:_=(
  J (aL w 0)
  (K mY [])
  (K (.one (ax (aL 65535 w))) [])))) ?_
 refine bq (fun h=>?_) (fun h=>?_)
 ·rw[show(!eR w)=true from by simp[eR];omega]at D;exact D
 ·rw[show(!eR w)=aL 65535 w from by simp[eR,aL,h];by_cases G:w<=65535<;>simp[G]<;>omega]at D;exact D
end
end Go.Proofs.YtlbppjmekiemiabGreatDoor
