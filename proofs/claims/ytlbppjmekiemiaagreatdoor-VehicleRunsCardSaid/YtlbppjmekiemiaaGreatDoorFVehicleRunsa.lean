/- What the functions of VehicleRuns compute (part 1 of 5). No condition. -/
import Derived.Test.YtlbppjmekiemiaaGreatDoorTab
import Derived.Test.YtlbppjmekiemiaaGreatDoorSpec
import Derived.KernelRfl
import Derived.Test.YtlbppjmekiemiaaGreatDoorShelf
import Derived.WalkKit
import Derived.Lib.Mul64
import Derived.Laws.Bits64b
import Derived.Shelf.Spec.SlicesGrow
/- strconv.Itoa: the shelf's contract as one of ours. The number is no less than 0. -/
namespace Go.Proofs.YtlbppjmekiemiaaGreatDoor
noncomputable section
open Go.RowKit Go.Lib Go.Sort bE
def y9:bd:=fun vs ar=>match vs,ar with
 |[.one (.E .int n)],[]=>some (some (0<=n/\n<=9223372036854775807),.one (.E .str (fW n)),[])
 |_,_=>none
theorem Eo:jf Tryz.prog tab 129 y9:=by
 intro vs ar p v dB h ag w S O xs aD aG;unfold y9 at h;split at h
 ·cases h;rename_i n;obtain⟨⟨I,G⟩,_⟩:=ag;have I:(0:Int)<=n:=I;have G:(n:Int)<=9223372036854775807:=G
  match xs,aG with
  |[X],⟨a1,_⟩ =>
   have aO:=k9 a1;subst aO;obtain⟨g,bs⟩:∃g,tab.pow=some g:=⟨_,rfl⟩
   obtain⟨_,ty,m,aA⟩:=aD.pow.t g bs;have htab : Go.Lib.TabIs Tryz.prog w "internal/strconv.uint64pow10" .u64 Go.Lib.pow10Tab := by
    have wL : Tryz.prog.globalNamed "internal/strconv.uint64pow10" = tab.pow := by kernel_rfl
    unfold Go.Lib.TabIs World.var?;rw[wL,bs];simp only[Option.bind_some,aA];rfl
   refine(Tryz.strconv_Itoa n (by omega) G w htab).mono fun e w' ⟨bp,k,os,cb⟩=>?_
   subst cb bp;have fs:(grow (w.drewN k) os).heap=w.heap++os:=rfl;have a5:Ext O (cA []) w S O (cA []) (grow (w.drewN k) os) S:=⟨fun _ h=>h,(Ext.refl (O:=O) (mem:=cA []) (w:=w) (S:=S)).kinds,fun _ h=>h,by rw[fs];simp,fun b aA _=>by rw[fs,Array.getElem?_append_left aA],fun _ h=>.inl h,fun _ h=>.inl h,rfl,rfl,rfl⟩
   refine⟨_,O,S,rfl,a5,⟨fun r B h=>by simp[cA]at h,fun r fo _ ⟨B,h,_⟩=>by simp[cA]at h,fun r ⟨B,h,_⟩=>by simp[cA]at h,fun b aA=>Nat.lt_of_lt_of_le (aD.lt b aA) a5.size,aD.w9 a5⟩,?_⟩;rw[acf I G];exact Aj _
 ·cases h
end
end Go.Proofs.YtlbppjmekiemiaaGreatDoor

/- strings.Join: the shelf's contract as one of ours. What comes of it is no longer than memory holds. -/
namespace Go.Proofs.YtlbppjmekiemiaaGreatDoor
noncomputable section
open Go.RowKit Go.Lib bE
theorem Yi{O:dk}{w w':World}{S:Nat->Prop}(aD:Inv tab O (cA []) w S)(aA:Below w.heap.size w w'):Ext O (cA []) w S O (cA []) w' S/\Inv tab O (cA []) w' S:=by
 have a5:Ext O (cA []) w S O (cA []) w' S:=⟨fun _ h=>h,(Ext.refl (O:=O) (mem:=cA []) (w:=w) (S:=S)).kinds,fun _ h=>h,aA.size,fun b dQ _=>aA.block b dQ,fun _ h=>.inl h,fun _ h=>.inl h,aA.os,aA.tape,aA.output⟩
 exact⟨a5,⟨fun r B h=>by simp[cA]at h,fun r fo _ ⟨B,h,_⟩=>by simp[cA]at h,fun r ⟨B,h,_⟩=>by simp[cA]at h,fun b aA=>Nat.lt_of_lt_of_le (aD.lt b aA) a5.size,aD.w9 a5⟩⟩
def Cd:bd:=fun vs ar=>match vs,ar with
 |[.one (.E (.list .str) l),.one (.E .str sep)],[]=>some (some (l.length<=140737488355328/\(jq sep l).length<=140737488355328),.one (.E .str (jq sep l)),[])
 |_,_=>none
theorem WS:jf Tryz.prog tab 164 Cd:=by
 intro vs ar p v dB h ag w S O xs aD aG;unfold Cd at h;split at h
 ·cases h;rename_i l sep;obtain⟨⟨I,G⟩,_⟩:=ag
  match xs,aG with
  |[X,jy],⟨a1,bf,_⟩ =>
   have aX:=D3 bf;subst aX;obtain⟨_,aw⟩:=a1;cases aw with
   |empty t a cap =>
    refine(Tryz.strings_Join_none a cap ⟨sep.toArray⟩ w).mono fun e w' ⟨bp,cb⟩=>?_
    subst cb bp;exact⟨_,O,S,rfl,Ext.refl,aD,Aj []⟩
   |list t l b off cap cs dw hcap az aw =>
    have aB:(l.map fun s:List UInt8=>(⟨s.toArray⟩:ByteArray)).map (·.data.toList)=l:=by simp[List.map_map,Function.comp_def]
    have aR:(Go.Lib.join ((l.map fun s:List UInt8=>(⟨s.toArray⟩:ByteArray)).map (·.data.toList)) (⟨sep.toArray⟩:ByteArray).data.toList)=jq sep l:=by rw[aB];exact join_eq sep l
    have key:=Tryz.strings_Join b off cap (l.map fun s:List UInt8=>(⟨s.toArray⟩:ByteArray)) ⟨sep.toArray⟩ w (fun j x aG=>by
     rw[List.getElem?_map]at aG;obtain⟨s,av,rfl⟩:=Option.map_eq_some_iff.1 aG;have iv:j<l.length:=(List.getElem?_eq_some_iff.1 av).1;have bA:=az j 0 iv (by decide);have e:nth l j (z.H .str)=s:=by simp[nth,List.getD_eq_getElem?_getD,av]
     have bb:=aw j 0 (.E .str s) iv (by rw[e];rfl);have cr:cs j 0=.string ⟨s.toArray⟩:=by
      generalize cs j 0=y at bb;cases bb;rfl
     rw[cr]at bA;simpa[b6,z.width]using bA) (aD.lt b dw) (by simpa using I) (by simpa using hcap) (by rw[aR];exact G)
    rw[List.length_map,aR]at key;refine key.mono fun e w' ⟨bp,aA⟩=>?_
    subst bp;obtain⟨a5,hC⟩:=Yi aD aA;exact⟨_,O,S,rfl,a5,hC,Aj _⟩
 ·cases h
end
end Go.Proofs.YtlbppjmekiemiaaGreatDoor

/- math/bits.Mul: the whole product. Both factors are of 64 bits. -/
namespace Go.Proofs.YtlbppjmekiemiaaGreatDoor
noncomputable section
open Go.RowKit Go.Lib bE
namespace lL
theorem JH(a:Nat)(bh:a<18446744073709551616):bits .and .u64 (a:Int) 4294967295=((a%4294967296:Nat):Int):=by
 have h:=bits_and_u64_nat a 4294967295 bh (by omega);have e:a &&& 4294967295=a%4294967296:=Nat.and_two_pow_sub_one_eq_mod a 32;rw[e]at h;exact h
theorem Y0(a:Nat):(a:Int)/4294967296=((a/4294967296:Nat):Int):=by omega
theorem acP(a b:Nat):(a:Int)*(b:Int)=((a*b:Nat):Int):=(Int.natCast_mul a b).symm
theorem XV(a b:Nat):(a:Int)+(b:Int)=((a+b:Nat):Int):=(Int.natCast_add a b).symm
theorem tL(a:Nat)(bh:a<18446744073709551616):IntKind.u64.wrap (a:Int)=(a:Int):=by rw[IntKind.wrap_u64];omega
theorem ajp(a:Nat):IntKind.u64.wrap (a:Int)=((a%18446744073709551616:Nat):Int):=by rw[IntKind.wrap_u64];omega
end lL
set_option maxHeartbeats 1000000 in
theorem acO(x y:Nat)(aG:x<18446744073709551616)(ct:y<18446744073709551616)(w:World) :
  Calls Tryz.prog 163 #[.int .u64 x,.int .u64 y] w fun e w'=>e=.returned (.tuple #[.int .u64 ((x*y/18446744073709551616:Nat):Int),.int .u64 ((x*y%18446744073709551616:Nat):Int)])/\w'=w:=by
 obtain⟨ud,wa,Yu,aaJ⟩:=Lib.mul64_hi x y aG ct;have ajI:=Lib.half_mul_le (a:=x/4294967296) (b:=y/4294967296) (by omega) (by omega);have ajJ:=Lib.half_mul_le (a:=x/4294967296) (b:=y%4294967296) (by omega) (by omega);have N2:=Lib.half_mul_le (a:=x%4294967296) (b:=y/4294967296) (by omega) (by omega);have Yd:x/4294967296*(y/4294967296)<18446744073709551616:=by omega
 have Ye:x/4294967296*(y%4294967296)<18446744073709551616:=by omega
 have Yf:x%4294967296*(y/4294967296)<18446744073709551616:=by omega
 have Ym:x/4294967296*(y/4294967296)+(x/4294967296*(y%4294967296)+x%4294967296*(y%4294967296)/4294967296)/4294967296<18446744073709551616:=by omega
 have Yl:x/4294967296*(y/4294967296)+(x/4294967296*(y%4294967296)+x%4294967296*(y%4294967296)/4294967296)/4294967296+((x/4294967296*(y%4294967296)+x%4294967296*(y%4294967296)/4294967296)%4294967296+x%4294967296*(y/4294967296))/4294967296<18446744073709551616:=by omega
 go_enter Tryz.func163,Tryz.ntmps163
 go_wp2
 simp only[lL.JH x aG,lL.JH y ct,lL.Y0,lL.acP,lL.XV,lL.tL _ ud,lL.tL _ Ye,lL.tL _ wa,lL.JH _ wa,lL.tL _ Yf,lL.tL _ Yu,lL.tL _ Yd,lL.tL _ Ym,lL.tL _ Yl,lL.ajp (x*y)];rw[aaJ]
 go_ret2
 exact⟨rfl,rfl⟩
set_option maxHeartbeats 1000000 in
theorem acQ(x y:Nat)(aG:x<18446744073709551616)(ct:y<18446744073709551616)(w:World) :
  Calls Tryz.prog 127 #[.int .u64 x,.int .u64 y] w fun e w'=>e=.returned (.tuple #[.int .u64 ((x*y/18446744073709551616:Nat):Int),.int .u64 ((x*y%18446744073709551616:Nat):Int)])/\w'=w:=by
 have Yv:=acO x y aG ct w
 go_enter Tryz.func127,Tryz.ntmps127
 go_wp2_with (go_at_call 163;refine Yv.mono ?_;rintro e w' ⟨rfl,cb⟩;rw[cb])
 go_ret2
 exact⟨rfl,rfl⟩
def Gx:bd:=fun vs ar=>match vs,ar with
 |[.one (.E .u64 a),.one (.E .u64 b)],[]=>some (some (uT a=true/\uT b=true),.an [.one (.E .u64 ((a*b)/nv)),.one (.E .u64 ((a*b)%nv))],[])
 |_,_=>none
theorem ah2:jf Tryz.prog tab 127 Gx:=by
 intro vs ar p v dB h ag w S O xs aD aG;unfold Gx at h;split at h
 ·cases h;rename_i a b;obtain⟨⟨I,G⟩,_⟩:=ag;simp only[uT,Bool.and_eq_true,decide_eq_true_eq]at I G;obtain⟨x,rfl⟩:=Int.eq_ofNat_of_zero_le I.1;obtain⟨y,rfl⟩:=Int.eq_ofNat_of_zero_le G.1
  match xs,aG with
  |[X,jy],⟨a1,bf,_⟩ =>
   have aO:=AL a1;have aX:=AL bf;subst aO aX;refine(acQ x y (by omega) (by omega) w).mono fun e w' ⟨bp,cb⟩=>?_
   subst cb bp;refine⟨_,O,S,rfl,Ext.refl,aD,_,rfl,rfl,fun i u hu=>?_⟩
   match i,hu with
   |0,hu=>cases hu;exact⟨_,rfl,Du _⟩
   |1,hu=>cases hu;exact⟨_,rfl,Du _⟩
 ·cases h
end
end Go.Proofs.YtlbppjmekiemiaaGreatDoor

/- slices.Grow of no list: the shelf's contract, laid at this program. n is no less than 0. -/
namespace Go.Proofs.YtlbppjmekiemiaaGreatDoor
noncomputable section
open Go.RowKit Go.Lib bE Go.Shelf
def uy:Go.Shelf.Ren:=⟨fun|4=>196|n=>n,fun|22=>212|25=>247|n=>n,fun n=>n⟩
theorem Ij:Lays8.n4 Tryz.prog uy:={
 mixed:=by kernel_rfl
 f4:=⟨Tryz.f196.name,by decide,Tryz.func196.trans (congrArg some (by kernel_rfl))⟩
 t0:=by kernel_rfl
 a0:=fun _=>by kernel_rfl
 z0:=fun _=>by kernel_rfl
 v0:=fun _=>by kernel_rfl
 t3:=by kernel_rfl
 a3:=fun _=>by kernel_rfl
 z3:=fun _=>by kernel_rfl
 v3:=fun _=>by kernel_rfl
 t4:=by kernel_rfl
 a4:=fun _=>by kernel_rfl
 z4:=fun _=>by kernel_rfl
 v4:=fun _=>by kernel_rfl
 t9:=by kernel_rfl
 a9:=fun _=>by kernel_rfl
 z9:=fun _=>by kernel_rfl
 v9:=fun _=>by kernel_rfl
 t20:=by kernel_rfl
 a20:=fun _=>by kernel_rfl
 z20:=fun _=>by kernel_rfl
 v20:=fun _=>by kernel_rfl
 t22:=by kernel_rfl
 a22:=fun _=>by kernel_rfl
 z22:=fun _=>by kernel_rfl
 v22:=fun _=>by kernel_rfl }
def G8:bd:=fun vs ar=>match vs,ar with
 |[.one (.nil .change),.one (.E .int n)],[]=>some (some (0<=n/\n<=100000),.one (.own 0),[.arr .change []])
 |_,_=>none
theorem aiF:jf Tryz.prog tab 196 G8:=by
 intro vs ar p v dB h ag w S O xs aD aG;unfold G8 at h;split at h
 ·cases h;rename_i n;obtain⟨⟨I,G⟩,_⟩:=ag;obtain⟨k,rfl⟩:=Int.eq_ofNat_of_zero_le I;have G:(k:Int)<=100000:=G
  match xs,aG with
  |[X,jy],⟨a1,bf,_⟩ =>
   have aO:X=.slice none 0 0:=a1.2;have aX:=k9 bf;subst aO aX;have aB:cA ([]:List bQ) 0=none:=rfl;have C2:cO [(0,bQ.arr .change [])] (cA [])=cA [.arr .change []]:=by
    funext q
    by_cases e:q=0
    ·subst e;rfl
    ·rw[eg e];cases q with
     |zero=>exact absurd rfl e
     |succ q=>rfl
   by_cases ad:k=0
   ·subst ad;refine(Any8.slices_Grow_room Ij none 0 0 0 w (by omega) (by omega) (by omega) (by omega)).mono fun e w' ⟨bp,cb⟩=>?_
    subst cb bp;obtain⟨a5,hC⟩:=Am (t:=.change) aD aB;rw[C2]at a5 hC;exact⟨_,_,S,rfl,a5,hC,rfl,(fun h=>by cases h),fun _ _ _=>hn⟩
   ·obtain⟨aK,bl,aaS,uB⟩:∃aK,dO tab 212=some aK/\aK.isSlice .change=true/\aK.bytes=16:=⟨_,rfl,rfl,rfl⟩
    obtain⟨e,i,bg,av⟩:=jQ W7 bl aaS;have bp:e=247:=by
     have I:=av.hA;have G:Tryz.prog.underlying 212=some (.slice 247):=Ij.t22;rw[G]at I;cases I;rfl
    subst bp;have Rn:z.width .change=2:=rfl;refine(Any8.slices_Grow_grow Ij i bg av.info av.zero (by rw[av.size];decide) none 0 0 k [] w (by omega) (by omega) (by rw[av.bytes,uB];omega) (by omega) (by simp) (fun _=>rfl) (fun a h=>by cases h)).mono fun e w' ⟨bp,cb⟩=>?_
    have uH:=grownCap_ge w (0+k) 0 (uy.t 25);have pK:=grownCap_le_maxLen w (0+k) 0 (uy.t 25) (by unfold maxLen;omega);generalize grownCap w (0+k) 0 (uy.t 25)=cP at bp cb uH pK;generalize hw:(([]:List Value).toArray++Builtin.zeroCells bg.cells (0+k-0)++Builtin.zeroCells bg.cells (cP-(0+k)))=cur at cb;have Iy:cur.size=cP*2:=by
     subst hw;simp only[Array.size_append,List.size_toArray,List.length_nil,size_zeroCells,av.gN,Rn];omega
    subst cb bp;have ax:(Loc.eu (.slice (some (b6 w.heap.size 0)) 0 cP)).block=some w.drew.heap.size\/(Loc.eu (.slice (some (b6 w.heap.size 0)) 0 cP)).block=none:=.inl rfl;have qg:Ext O (cA []) w S O (cA []) w.drew S:=⟨fun _ h=>h,(Ext.refl (O:=O) (mem:=cA []) (w:=w) (S:=S)).kinds,fun _ h=>h,Nat.le_refl _,fun _ _ _=>rfl,fun _ h=>.inl h,fun _ h=>.inl h,rfl,rfl,rfl⟩
    have Id:Inv tab O (cA []) w.drew S:=⟨fun q B I G=>by obtain⟨l',aO,aX⟩:=aD.rel q B I G;exact⟨l',aO,aX.ext qg aD fun _ _=>rfl⟩,aD.inj,aD.sep,aD.lt,aD.pow.of_heap rfl⟩
    have em:=ql (O:=O) (S:=S) (w:=w.drew) (o:=.cells cur (uy.t 25)) (B:=.arr .change []) aB ax;have hD:=rj (o:=.cells cur (uy.t 25)) (B:=.arr .change []) aB ax Id
     (.inr ⟨w.heap.size,cP,cur,uy.t 25,rfl,heap_alloc_new w.drew _,Nat.zero_le _,pK,by rw[Iy,Rn];exact Nat.le_refl _,fun i j c hi=>by cases hi⟩)
    rw[C2]at em hD;exact⟨_,_,S,rfl,qg.trans em,hD,rfl,(fun h=>by cases h),fun _ _ _=>hn⟩
 ·cases h
end
end Go.Proofs.YtlbppjmekiemiaaGreatDoor
namespace Go.Proofs.YtlbppjmekiemiaaGreatDoor
noncomputable section
open bE
set_option maxHeartbeats 4000000
variable (eJ eo e4 fu n dG aL:Int) (cU:cu) (l ws:aJ) (dT:LT)
def Hd:bd
 |[.one (.E (.list .str) l),.one (.E .str s)],[]=>some (some (l.length<=140737488355328),.one (A (fk s l)),[])
 |_,_=>none
def EX:Ctx:=[]
def x9:List cw:=[.inLoop [8,7,4,0,1] (cZ oG [1,0,1,0,0]),.inBlock 0,.code (cZ oG [1,1])]
def Ln(F al M:Int)(ae:cB)(ao:jx):bP:=⟨[(8,.one (A F)),(7,.one (A al)),(4,.one (A M)),(0,.one (.E (z.list z.str) ae)),(1,.one (.E z.str ao))],[],0⟩
theorem afF(l:cB)(s:jx)(rec:bZ)(K:aW):b7 EX tab oG 0 K rec [.code (bF oG)] (df [.one (.E (z.list z.str) l),.one (.E z.str s)] [])=(
 rec x9 (Ln 0 (len l:Int) 0 l s)):=by kernel_rfl
theorem Va{F:Int}{rec:bZ}{K:aW}{al M ae ao}{v0}(b0:v0=fun a=>Ln a al M ae ao):b7 EX tab oG 0 K rec (cQ x9) (v0 F)=(
 J (aN F al)
 (((0:Int)<=F/\F<(len ae:Int)) /\
 J (eqs ao (nth ae (Int.toNat F) (z.H z.str)))
 (K (.one (A F)) [])
 (rec x9 (v0 (W (F+1)))))
 (K (.one (A (-1))) [])):=by subst_vars;kernel_rfl

theorem S6(l:cB)(s:jx)(ax:l.length<=140737488355328)(K:aW):∀(d k:Nat),k+d=l.length->K (.one (A (iH k s (l.drop k)))) [] ->
  cl EX tab oG 0 K (d+1) x9 (Ln (k:Int) (((len l):Nat):Int) 0 l s)
 |0,k,ad,D=>by
  rw[bW (L:=x9),Va rfl];rw[List.drop_of_length_le (by omega)]at D;exact co (by simp only[len];omega) D
 |d+1,k,ad,D=>by
  rw[bW (L:=x9),Va rfl,cM];rw[ep (by omega) (z.H z.str)]at D;simp only[iH]at D;refine cS (by simp only[len];omega) ⟨⟨by omega,by simp only[len];omega⟩,cn (fun h=>?_) (fun h=>?_)⟩
  ·rw[HQ]at h;rw[if_pos h.symm]at D;exact D
  ·rw[HP]at h;rw[if_neg (fun e=>h e.symm)]at D;rw[di (by omega)];exact S6 l s ax K d (k+1) (by omega) D
theorem Mp:bw 67 Hd:=b2 (Γ:=EX) 0 bv Tryz.func67 (by kernel_rfl) fun vs ar=>by
 unfold Hd;split;rotate_left;trivial;rename_i l s;refine⟨by kernel_rfl,fun ag K D=>?_⟩;refine⟨l.length+2,?_⟩;rw[eO,afF _ _ _ _];exact S6 l s ag K l.length 0 (by omega) D

def He:bd
 |[.one (.E (.list .str) l),.one (.E .str s)],[]=>some (some (l.length<=140737488355328),.one (ay (oL s l)),[])
 |_,_=>none

theorem aiJ:bw 102 He:=b2 0 (bv.f Mp) Tryz.func102 (by kernel_rfl) fun vs ar=>by
 unfold He;split;rotate_left;trivial;rename_i l s;refine⟨by kernel_rfl,fun ag K D=>?_⟩;refine⟨1,?_⟩;refine ck (fun rec=>(by kernel_rfl:_=(
  List.length l<=140737488355328 /\
  K (.one (ay (dc 0 (fk s l)))) []))) ?_
 rw[show dc 0 (fk s l)=oL s l from acb s l];exact⟨ag,D⟩

def Ce:bd
 |[.agg [.E (.list .str) l]],[]=>some (none,.one (A (fH l)),[])
 |_,_=>none
def Nx:Ctx:=[(102,He)]
def ya:List cw:=[.inLoop [12,11,10,2,1] (Code.sub (bF Tryz.f45) [1,1,0,1,0,0]),.inBlock 0,.code (Code.sub (bF Tryz.f45) [1,1,1])]
def Lo(F al:Int)(M:cB)(ae:Int)(ao:cB):bP:=⟨[(12,.one (A F)),(11,.one (A al)),(10,.one (.E (z.list z.str) M)),(2,.one (A ae)),(1,.one (.ptr 0 0))],[(0,.box [.E (z.list z.str) ao])],1⟩
theorem Vb{F:Int}{rec:bZ}{K:aW}{al M ae ao}{v1 v0}(cd:v1=fun a=>Lo a al M ae ao)(b0:v0=oL (nth M (Int.toNat F) (z.H z.str)) (a2 ao (Int.toNat 0) (Int.toNat F))):b7 Nx tab Tryz.f45 0 K rec (cQ ya) (v1 F)=(
 J (aN F al)
 (((0:Int)<=F/\F<(len M:Int)) /\
 J (aN 2000 (len (nth M (Int.toNat F) (z.H z.str)):Int))
 (K (.one (A 2)) [])
 (((0:Int)<=(0:Int)/\(0:Int)<=F/\F<=(len ao:Int)) /\
 List.length (a2 ao (Int.toNat 0) (Int.toNat F))<=140737488355328 /\
 J v0
 (K (.one (A 6)) [])
 (rec ya (v1 (W (F+1))))))
 (K (.one (A 0)) [])):=by subst_vars;kernel_rfl

theorem S7(l:cB)(ax:l.length<=60)(K:aW):∀(d k:Nat),k+d=l.length->K (.one (A (v7 (l.take k) (l.drop k)))) [] ->
  cl Nx tab Tryz.f45 0 K (d+1) ya (Lo (k:Int) (((len l):Nat):Int) l 0 l)
 |0,k,ad,D=>by
  rw[bW (L:=ya),Vb rfl rfl];rw[List.drop_of_length_le (by omega)]at D;exact co (by simp only[len];omega) D
 |d+1,k,ad,D=>by
  rw[bW (L:=ya),Vb rfl rfl,cM,show Int.toNat (0:Int)=0 from rfl,LW];rw[ep (by omega) (z.H z.str)]at D;simp only[v7]at D;refine cS (by simp only[len];omega) ⟨⟨by omega,by simp only[len];omega⟩,bq (fun h=>?_) (fun h=>⟨⟨by omega,by omega,by simp only[len];omega⟩,by rw[List.length_take];omega,cn (fun G=>?_) (fun G=>?_)⟩)⟩
  ·rw[if_pos (by simp only[len]at h;omega)]at D;exact D
  ·rw[if_neg (by simp only[len]at h;omega),if_pos G]at D;exact D
  ·rw[if_neg (by simp only[len]at h;omega),if_neg (by rw[G];simp)]at D;rw[di (by omega)];rw[<- ie (by omega) (z.H z.str)]at D;exact S7 l ax K d (k+1) (by omega) D
theorem Ep:bw 45 Ce:=b2 (Γ:=Nx) 0 (bv.f aiJ) Tryz.func45 (by kernel_rfl) fun vs ar=>by
 unfold Ce;split;rotate_left;trivial;rename_i l;refine⟨by kernel_rfl,fun K D=>?_⟩;refine⟨l.length+2,?_⟩;refine ck (fun rec=>(by kernel_rfl:_=(
  J (aN 60 (len l:Int))
  (K (.one (A 2)) [])
  (rec ya (Lo 0 (len l:Int) l 0 l))))) ?_
 unfold fH at D;refine bq (fun h=>?_) (fun h=>?_)
 ·rw[if_pos (by simp only[len]at h;omega)]at D;exact D
 ·rw[if_neg (by simp only[len]at h;omega)]at D;exact S7 l (by simp only[len]at h;omega) K l.length 0 (by omega) D

def y4:bd
 |[.one (.E (.list .signed) l)],[]=>some (none,.one (A (iq l)),[])
 |_,_=>none
def M4:Ctx:=[]
def xj:List cw:=[.inLoop [10,9,8,2] (Code.sub (bF Tryz.f46) [1,1,0,1,0,0]),.inBlock 0,.code (Code.sub (bF Tryz.f46) [1,1,1])]
def Km(F al:Int)(M:cD)(ae:Int):bP:=⟨[(10,.one (A F)),(9,.one (A al)),(8,.one (.E (z.list z.signed) M)),(2,.one (A ae))],[],0⟩
theorem T1{F:Int}{rec:bZ}{K:aW}{al M ae}{v0}(b0:v0=fun a=>Km a al M ae):b7 M4 tab Tryz.f46 0 K rec (cQ xj) (v0 F)=(
 J (aN F al)
 (((0:Int)<=F/\F<(len M:Int)) /\
 J (aN (nth M (Int.toNat F) (z.H z.signed)).key 1)
 (K (.one (A 3)) [])
 (J (aN 50 (nth M (Int.toNat F) (z.H z.signed)).key)
 (K (.one (A 3)) [])
 (J (aN (nth M (Int.toNat F) (z.H z.signed)).name 1)
 (K (.one (A 3)) [])
 (J (aN 60 (nth M (Int.toNat F) (z.H z.signed)).name)
 (K (.one (A 3)) [])
 (rec xj (v0 (W (F+1))))))))
 (K (.one (A 0)) [])):=by subst_vars;kernel_rfl

theorem Su(l:cD)(ax:l.length<=360)(K:aW)(ae:Int):∀(d k:Nat),k+d=l.length->K (.one (A (if (l.drop k).all mF then 0 else 3))) [] ->
  cl M4 tab Tryz.f46 0 K (d+1) xj (Km (k:Int) (((len l):Nat):Int) l ae)
 |0,k,ad,D=>by
  rw[bW (L:=xj),T1 rfl];rw[List.drop_of_length_le (by omega)]at D;exact co (by simp only[len];omega) D
 |d+1,k,ad,D=>by
  rw[bW (L:=xj),T1 rfl,cM];rw[ep (by omega) (z.H z.signed)]at D;obtain⟨x,aG⟩:∃x,nth l k (z.H z.signed)=x:=⟨_,rfl⟩
  rw[aG]at D |-;rw[List.all_cons]at D;have bad:¬(1<=x.key/\x.key<=50/\1<=x.name/\x.name<=60)->K (.one (A 3)) []:=fun h=>by
   rw[show mF x=false from by
    cases az:mF x
    ·rfl
    ·simp only[mF,Bool.and_eq_true,decide_eq_true_eq]at az;exact absurd az (by omega)]at D
   exact D
  rw[di (by omega)];refine cS (by simp only[len];omega) ⟨⟨by omega,by simp only[len];omega⟩,bq (fun h=>bad (by omega)) (fun h=>bq (fun G=>bad (by omega)) (fun G=>bq (fun ab=>bad (by omega)) (fun ab=>bq (fun aV=>bad (by omega)) (fun aV=>?_))))⟩;rw[show mF x=true from by simp only[mF,Bool.and_eq_true,decide_eq_true_eq];omega,Bool.true_and]at D;exact Su l ax K ae d (k+1) (by omega) D
theorem L2:bw 46 y4:=b2 (Γ:=M4) 0 bv Tryz.func46 (by kernel_rfl) fun vs ar=>by
 unfold y4;split;rotate_left;trivial;rename_i l;refine⟨by kernel_rfl,fun K D=>?_⟩;refine⟨l.length+2,?_⟩;refine ck (fun rec=>(by kernel_rfl:_=(
  J (aN 360 (len l:Int))
  (K (.one (A 2)) [])
  (rec xj (Km 0 (len l:Int) l 0))))) ?_
 unfold iq at D;refine bq (fun h=>?_) (fun h=>?_)
 ·rw[if_pos (by simp only[len]at h;omega)]at D;exact D
 ·rw[if_neg (by simp only[len]at h;omega)]at D;exact Su l (by simp only[len]at h;omega) K 0 l.length 0 (by omega) D

def Pe:bd
 |[.agg [.E (.list .int) ws,.E .int fu]],[]=>some (none,.one (A (e3 ⟨ws,fu⟩)),[])
 |_,_=>none
def Nv:Ctx:=[]
def x5:List cw:=[.inLoop [31,30,29,2] (Code.sub (bF Tryz.f149) [1,1,1,0,1,0,0]),.inBlock 0,.code (Code.sub (bF Tryz.f149) [1,1,1,1])]
def Lj(F al:Int)(M:aJ)(ae:Int):bP:=⟨[(31,.one (A F)),(30,.one (A al)),(29,.one (af M)),(2,.one (A ae))],[],0⟩
theorem U4{F:Int}{rec:bZ}{K:aW}{al M ae}{v0}(b0:v0=fun a=>Lj a al M ae):b7 Nv tab Tryz.f149 0 K rec (cQ x5) (v0 F)=(
 J (aN F al)
 (((0:Int)<=F/\F<(len M:Int)) /\
 J (aN (nth M (Int.toNat F) (z.H z.int)) 0)
 (K (.one (A 3)) [])
 (J (aN 65535 (nth M (Int.toNat F) (z.H z.int)))
 (K (.one (A 3)) [])
 (rec x5 (v0 (W (F+1))))))
 (K (.one (A 0)) [])):=by subst_vars;kernel_rfl

theorem SZ(ws:aJ)(ax:ws.length<=192)(K:aW)(D:K (.one (A (if cK ws then 0 else 3))) []):∀(d k:Nat),k+d=ws.length->cK (ws.take k)=true ->
  cl Nv tab Tryz.f149 0 K (d+1) x5 (Lj (k:Int) (((len ws):Nat):Int) ws (0:Int))
 |0,k,ad,bp=>by
  rw[bW (L:=x5),U4 rfl];refine co (by simp only[len];omega) ?_;rw[List.take_of_length_le (by omega)]at bp;rw[if_pos bp]at D;exact D
 |d+1,k,ad,bp=>by
  rw[bW (L:=x5),U4 rfl];have bad:eS (nth ws k (z.H z.int))=false->K (.one (A 3)) []:=fun h=>by
   rw[show cK ws=false from all_false (k:=k) (by omega) _ h]at D;exact D
  refine cS (by simp only[len];omega) ⟨⟨by omega,by simp only[len];omega⟩,bq (fun h=>?_) (fun h=>bq (fun G=>?_) (fun G=>?_))⟩
  ·rw[cM]at h;exact bad (by simp only[eS,Bool.and_eq_false_iff,decide_eq_false_iff_not];exact .inl (by omega))
  ·rw[cM]at G;exact bad (by simp only[eS,Bool.and_eq_false_iff,decide_eq_false_iff_not];exact .inr (by omega))
  ·rw[di (by omega)];rw[cM]at h G;exact SZ ws ax K D d (k+1) (by omega) (BC (by omega) (z.H z.int) bp (by simp[eS,h,G]))
theorem AY:bw 149 Pe:=b2 (Γ:=Nv) 0 bv Tryz.func149 (by kernel_rfl) fun vs ar=>by
 unfold Pe;split;rotate_left;trivial;rename_i ws fu;dsimp only[z.den]at ws fu;refine⟨by kernel_rfl,fun K D=>?_⟩;refine⟨ws.length+2,?_⟩;refine ck (fun rec=>(by kernel_rfl:_=(
  J (au (len ws:Int) 0)
  (K (.one (A 4)) [])
  ((32:Int)≠(0:Int) /\
  J (!(au (Int.tmod (len ws:Int) 32) 0))
  (K (.one (A 4)) [])
  (J (aN 192 (len ws:Int))
  (K (.one (A 4)) [])
  (J (aN fu (-1))
  (K (.one (A 3)) [])
  (J (aN 100000 fu)
  (K (.one (A 3)) [])
  (rec x5 (Lj 0 (len ws:Int) ws 0))))))))) ?_
 have four:kK ws.length=false->K (.one (A 4)) []:=fun h=>by
  rw[show e3 ⟨ws,fu⟩=4 from by simp[e3,h]]at D;exact D
 refine cz (fun h=>four ?_) (fun h=>⟨by decide,bN (fun G=>four ?_) (fun G=>bq (fun ab=>four ?_) (fun ab=>?_))⟩)
 ·simp only[len]at h;simp[kK];omega
 ·simp only[len]at G;rw[Int.tmod_eq_emod_of_nonneg (by omega)]at G;simp[kK];omega
 ·simp only[len]at ab;simp[kK];omega
 ·have hlen:kK ws.length=true:=by simp only[len]at h G ab;rw[Int.tmod_eq_emod_of_nonneg (by omega)]at G;simp[kK];omega
  have three:(decide (-1<=fu)&&decide (fu<=100000))=false->K (.one (A 3)) []:=fun h=>by
   rw[show e3 ⟨ws,fu⟩=3 from by simp[e3,hlen,h]]at D;exact D
  refine bq (fun aV=>three ?_) (fun aV=>bq (fun br=>three ?_) (fun br=>?_))
  ·simp;omega
  ·simp;omega
  ·refine SZ ws (by simp only[len]at ab;omega) K ?_ ws.length 0 (by omega) rfl;rw[show e3 ⟨ws,fu⟩=if cK ws then 0 else 3 from by simp[e3,hlen,aV,br]]at D;exact D

def G3:bd
 |[.agg [.E (.list .int) ws,.E .int _]],[]=>some (some (64<=len ws/\cK ws=true),.an [.one (A (ed ws)),.one (A (eX ws)),.one (ay (Aa ws))],[])
 |_,_=>none

theorem Mj:bw 150 G3:=b2 0 bv Tryz.func150 (by kernel_rfl) fun vs ar=>by
 unfold G3;split;rotate_left;trivial;rename_i ws fu;dsimp only[z.den]at ws fu;refine⟨by kernel_rfl,fun ag K D=>?_⟩;obtain⟨ax,gg⟩:=ag;refine⟨1,?_⟩;obtain⟨v0,b0⟩:∃v0,v0=K (.an [.one (A 0),.one (A (nth ws (Int.toNat 0) (z.H z.int))),.one (ay (aN 0 (nth ws (Int.toNat 0) (z.H z.int))))]) []:=⟨_,rfl⟩
 obtain⟨v1,cd⟩:∃v1,v1=K (.an [.one (A 1),.one (A (nth ws (Int.toNat 32) (z.H z.int))),.one (ay true)]) []:=⟨_,rfl⟩
 obtain⟨aC,cR⟩:∃aC,aC=K (.an [.one (A 0),.one (A 0),.one (ay (aN 0 0))]) []:=⟨_,rfl⟩
 refine ck (fun rec=>(by subst cR cd b0;kernel_rfl:_=(
  ((0:Int)<=(0:Int)/\(0:Int)<(len ws:Int)) /\
  ((0:Int)<=(32:Int)/\(32:Int)<(len ws:Int)) /\
  J (au (nth ws (Int.toNat 0) (z.H z.int)) 65535)
  (J (au (nth ws (Int.toNat 32) (z.H z.int)) 65535)
  aC
  (J (aN 0 (nth ws (Int.toNat 32) (z.H z.int)))
  v1
  aC))
  (J (au (nth ws (Int.toNat 32) (z.H z.int)) 65535)
  (J (aN (nth ws (Int.toNat 0) (z.H z.int)) 0)
  (K (.an [.one (A 1),.one (A 0),.one (ay true)]) [])
  v0)
  (J (aN (nth ws (Int.toNat 0) (z.H z.int)) (nth ws (Int.toNat 32) (z.H z.int)))
  v1
  v0))))) ?_
 subst cR cd b0;have ac2:=zx gg 0;have Ar:=zx gg 32;have dY:nth ws (Int.toNat (0:Int)) (z.H z.int)=ws.getD 0 0:=rfl;have aO:nth ws (Int.toNat (32:Int)) (z.H z.int)=ws.getD 32 0:=rfl;rw[dY,aO];have e7:e0 ws 0=if ws.getD 0 0=65535 then 0 else ws.getD 0 0:=rfl
 have a1:e0 ws 1=if ws.getD 32 0=65535 then 0 else ws.getD 32 0:=rfl
 unfold Aa eX ed at D;refine⟨⟨by omega,by omega⟩,⟨by omega,by omega⟩,cz (fun h=>cz (fun G=>?_) (fun G=>bq (fun ab=>?_) (fun ab=>?_))) (fun h=>cz (fun G=>bq (fun ab=>?_) (fun ab=>?_)) (fun G=>bq (fun ab=>?_) (fun ab=>?_)))⟩
 ·rw[if_pos h]at e7;rw[if_pos G]at a1;rw[if_neg (by omega),e7]at D;exact D
 ·rw[if_pos h]at e7;rw[if_neg G]at a1;rw[if_pos (by omega),a1,show decide (0<ws.getD 32 0)=true from decide_eq_true ab]at D;exact D
 ·rw[if_pos h]at e7;rw[if_neg G]at a1;rw[if_neg (by omega),e7]at D;exact D
 ·omega
 ·rw[if_neg h]at e7;rw[if_pos G]at a1;rw[if_neg (by omega),e7]at D;exact D
 ·rw[if_neg h]at e7;rw[if_neg G]at a1;rw[if_pos (by omega),a1,show decide (0<ws.getD 32 0)=true from decide_eq_true (by omega)]at D;exact D
 ·rw[if_neg h]at e7;rw[if_neg G]at a1;rw[if_neg (by omega),e7]at D;exact D

def G5:bd
 |[.agg [.E (.list .int) ws,.E .int fu]],[]=>some (none,.one (A (dE ⟨ws,fu⟩)),[])
 |_,_=>none

theorem En:bw 103 G5:=b2 0 ((bv.f Mj).f AY) Tryz.func103 (by kernel_rfl) fun vs ar=>by
 unfold G5;split;rotate_left;trivial;rename_i ws fu;refine⟨by kernel_rfl,fun K D=>?_⟩;refine⟨1,?_⟩;refine ck (fun rec=>(by kernel_rfl:_=(
  J (!(au (e3 (⟨ws,fu⟩:cm)) 0))
  (K (.one (A (e3 (⟨ws,fu⟩:cm)))) [])
  (J (aN (len ws:Int) 64)
  (K (.one (A 4)) [])
  ((64<=len ws/\cK ws=true) /\
  J (!(Aa ws))
  (K (.one (A 5)) [])
  (J (aN 60000 (eX ws))
  (K (.one (A 5)) [])
  (K (.one (A 0)) []))))))) ?_
 unfold dE at D;refine bN (fun h=>?_) (fun h=>?_)
 ·rw[if_neg h]at D;exact D
 rw[if_pos h]at D;refine bq (fun G=>?_) (fun G=>?_)
 ·rw[if_neg (by simp only[len]at G |-; omega)]at D;exact D
 rw[if_pos (by simp only[len]at G |-; omega)]at D;refine⟨⟨by simp only[len]at G |-; omega,(jh h).2.2.2⟩,eF (fun ab=>?_) (fun ab=>bq (fun aV=>?_) (fun aV=>?_))⟩
 ·rw[if_neg (by simp only[Aa,decide_eq_false_iff_not]at ab |-; omega)]at D;exact D
 ·rw[if_neg (by simp only;omega)]at D;exact D
 ·rw[if_pos (by simp only[Aa,decide_eq_true_eq]at ab |-; omega)]at D;exact D

def Hh:bd
 |[.agg [.E .int v,.E (.list .int) aF,.E .int t]],[]=>some (none,.one (A (ht v aF t)),[])
 |_,_=>none
def Ny:Ctx:=[]
def vp:List cw:=[.inLoop [26,25,24,2,1] (Code.sub (bF Tryz.f151) [1,1,1,0,1,0,0]),.inBlock 0,.code (Code.sub (bF Tryz.f151) [1,1,1,1])]
def Lr(F al:Int)(M:aJ)(ae ao:Int)(aE:aJ)(aH:Int):bP:=⟨[(26,.one (A F)),(25,.one (A al)),(24,.one (af M)),(2,.one (A ae)),(1,.one (.ptr 0 0))],[(0,.box [A ao,af aE,A aH])],1⟩
theorem Vf{F:Int}{rec:bZ}{K:aW}{al M ae ao aE aH}{v0}(b0:v0=fun a=>Lr a al M ae ao aE aH):b7 Ny tab Tryz.f151 0 K rec (cQ vp) (v0 F)=(
 J (aN F al)
 (((0:Int)<=F/\F<(len M:Int)) /\
 J (aN (nth M (Int.toNat F) (z.H z.int)) 1)
 (K (.one (A 3)) [])
 (J (aN 50 (nth M (Int.toNat F) (z.H z.int)))
 (K (.one (A 3)) [])
 (J (aN 0 F)
 (((0:Int)<=W (F-1)/\W (F-1)<(len aE:Int)) /\
 J (dc (nth M (Int.toNat F) (z.H z.int)) (nth aE (Int.toNat (W (F-1))) (z.H z.int)))
 (K (.one (A 6)) [])
 (rec vp (v0 (W (F+1)))))
 (rec vp (v0 (W (F+1)))))))
 (J (aN aH 1)
 (K (.one (A 4)) [])
 (J (aN (len aE:Int) aH)
 (K (.one (A 4)) [])
 (K (.one (A 0)) [])))):=by subst_vars;kernel_rfl

theorem JF(aF:aJ)(v t:Int)(ax:aF.length<=6)(K:aW)(last:Nat->Option Int)(a6:last 0=none)(av:∀k,k<aF.length->last (k+1)=some (nth aF k 0)):∀(d k:Nat),k+d=aF.length ->
  K (.one (A (yl (lw (last k) (aF.drop k)) t aF.length))) [] ->
  cl Ny tab Tryz.f151 0 K (d+1) vp (Lr (k:Int) (((len aF):Nat):Int) aF 0 v aF t)
 |0,k,ad,D=>by
  rw[bW (L:=vp),Vf rfl];rw[List.drop_of_length_le (by omega)]at D;rw[show yl (lw (last k) []) t aF.length=if t<1\/(aF.length:Int)<t then 4 else 0 from rfl]at D;refine co (by simp only[len];omega) (bq (fun h=>?_) (fun h=>bq (fun G=>?_) (fun G=>?_)))
  ·rw[if_pos (.inl h)]at D;exact D
  ·rw[if_pos (.inr G)]at D;exact D
  ·rw[if_neg (by simp only[len]at G;omega)]at D;exact D
 |d+1,k,ad,D=>by
  rw[bW (L:=vp),Vf rfl,cM];rw[ep (by omega) (z.H z.int)]at D;have Ja:=av k (by omega);have e:nth aF k (z.H z.int)=nth aF k 0:=rfl;rw[e]at D |-;obtain⟨x,aG⟩:∃x,nth aF k (0:Int)=x:=⟨_,rfl⟩
  rw[aG]at D Ja |-;have hv:W ((k:Int)+1)=((k+1:Nat):Int):=di (by omega);rw[hv];refine cS (by simp only[len];omega) ⟨⟨by omega,by simp only[len];omega⟩,bq (fun h=>?_) (fun h=>bq (fun G=>?_) (fun G=>?_))⟩
  ·rw[show lw (last k) (x::aF.drop (k+1))=3 from if_pos (.inl h)]at D;exact D
  ·rw[show lw (last k) (x::aF.drop (k+1))=3 from if_pos (.inr G)]at D;exact D
  ·rw[show lw (last k) (x::aF.drop (k+1))=if nk (last k) x then 6 else lw (some x) (aF.drop (k+1))from if_neg (by omega)]at D;refine bq (fun ab=>?_) (fun ab=>?_)
   ·obtain⟨j,rfl⟩:∃j,k=j+1:=⟨k-1,by omega⟩
    have aR:=av j (by omega);rw[aR]at D;rw[cc (n:=((j+1:Nat):Int)-1) (by omega) (by omega),show Int.toNat (((j+1:Nat):Int)-1)=j by omega];have aX:nth aF j (z.H z.int)=nth aF j 0:=rfl;rw[aX];refine⟨⟨by omega,by simp only[len];omega⟩,cn (fun aV=>?_) (fun aV=>?_)⟩
    ·rw[fV]at aV;rw[if_pos (show nk (some (nth aF j 0)) x=true from decide_eq_true aV)]at D;exact D
    ·rw[eC]at aV;rw[if_neg (show ¬nk (some (nth aF j 0)) x=true from by simp only[nk,decide_eq_true_eq];omega)]at D;refine JF aF v t ax K last a6 av d (j+1+1) (by omega) ?_;rw[Ja];exact D
   ·have aaQ:k=0:=by omega
    subst aaQ;rw[a6]at D;rw[if_neg (show ¬nk none x=true from by simp[nk])]at D;refine JF aF v t ax K last a6 av d 1 (by omega) ?_;rw[Ja];exact D
theorem Mt:bw 151 Hh:=b2 (Γ:=Ny) 0 bv Tryz.func151 (by kernel_rfl) fun vs ar=>by
 unfold Hh;split;rotate_left;trivial;rename_i v aF t;refine⟨by kernel_rfl,fun K D=>?_⟩;refine⟨aF.length+2,?_⟩;refine ck (fun rec=>(by kernel_rfl:_=(
  J (aN v 1)
  (K (.one (A 3)) [])
  (J (aN 1000 v)
  (K (.one (A 3)) [])
  (J (au (len aF:Int) 0)
  (K (.one (A 2)) [])
  (J (aN 6 (len aF:Int))
  (K (.one (A 2)) [])
  (rec vp (Lr 0 (len aF:Int) aF 0 v aF t)))))))) ?_
 unfold ht at D;refine bq (fun h=>?_) (fun h=>bq (fun G=>?_) (fun G=>cz (fun ab=>?_) (fun ab=>bq (fun aV=>?_) (fun aV=>?_))))
 ·rw[if_pos (.inl h)]at D;exact D
 ·rw[if_pos (.inr G)]at D;exact D
 ·rw[if_neg (by omega),if_pos (by simp only[len]at ab;omega)]at D;exact D
 ·rw[if_neg (by omega),if_pos (by simp only[len]at aV;omega)]at D;exact D
 ·rw[if_neg (by omega),if_neg (by simp only[len]at ab aV;omega)]at D;exact JF aF v t (by simp only[len]at aV;omega) K (fun k=>match k with|0=>none|k+1=>some (nth aF k 0)) rfl (fun k _=>rfl) aF.length 0 (by omega) D

def BT:bd
 |[.agg [.E .int v,.E (.list .int) aF,.E .int t,.E .int n]],[]=>some (none,.one (A (g2 ⟨⟨v,aF,t⟩,n⟩)),[])
 |_,_=>none

theorem L3:bw 104 BT:=b2 0 (bv.f Mt) Tryz.func104 (by kernel_rfl) fun vs ar=>by
 unfold BT;split;rotate_left;trivial;rename_i v aF t n;refine⟨by kernel_rfl,fun K D=>?_⟩;refine⟨1,?_⟩;refine ck (fun rec=>(by kernel_rfl:_=(
  J (aN n 0)
  (K (.one (A 3)) [])
  (J (aN 1000 n)
  (K (.one (A 3)) [])
  (K (.one (A (ht v aF t))) []))))) ?_
 unfold g2 at D;simp only at D;refine bq (fun h=>?_) (fun h=>bq (fun G=>?_) (fun G=>?_))
 ·rw[if_pos (.inl h)]at D;exact D
 ·rw[if_pos (.inr G)]at D;exact D
 ·rw[if_neg (by omega)]at D;exact D

def FW:bd
 |[.agg [.E (.list .int) ws,.E .int fu,.E .bool up,.E .int ak,.E (.list .int) ah,.E .int aj,.E .int ai,.E (.list .bool) Y,.E (.list .bool) aa]],[]=>some (none,.one (A (dM ⟨⟨ws,fu⟩,up,⟨⟨ak,ah,aj⟩,ai⟩,Y,aa⟩)),[])
 |_,_=>none

theorem yq:bw 47 FW:=b2 0 ((bv.f L3).f En) Tryz.func47 (by kernel_rfl) fun vs ar=>by
 unfold FW;split;rotate_left;trivial;rename_i ws fu up ak ah aj ai Y aa;refine⟨by kernel_rfl,fun K D=>?_⟩;refine⟨1,?_⟩;refine ck (fun rec=>(by kernel_rfl:_=(
  J (!(au (dE ⟨ws,fu⟩) 0))
  (K (.one (A (dE ⟨ws,fu⟩))) [])
  (J (aN (len Y:Int) 1)
  (K (.one (A 4)) [])
  (J (aN 4 (len Y:Int))
  (K (.one (A 4)) [])
  (J (!(au (len aa:Int) (len Y:Int)))
  (K (.one (A 4)) [])
  (K (.one (A (g2 ⟨⟨ak,ah,aj⟩,ai⟩))) []))))))) ?_
 unfold dM at D;simp only at D;refine bN (fun h=>?_) (fun h=>?_)
 ·rw[if_neg h]at D;exact D
 ·rw[if_pos h]at D;have dV:((len Y:Nat):Int)=(Y.length:Int):=rfl;have gT:((len aa:Nat):Int)=(aa.length:Int):=rfl;rw[dV,gT]
  by_cases c:Y.length<1\/4<Y.length\/aa.length≠Y.length
  ·rw[if_pos c]at D;exact bq (fun _=>D) (fun _=>bq (fun _=>D) (fun _=>Tk (by omega) D))
  ·rw[if_neg c]at D;exact co (by omega) (co (by omega) (u5 (by omega) D))

def FG:bd
 |[.agg [.E (.list .int) ws,.E .int fu,.E .bool up,.E .int bu,.E .int bx]],[]=>some (none,.one (A (eZ ⟨⟨ws,fu⟩,up,bu,bx⟩)),[])
 |_,_=>none

theorem AV:bw 48 FG:=b2 0 (bv.f En) Tryz.func48 (by kernel_rfl) fun vs ar=>by
 unfold FG;split;rotate_left;trivial;rename_i ws fu up bu bx;refine⟨by kernel_rfl,fun K D=>?_⟩;refine⟨1,?_⟩;refine ck (fun rec=>(by kernel_rfl:_=(
  J (!(au (dE ⟨ws,fu⟩) 0))
  (K (.one (A (dE ⟨ws,fu⟩))) [])
  (J (!(au (len ws:Int) 192))
  (K (.one (A 4)) [])
  (J (aN bu 0)
  (K (.one (A 3)) [])
  (J (aN 8 bu)
  (K (.one (A 3)) [])
  (J (aN bx 0)
  (K (.one (A 3)) [])
  (J (aN 40 bx)
  (K (.one (A 3)) [])
  (K (.one (A 0)) []))))))))) ?_
 unfold eZ at D;simp only at D;refine bN (fun h=>?_) (fun h=>bN (fun G=>?_) (fun G=>bq (fun ab=>?_) (fun ab=>bq (fun aV=>?_) (fun aV=>bq (fun br=>?_) (fun br=>bq (fun bV=>?_) (fun bV=>?_))))))
 ·rw[if_neg h]at D;exact D
 ·rw[if_pos h,if_neg (by simp only[len]at G;omega)]at D;exact D
 all_goals rw[if_pos h,if_pos (by simp only[len]at G;omega)]at D
 ·rw[if_pos (by omega)]at D;exact D
 ·rw[if_pos (by omega)]at D;exact D
 ·rw[if_pos (by omega)]at D;exact D
 ·rw[if_pos (by omega)]at D;exact D
 ·rw[if_neg (by omega)]at D;exact D

def Ch:bd
 |[.one (.E (.list .int) l)],[]=>some (none,.one (A (fY l)),[])
 |_,_=>none
def Nz:Ctx:=[]
def ye:List cw:=[.inLoop [15,14,13,2] (Code.sub (bF Tryz.f105) [1,1,0,1,0,0]),.inBlock 0,.code (Code.sub (bF Tryz.f105) [1,1,1])]
def Ls(F al:Int)(M:aJ)(ae:Int):bP:=⟨[(15,.one (A F)),(14,.one (A al)),(13,.one (af M)),(2,.one (A ae))],[],0⟩
theorem Vh{F:Int}{rec:bZ}{K:aW}{al M ae}{v0}(b0:v0=fun a=>Ls a al M ae):b7 Nz tab Tryz.f105 0 K rec (cQ ye) (v0 F)=(
 J (aN F al)
 (((0:Int)<=F/\F<(len M:Int)) /\
 J (aN (nth M (Int.toNat F) (z.H z.int)) 0)
 (K (.one (A 3)) [])
 (J (aN 65535 (nth M (Int.toNat F) (z.H z.int)))
 (K (.one (A 3)) [])
 (rec ye (v0 (W (F+1))))))
 (K (.one (A 0)) [])):=by subst_vars;kernel_rfl

theorem Tb(ws:aJ)(ax:ws.length<=40)(K:aW)(D:K (.one (A (if cK ws then 0 else 3))) []):∀(d k:Nat),k+d=ws.length->cK (ws.take k)=true ->
  cl Nz tab Tryz.f105 0 K (d+1) ye (Ls (k:Int) (((len ws):Nat):Int) ws (0:Int))
 |0,k,ad,bp=>by
  rw[bW (L:=ye),Vh rfl];refine co (by simp only[len];omega) ?_;rw[List.take_of_length_le (by omega)]at bp;rw[if_pos bp]at D;exact D
 |d+1,k,ad,bp=>by
  rw[bW (L:=ye),Vh rfl];have bad:eS (nth ws k (z.H z.int))=false->K (.one (A 3)) []:=fun h=>by
   rw[show cK ws=false from all_false (k:=k) (by omega) _ h]at D;exact D
  refine cS (by simp only[len];omega) ⟨⟨by omega,by simp only[len];omega⟩,bq (fun h=>?_) (fun h=>bq (fun G=>?_) (fun G=>?_))⟩
  ·rw[cM]at h;exact bad (by simp only[eS,Bool.and_eq_false_iff,decide_eq_false_iff_not];exact .inl (by omega))
  ·rw[cM]at G;exact bad (by simp only[eS,Bool.and_eq_false_iff,decide_eq_false_iff_not];exact .inr (by omega))
  ·rw[di (by omega)];rw[cM]at h G;exact Tb ws ax K D d (k+1) (by omega) (BC (by omega) (z.H z.int) bp (by simp[eS,h,G]))
theorem Mu:bw 105 Ch:=b2 (Γ:=Nz) 0 bv Tryz.func105 (by kernel_rfl) fun vs ar=>by
 unfold Ch;split;rotate_left;trivial;rename_i l;refine⟨by kernel_rfl,fun K D=>?_⟩;refine⟨l.length+2,?_⟩;refine ck (fun rec=>(by kernel_rfl:_=(
  J (au (len l:Int) 0)
  (K (.one (A 2)) [])
  (J (aN 40 (len l:Int))
  (K (.one (A 2)) [])
  (rec ye (Ls 0 (len l:Int) l 0)))))) ?_
 unfold fY at D;refine cz (fun h=>?_) (fun h=>bq (fun G=>?_) (fun G=>?_))
 ·rw[if_pos (by simp only[len]at h;omega)]at D;exact D
 ·rw[if_pos (by simp only[len]at G;omega)]at D;exact D
 ·rw[if_neg (by simp only[len]at h G;omega)]at D;exact Tb l (by simp only[len]at G;omega) K D l.length 0 (by omega) rfl

def Cg:bd
 |[.agg [.E .int v,.E .int u,.E (.list .target) ts]],[]=>some (none,.one (A (gD v u ts)),[])
 |_,_=>none
def vV:Ctx:=[]
def yd:List cw:=[.inLoop [38,37,36,2] (cZ oH [1,1,1,0,1,0,0]),.inBlock 0,.code (cZ oH [1,1,1,1])]
def DY(F al:Int)(M:LT)(ae:Int):bP:=⟨[(38,.one (A F)),(37,.one (A al)),(36,.one (.E (z.list z.target) M)),(2,.one (A ae))],[],0⟩
def o2:List cw:=[.inLoop [55,54,53,52,51,50,49,48,47,46,45,44,43,3,4,42,41,40,39,38,37,36,2] (cZ oH [1,1,1,0,1,0,0,1,1,0,0,1,1,0,0]),.inBlock 2,.inBlock 1,.code (cZ oH [1,1,1,0,1,0,0,1,1,1]),.inLoop [38,37,36,2] (cZ oH [1,1,1,0,1,0,0]),.inBlock 0,.code (cZ oH [1,1,1,1])]
def AF(F al M ae ao aE aH aS aZ bc bn bo bm bC bJ bI bM bz bS bY cq cv cN c0 c5 dq dt dH:Int)(dI:LT)(dr:Nat)(dD:Int)(dx:Bool)(ea dW:Int)(eb:LT)(ek fj fN gp:Int):bP:=⟨[(55,.one (A F)),(54,.agg [A al,A M,A ae,A ao,A aE,A aH,A aS,A aZ,A bc]),(53,.agg [A bn,A bo,A bm]),(52,.one (A bC)),(51,.one (.ptr 0 2)),(50,.agg [A bJ,A bI,A bM]),(49,.one (A bz)),(48,.one (.ptr 0 1)),(47,.agg [A bS,A bY,A cq]),(46,.one (A cv)),(45,.one (A cN)),(44,.one (A c0)),(43,.one (.ptr 0 0)),(3,.one (A c5)),(4,.one (.ptr 0 0)),(42,.agg [A dq,A dt,A dH]),(41,.one (.lS z.target dI dr 0)),(40,.one (A dD)),(39,.one (ay dx)),(38,.one (A ea)),(37,.one (A dW)),(36,.one (.E (z.list z.target) eb)),(2,.one (A ek))],[(0,.box [A fj,A fN,A gp])],1⟩
theorem Vg{F al ae:Int}{M:LT}{rec:bZ}{K:aW}:b7 vV tab oH 0 K rec (cQ yd) (DY F al M ae)=(
 J (aN F al)
 (((0:Int)<=F/\F<(len M:Int)) /\
 rec o2 (AF 0 (nth M (Int.toNat F) (z.H z.target)).unit F F (nth M (Int.toNat F) (z.H z.target)).image 1 60 (nth M (Int.toNat F) (z.H z.target)).dp 1 40 (nth M (Int.toNat F) (z.H z.target)).dp 1 40 (nth M (Int.toNat F) (z.H z.target)).dp (nth M (Int.toNat F) (z.H z.target)).image 1 60 (nth M (Int.toNat F) (z.H z.target)).image (nth M (Int.toNat F) (z.H z.target)).unit F F F F (nth M (Int.toNat F) (z.H z.target)).unit F (nth M (Int.toNat F) (z.H z.target)).unit (nth M (Int.toNat F) (z.H z.target)).image (nth M (Int.toNat F) (z.H z.target)).dp M (Int.toNat F) F (aN F al) F al M ae (nth M (Int.toNat F) (z.H z.target)).unit (nth M (Int.toNat F) (z.H z.target)).image (nth M (Int.toNat F) (z.H z.target)).dp))
 (K (.one (A 0)) [])):=by kernel_rfl
theorem afI{al M ae ao aE aH aS aZ bc bn bo bm bC bJ bI bM bz bS bY cq cv cN c0 c5 dq dt dH dD ea dW ek fj fN gp:Int}{dI eb:LT}{dr:Nat}{dx:Bool}{rec:bZ}{K:aW}{v0}(b0:v0=fun a=>AF a al M ae ao aE aH aS aZ bc bn bo bm bC bJ bI bM bz bS bY cq cv cN c0 c5 dq dt dH dI dr dD dx ea dW eb ek fj fN gp):b7 vV tab oH 0 K rec (cQ o2) (v0 0)=(
 ((0:Int)<=(0:Int)/\(0:Int)<((3:Nat):Int)) /\
 ((0:Int)<=(0:Int)/\(0:Int)<((3:Nat):Int)) /\
 ((0:Int)<=(1:Int)/\(1:Int)<((3:Nat):Int)) /\
 J (aN al M)
 (K (.one (A 3)) [])
 (((0:Int)<=(0:Int)/\(0:Int)<((3:Nat):Int)) /\
 ((0:Int)<=(2:Int)/\(2:Int)<((3:Nat):Int)) /\
 J (aN ae al)
 (K (.one (A 3)) [])
 (rec o2 (v0 (W ((0:Int)+(1:Int))))))):=by subst_vars;kernel_rfl
theorem afJ{al M ae ao aE aH aS aZ bc bn bo bm bC bJ bI bM bz bS bY cq cv cN c0 c5 dq dt dH dD ea dW ek fj fN gp:Int}{dI eb:LT}{dr:Nat}{dx:Bool}{rec:bZ}{K:aW}{v0}(b0:v0=fun a=>AF a al M ae ao aE aH aS aZ bc bn bo bm bC bJ bI bM bz bS bY cq cv cN c0 c5 dq dt dH dI dr dD dx ea dW eb ek fj fN gp):b7 vV tab oH 0 K rec (cQ o2) (v0 1)=(
 ((0:Int)<=(1:Int)/\(1:Int)<((3:Nat):Int)) /\
 ((0:Int)<=(0:Int)/\(0:Int)<((3:Nat):Int)) /\
 ((0:Int)<=(1:Int)/\(1:Int)<((3:Nat):Int)) /\
 J (aN ao aE)
 (K (.one (A 3)) [])
 (((0:Int)<=(0:Int)/\(0:Int)<((3:Nat):Int)) /\
 ((0:Int)<=(2:Int)/\(2:Int)<((3:Nat):Int)) /\
 J (aN aH ao)
 (K (.one (A 3)) [])
 (rec o2 (v0 (W ((1:Int)+(1:Int))))))):=by subst_vars;kernel_rfl
theorem afK{al M ae ao aE aH aS aZ bc bn bo bm bC bJ bI bM bz bS bY cq cv cN c0 c5 dq dt dH dD ea dW ek fj fN gp:Int}{dI eb:LT}{dr:Nat}{dx:Bool}{rec:bZ}{K:aW}{v0}(b0:v0=fun a=>AF a al M ae ao aE aH aS aZ bc bn bo bm bC bJ bI bM bz bS bY cq cv cN c0 c5 dq dt dH dI dr dD dx ea dW eb ek fj fN gp):b7 vV tab oH 0 K rec (cQ o2) (v0 2)=(
 ((0:Int)<=(2:Int)/\(2:Int)<((3:Nat):Int)) /\
 ((0:Int)<=(0:Int)/\(0:Int)<((3:Nat):Int)) /\
 ((0:Int)<=(1:Int)/\(1:Int)<((3:Nat):Int)) /\
 J (aN aS aZ)
 (K (.one (A 3)) [])
 (((0:Int)<=(0:Int)/\(0:Int)<((3:Nat):Int)) /\
 ((0:Int)<=(2:Int)/\(2:Int)<((3:Nat):Int)) /\
 J (aN bc aS)
 (K (.one (A 3)) [])
 (rec o2 (v0 (W ((2:Int)+(1:Int))))))):=by subst_vars;kernel_rfl
theorem afL{al M ae ao aE aH aS aZ bc bn bo bm bC bJ bI bM bz bS bY cq cv cN c0 c5 dq dt dH dD ea dW ek fj fN gp:Int}{dI eb:LT}{dr:Nat}{dx:Bool}{rec:bZ}{K:aW}:b7 vV tab oH 0 K rec (cQ o2) (AF 3 al M ae ao aE aH aS aZ bc bn bo bm bC bJ bI bM bz bS bY cq cv cN c0 c5 dq dt dH dI dr dD dx ea dW eb ek fj fN gp)=(
 rec yd (DY (W (ea+1)) dW eb ek)):=by kernel_rfl

theorem Ta(ts:LT)(ax:ts.length<=4)(K:aW):∀(d k:Nat),k+d=ts.length->K (.one (A (if jM (k:Int) (ts.drop k)then 0 else 3))) [] ->
  cl vV tab oH 0 K (5*d+1) yd (DY (k:Int) (((len ts):Nat):Int) ts 0)
 |0,k,ad,D=>by
  rw[show 5*0+1=0+1 by omega,bW (L:=yd),Vg ];rw[List.drop_of_length_le (by omega)]at D;exact co (by simp only[len];omega) D
 |d+1,k,ad,D=>by
  rw[show 5*(d+1)+1=(5*d+1+1+1+1+1)+1 by omega,bW (L:=yd),Vg ,cM];rw[ep (by omega) (z.H z.target)]at D;obtain⟨x,aG⟩:∃x,nth ts k (z.H z.target)=x:=⟨_,rfl⟩
  rw[aG]at D |-;have three:pZ (k:Int) x=false->K (.one (A 3)) []:=fun h=>by rw[show jM (k:Int) (x::ts.drop (k+1))=false from by simp[jM,h]]at D;exact D
  have zQ:pZ (k:Int) x=true↔(x.unit=k/\1<=x.image/\x.image<=60/\1<=x.dp/\x.dp<=40):=by
   simp only[pZ,Bool.and_eq_true,decide_eq_true_eq];omega
  have bad:¬(x.unit=k/\1<=x.image/\x.image<=60/\1<=x.dp/\x.dp<=40)->K (.one (A 3)) []:=fun h=>three (by
   cases az:pZ (k:Int) x
   ·rfl
   ·exact absurd (zQ.1 az) h)
  refine cS (by simp only[len];omega) ⟨⟨by omega,by simp only[len];omega⟩,?_⟩;rw[bW (L:=o2),afI rfl];refine⟨by omega,by omega,by omega,bq (fun h=>bad (by omega)) (fun h=>⟨by omega,by omega,bq (fun G=>bad (by omega)) (fun G=>?_)⟩)⟩;rw[show W ((0:Int)+1)=1 from cc (by omega) (by omega),bW (L:=o2),afJ rfl];refine⟨by omega,by omega,by omega,bq (fun ab=>bad (by omega)) (fun ab=>⟨by omega,by omega,bq (fun aV=>bad (by omega)) (fun aV=>?_)⟩)⟩;rw[show W ((1:Int)+1)=2 from cc (by omega) (by omega),bW (L:=o2),afK rfl];refine⟨by omega,by omega,by omega,bq (fun br=>bad (by omega)) (fun br=>⟨by omega,by omega,bq (fun bV=>bad (by omega)) (fun bV=>?_)⟩)⟩;rw[show W ((2:Int)+1)=3 from cc (by omega) (by omega),bW (L:=o2),afL ,di (by omega)];rw[show jM (k:Int) (x::ts.drop (k+1))=jM ((k:Int)+1) (ts.drop (k+1))from by simp only[jM,zQ.2 (show _ by omega),Bool.true_and]]at D;exact Ta ts ax K d (k+1) (by omega) (by rw[show((k+1:Nat):Int)=(k:Int)+1 by omega];exact D)
theorem WT:bw 106 Cg:=b2 (Γ:=vV) 0 bv Tryz.func106 (by kernel_rfl) fun vs ar=>by
 unfold Cg;split;rotate_left;trivial;rename_i v u ts;refine⟨by kernel_rfl,fun K D=>?_⟩;refine⟨5*ts.length+1+1,?_⟩;refine ck (fun rec=>(by kernel_rfl:_=(
  J (aN v 1)
  (K (.one (A 3)) [])
  (J (aN 1000 v)
  (K (.one (A 3)) [])
  (J (aN u 0)
  (K (.one (A 3)) [])
  (J (aN 100000 u)
  (K (.one (A 3)) [])
  (J (au (len ts:Int) 0)
  (K (.one (A 2)) [])
  (J (aN 4 (len ts:Int))
  (K (.one (A 2)) [])
  (rec yd (DY 0 (len ts:Int) ts 0)))))))))) ?_
 unfold gD at D;refine bq (fun h=>?_) (fun h=>bq (fun G=>?_) (fun G=>bq (fun ab=>?_) (fun ab=>bq (fun aV=>?_) (fun aV=>cz (fun br=>?_) (fun br=>bq (fun bV=>?_) (fun bV=>?_))))))
 ·rw[if_pos (by omega)]at D;exact D
 ·rw[if_pos (by omega)]at D;exact D
 ·rw[if_pos (by omega)]at D;exact D
 ·rw[if_pos (by omega)]at D;exact D
 ·rw[if_neg (by omega),if_pos (by simp only[len]at br;omega)]at D;exact D
 ·rw[if_neg (by omega),if_pos (by simp only[len]at bV;omega)]at D;exact D
 ·rw[if_neg (by omega),if_neg (by simp only[len]at br bV;omega)]at D;exact Ta ts (by simp only[len]at bV;omega) K ts.length 0 (by omega) D

def Gt:bd
 |[.agg [.E .int eJ,.E .int e4,.E .int eo,.E (.list .target) dT,.E (.list (.list .int)) cU],.one (.E .int n),.one (.E .int aL)],[]=>some (some (0<=aL/\aL<=1000),.one (A (nE ⟨eJ,⟨e4,eo,dT⟩,cU⟩ n aL.toNat)),[])
 |_,_=>none
def Bl:Ctx:=[(105,Ch),(106,Cg)]
theorem adt:fz Tryz.prog tab Bl:=((bv.f WT).f Mu)
def xB:List cw:=[.inLoop [32,31,30,6,3] (Code.sub (bF Tryz.f49) [1,1,0,1,0,0]),.inBlock 0,.code (Code.sub (bF Tryz.f49) [1,1,1])]
def KJ(F al:Int)(M:cu)(ae ao aE aH:Int)(aS:LT)(aZ:cu):bP:=⟨[(32,.one (A F)),(31,.one (A al)),(30,.one (cH M)),(6,.one (A ae)),(3,.one (.ptr 0 0))],[(0,.box [A ao,A aE,A aH,.E (z.list z.target) aS,cH aZ])],1⟩
theorem ae7(eJ e4 eo:Int)(dT:LT)(cU:cu)(n aL:Int)(rec:bZ)(K:aW):b7 Bl tab Tryz.f49 0 K rec [.code (bF Tryz.f49)] (df [.agg [A eJ,A e4,A eo,.E (z.list z.target) dT,cH cU],.one (A n),.one (A aL)] [])=(
 J (!(au eJ n))
 (K (.one (A 4)) [])
 (J (!(au (len cU:Int) aL))
 (K (.one (A 4)) [])
 (J (!(au (len dT:Int) aL))
 (K (.one (A 4)) [])
 (rec xB (KJ 0 (len cU:Int) cU 0 eJ e4 eo dT cU))))):=by kernel_rfl
theorem Ur{F:Int}{rec:bZ}{K:aW}{al M ae ao aE aH aS aZ}{aC v0 v1}(cR:aC=fun a=>KJ a al M ae ao aE aH aS aZ)(b0:v0=fY (nth M (Int.toNat F) (z.H (z.list z.int))))(cd:v1=gD aE aH aS):b7 Bl tab Tryz.f49 0 K rec (cQ xB) (aC F)=(
 J (aN F al)
 (((0:Int)<=F/\F<(len M:Int)) /\
 J (!(au v0 0))
 (K (.one (A v0)) [])
 (rec xB (aC (W (F+1)))))
 (K (.one (A v1)) [])):=by subst_vars;kernel_rfl

theorem SK(l:cu)(ax:l.length<=1000)(K:aW)(ae eJ e4 eo:Int)(dT:LT)(cU:cu):∀(d k:Nat),k+d=l.length->K (.one (A (if kZ (l.drop k)=0 then gD e4 eo dT else kZ (l.drop k)))) [] ->
  cl Bl tab Tryz.f49 0 K (d+1) xB (KJ (k:Int) (((len l):Nat):Int) l ae eJ e4 eo dT cU)
 |0,k,ad,D=>by
  rw[bW (L:=xB),Ur rfl rfl rfl];rw[List.drop_of_length_le (by omega)]at D;exact co (by simp only[len];omega) D
 |d+1,k,ad,D=>by
  rw[bW (L:=xB),Ur rfl rfl rfl,cM,di (by omega)];rw[ep (by omega) (z.H (z.list z.int))]at D;unfold kZ at D;refine cS (by simp only[len];omega) ⟨⟨by omega,by simp only[len];omega⟩,bN (fun h=>?_) (fun h=>?_)⟩
  ·rw[if_neg h,if_neg h]at D;exact D
  ·rw[if_pos h]at D;exact SK l ax K ae eJ e4 eo dT cU d (k+1) (by omega) D
theorem agf(ag:0<=aL/\aL<=1000)(K:aW)(D:K (.one (A (nE ⟨eJ,⟨e4,eo,dT⟩,cU⟩ n aL.toNat))) []):∃m,cl Bl tab Tryz.f49 0 K m [.code (bF Tryz.f49)] (df [.agg [A eJ,A e4,A eo,.E (.list .target) dT,cH cU],.one (A n),.one (A aL)] []):=by
 obtain⟨ag,aki⟩:=ag;obtain⟨u,rfl⟩:=Int.eq_ofNat_of_zero_le ag;rw[cM]at D;refine⟨cU.length+2,?_⟩;rw[eO,ae7 _ _ _ _ _ _ _ _ _];unfold nE at D;simp only at D;refine bN (fun h=>?_) (fun h=>bN (fun G=>?_) (fun G=>bN (fun ab=>?_) (fun ab=>?_)))
 ·rw[if_pos (.inl h)]at D;exact D
 ·rw[if_pos (.inr (.inl (by simp only[len]at G;omega)))]at D;exact D
 ·rw[if_pos (.inr (.inr (by simp only[len]at ab;omega)))]at D;exact D
 ·rw[if_neg (by simp only[len]at G ab;omega)]at D;exact SK cU (by simp only[len]at G;omega) K 0 eJ e4 eo dT cU cU.length 0 (by omega) D
theorem ahS:bw 49 Gt:=hN adt Tryz.func49 (by kernel_rfl) (by
 intro vs ar p v dB h ag;unfold Gt at h;split at h
 ·cases h;exact⟨by kernel_rfl,rfl,.inl (agf _ _ _ _ _ _ _ ag.1 _ ⟨rfl,rfl⟩)⟩
 ·cases h)

def BR:bd
 |[.one (.E .int w)],[]=>some (none,.one (ay (!eS w)),[])
 |_,_=>none

theorem Wd:bw 215 BR:=b2 0 bv Tryz.func215 (by kernel_rfl) fun vs ar=>by
 unfold BR;split;rotate_left;trivial;rename_i w;dsimp only[z.den]at w;refine⟨by kernel_rfl,fun K D=>?_⟩;refine⟨1,?_⟩;refine ck (fun rec=>(by kernel_rfl:_=(
  J (aN w 0)
  (K og [])
  (K (.one (ay (aN 65535 w))) [])))) ?_
 refine bq (fun h=>?_) (fun h=>?_)
 ·rw[show(!eS w)=true from by simp[eS];omega]at D;exact D
 ·rw[show(!eS w)=aN 65535 w from by simp[eS,aN,h];by_cases G:w<=65535<;>simp[G]<;>omega]at D;exact D

def Og:bd
 |[.one (.E .int w)],[]=>some (none,.one (ay (eS w)),[])
 |_,_=>none

theorem ag5:bw 126 Og:=b2 0 bv Tryz.func126 (by kernel_rfl) fun vs ar=>by
 unfold Og;split;rotate_left;trivial;rename_i w;refine⟨by kernel_rfl,fun K D=>?_⟩;refine⟨1,?_⟩;refine ck (fun rec=>(by kernel_rfl:_=(
  J (dc 0 w)
  (K (.one (ay (dc w 65535))) [])
  (K fi [])))) ?_
 refine cn (fun h=>?_) (fun h=>?_)
 ·rw[show eS w=dc w 65535 from by rw[fV]at h;simp[eS,dc,h]]at D;exact D
 ·rw[show eS w=false from by rw[eC]at h;simp[eS];omega]at D;exact D

def BU:bd
 |[.one (.E .int w)],[]=>some (none,.one (ay (!eS w)),[])
 |_,_=>none

theorem L4:bw 125 BU:=b2 0 (bv.f ag5) Tryz.func125 (by kernel_rfl) fun vs ar=>by
 unfold BU;split;rotate_left;trivial;rename_i w;refine⟨by kernel_rfl,fun K D=>?_⟩;refine⟨1,?_⟩;refine ck (fun rec=>(by kernel_rfl:_=(
  K (.one (ay (!(eS w)))) []))) ?_
 exact D

def BZ:bd
 |[.one (.E .int w)],[]=>some (none,.one (ay (!eS w)),[])
 |_,_=>none

theorem L8:bw 108 BZ:=b2 0 bv Tryz.func108 (by kernel_rfl) fun vs ar=>by
 unfold BZ;split;rotate_left;trivial;rename_i w;dsimp only[z.den]at w;refine⟨by kernel_rfl,fun K D=>?_⟩;refine⟨1,?_⟩;refine ck (fun rec=>(by kernel_rfl:_=(
  J (aN w 0)
  (K og [])
  (K (.one (ay (aN 65535 w))) [])))) ?_
 refine bq (fun h=>?_) (fun h=>?_)
 ·rw[show(!eS w)=true from by simp[eS];omega]at D;exact D
 ·rw[show(!eS w)=aN 65535 w from by simp[eS,aN,h];by_cases G:w<=65535<;>simp[G]<;>omega]at D;exact D

def FP:bd
 |[.one (.E (.list .int) l),.one (.fn f [])],[]=>(match Nat.beq f 215 with|true=>some (some (eQ l),.one (A (lT l)),[])|false=>(match Nat.beq f 125 with|true=>some (some (eQ l),.one (A (lT l)),[])|false=>(match Nat.beq f 108 with|true=>some (some (eQ l),.one (A (lT l)),[])|false=>none)))
 |_,_=>none
def oh:Ctx:=[(215,BR),(125,BU),(108,BZ)]
theorem adm:fz Tryz.prog tab oh:=(((bv.f L8).f L4).f Wd)
def xn:List cw:=[.inLoop [8,7,4,0,1] (cZ j0 [1,0,1,0,0]),.inBlock 0,.code (cZ j0 [1,1])]
def Kr(F al M:Int)(ae:aJ):bP:=⟨[(8,.one (A F)),(7,.one (A al)),(4,.one (A M)),(0,.one (af ae)),(1,.one (.fn 215 []))],[],0⟩
theorem aeS(l:aJ)(rec:bZ)(K:aW):b7 oh tab j0 0 K rec [.code (bF j0)] (df [.one (af l),.one (.fn 215 [])] [])=(
 rec xn (Kr 0 (len l:Int) 0 l)):=by kernel_rfl
theorem T7{F:Int}{rec:bZ}{K:aW}{al M ae}{v1 v0}(cd:v1=fun a=>Kr a al M ae)(b0:v0=eS (nth ae (Int.toNat F) (z.H z.int))):b7 oh tab j0 0 K rec (cQ xn) (v1 F)=(
 J (aN F al)
 (((0:Int)<=F/\F<(len ae:Int)) /\
 J (!v0)
 (K (.one (A F)) [])
 (rec xn (v1 (W (F+1)))))
 (K (.one (A (-1))) [])):=by subst_vars;kernel_rfl

def xo:List cw:=[.inLoop [8,7,4,0,1] (cZ j0 [1,0,1,0,0]),.inBlock 0,.code (cZ j0 [1,1])]
def Ks(F al M:Int)(ae:aJ):bP:=⟨[(8,.one (A F)),(7,.one (A al)),(4,.one (A M)),(0,.one (af ae)),(1,.one (.fn 125 []))],[],0⟩
theorem aeT(l:aJ)(rec:bZ)(K:aW):b7 oh tab j0 0 K rec [.code (bF j0)] (df [.one (af l),.one (.fn 125 [])] [])=(
 rec xo (Ks 0 (len l:Int) 0 l)):=by kernel_rfl
theorem T8{F:Int}{rec:bZ}{K:aW}{al M ae}{v1 v0}(cd:v1=fun a=>Ks a al M ae)(b0:v0=eS (nth ae (Int.toNat F) (z.H z.int))):b7 oh tab j0 0 K rec (cQ xo) (v1 F)=(
 J (aN F al)
 (((0:Int)<=F/\F<(len ae:Int)) /\
 J (!v0)
 (K (.one (A F)) [])
 (rec xo (v1 (W (F+1)))))
 (K (.one (A (-1))) [])):=by subst_vars;kernel_rfl

def xp:List cw:=[.inLoop [8,7,4,0,1] (cZ j0 [1,0,1,0,0]),.inBlock 0,.code (cZ j0 [1,1])]
def Kt(F al M:Int)(ae:aJ):bP:=⟨[(8,.one (A F)),(7,.one (A al)),(4,.one (A M)),(0,.one (af ae)),(1,.one (.fn 108 []))],[],0⟩
theorem aeU(l:aJ)(rec:bZ)(K:aW):b7 oh tab j0 0 K rec [.code (bF j0)] (df [.one (af l),.one (.fn 108 [])] [])=(
 rec xp (Kt 0 (len l:Int) 0 l)):=by kernel_rfl
theorem T9{F:Int}{rec:bZ}{K:aW}{al M ae}{v1 v0}(cd:v1=fun a=>Kt a al M ae)(b0:v0=eS (nth ae (Int.toNat F) (z.H z.int))):b7 oh tab j0 0 K rec (cQ xp) (v1 F)=(
 J (aN F al)
 (((0:Int)<=F/\F<(len ae:Int)) /\
 J (!v0)
 (K (.one (A F)) [])
 (rec xp (v1 (W (F+1)))))
 (K (.one (A (-1))) [])):=by subst_vars;kernel_rfl

theorem Sy(l:aJ)(av:eQ l)(K:aW):∀(d k:Nat),k+d=l.length->K (.one (A (lU k (l.drop k)))) [] ->
  cl oh tab j0 0 K (d+1) xn (Kr (k:Int) (((len l):Nat):Int) 0 l)
 |0,k,ad,D=>by
  rw[bW (L:=xn),T7 rfl rfl];refine co (by simp only[len];omega) ?_;rw[List.drop_of_length_le (by omega)]at D;exact D
 |d+1,k,ad,D=>by
  have nU:=av;unfold eQ at nU;rw[bW (L:=xn),T7 rfl rfl];rw[ep (by omega) (z.H z.int)]at D;simp only[lU]at D;refine cS (by simp only[len];omega) ⟨⟨by omega,by simp only[len];omega⟩,eF (fun h=>?_) (fun h=>?_)⟩
  ·rw[cM]at h;rw[if_neg (by rw[h];simp)]at D;exact D
  ·rw[cM]at h;rw[if_pos h]at D;rw[di (by omega)];exact Sy l av K d (k+1) (by omega) D
theorem af5(ag:eQ l)(K:aW)(D:K (.one (A (lT l))) []):pf oh j0 0 K [.one (af l),.one (.fn 215 [])] []:=by
 refine⟨l.length+2,?_⟩;rw[eO,aeS _ _ _];exact Sy l ag K l.length 0 (by omega) D
theorem Sz(l:aJ)(av:eQ l)(K:aW):∀(d k:Nat),k+d=l.length->K (.one (A (lU k (l.drop k)))) [] ->
  cl oh tab j0 0 K (d+1) xo (Ks (k:Int) (((len l):Nat):Int) 0 l)
 |0,k,ad,D=>by
  rw[bW (L:=xo),T8 rfl rfl];refine co (by simp only[len];omega) ?_;rw[List.drop_of_length_le (by omega)]at D;exact D
 |d+1,k,ad,D=>by
  have nU:=av;unfold eQ at nU;rw[bW (L:=xo),T8 rfl rfl];rw[ep (by omega) (z.H z.int)]at D;simp only[lU]at D;refine cS (by simp only[len];omega) ⟨⟨by omega,by simp only[len];omega⟩,eF (fun h=>?_) (fun h=>?_)⟩
  ·rw[cM]at h;rw[if_neg (by rw[h];simp)]at D;exact D
  ·rw[cM]at h;rw[if_pos h]at D;rw[di (by omega)];exact Sz l av K d (k+1) (by omega) D
theorem af6(ag:eQ l)(K:aW)(D:K (.one (A (lT l))) []):pf oh j0 0 K [.one (af l),.one (.fn 125 [])] []:=by
 refine⟨l.length+2,?_⟩;rw[eO,aeT _ _ _];exact Sz l ag K l.length 0 (by omega) D
theorem SA(l:aJ)(av:eQ l)(K:aW):∀(d k:Nat),k+d=l.length->K (.one (A (lU k (l.drop k)))) [] ->
  cl oh tab j0 0 K (d+1) xp (Kt (k:Int) (((len l):Nat):Int) 0 l)
 |0,k,ad,D=>by
  rw[bW (L:=xp),T9 rfl rfl];refine co (by simp only[len];omega) ?_;rw[List.drop_of_length_le (by omega)]at D;exact D
 |d+1,k,ad,D=>by
  have nU:=av;unfold eQ at nU;rw[bW (L:=xp),T9 rfl rfl];rw[ep (by omega) (z.H z.int)]at D;simp only[lU]at D;refine cS (by simp only[len];omega) ⟨⟨by omega,by simp only[len];omega⟩,eF (fun h=>?_) (fun h=>?_)⟩
  ·rw[cM]at h;rw[if_neg (by rw[h];simp)]at D;exact D
  ·rw[cM]at h;rw[if_pos h]at D;rw[di (by omega)];exact SA l av K d (k+1) (by omega) D
theorem af7(ag:eQ l)(K:aW)(D:K (.one (A (lT l))) []):pf oh j0 0 K [.one (af l),.one (.fn 108 [])] []:=by
 refine⟨l.length+2,?_⟩;rw[eO,aeU _ _ _];exact SA l ag K l.length 0 (by omega) D
theorem ahi:bw 152 FP:=hN adm Tryz.func152 (by kernel_rfl) (by
 intro vs ar p v dB h ag;unfold FP at h;split at h
 ·split at h
  ·rename_i eP;have eP:=Nat.eq_of_beq_eq_true eP;subst eP;cases h;exact⟨by kernel_rfl,rfl,.inl (af5 _ ag.1 _ ⟨rfl,rfl⟩)⟩
  ·split at h
   ·rename_i eP;have eP:=Nat.eq_of_beq_eq_true eP;subst eP;cases h;exact⟨by kernel_rfl,rfl,.inl (af6 _ ag.1 _ ⟨rfl,rfl⟩)⟩
   ·split at h
    ·rename_i eP;have eP:=Nat.eq_of_beq_eq_true eP;subst eP;cases h;exact⟨by kernel_rfl,rfl,.inl (af7 _ ag.1 _ ⟨rfl,rfl⟩)⟩
    ·cases h
 ·cases h)

def OA:bd
 |[.one (.E (.list .int) l),.one (.fn f [])],[]=>(match Nat.beq f 215 with|true=>some (some (eQ l),.one (ay (!cK l)),[])|false=>(match Nat.beq f 125 with|true=>some (some (eQ l),.one (ay (!cK l)),[])|false=>(match Nat.beq f 108 with|true=>some (some (eQ l),.one (ay (!cK l)),[])|false=>none)))
 |_,_=>none
def vO:Ctx:=[(152,FP),(215,BR),(125,BU),(108,BZ)]
theorem adp:fz Tryz.prog tab vO:=((((bv.f L8).f L4).f Wd).f ahi)
theorem aeZ(l:aJ)(rec:bZ)(K:aW) v0 (b0:v0=lT l):b7 vO tab rC 0 K rec [.code (bF rC)] (df [.one (af l),.one (.fn 215 [])] [])=(
 List.length l<=140737488355328 /\
 K (.one (ay (dc 0 v0))) []):=by subst_vars;kernel_rfl

theorem ae0(l:aJ)(rec:bZ)(K:aW) v0 (b0:v0=lT l):b7 vO tab rC 0 K rec [.code (bF rC)] (df [.one (af l),.one (.fn 125 [])] [])=(
 List.length l<=140737488355328 /\
 K (.one (ay (dc 0 v0))) []):=by subst_vars;kernel_rfl

theorem ae1(l:aJ)(rec:bZ)(K:aW) v0 (b0:v0=lT l):b7 vO tab rC 0 K rec [.code (bF rC)] (df [.one (af l),.one (.fn 108 [])] [])=(
 List.length l<=140737488355328 /\
 K (.one (ay (dc 0 v0))) []):=by subst_vars;kernel_rfl

theorem CL:∀(l:aJ) (k:Int),0<=k->dc 0 (lU k l)=!cK l
 |[],k,ad=>by simp[lU,cK,dc]
 |w::l,k,ad=>by
  simp only[lU,cK,List.all_cons];cases h:eS w with
  |true=>simpa[cK]using CL l (k+1) (by omega)
  |false=>simp[dc,ad]
theorem af9(ag:eQ l)(K:aW)(D:K (.one (ay (!cK l))) []):pf vO rC 0 K [.one (af l),.one (.fn 215 [])] []:=by
 refine⟨1,?_⟩;rw[eO,aeZ _ _ _ _ rfl];refine⟨ag,?_⟩;rw[show dc 0 (lT l)=!cK l from CL l 0 (by omega)];exact D
theorem aga(ag:eQ l)(K:aW)(D:K (.one (ay (!cK l))) []):pf vO rC 0 K [.one (af l),.one (.fn 125 [])] []:=by
 refine⟨1,?_⟩;rw[eO,ae0 _ _ _ _ rfl];refine⟨ag,?_⟩;rw[show dc 0 (lT l)=!cK l from CL l 0 (by omega)];exact D
theorem agb(ag:eQ l)(K:aW)(D:K (.one (ay (!cK l))) []):pf vO rC 0 K [.one (af l),.one (.fn 108 [])] []:=by
 refine⟨1,?_⟩;rw[eO,ae1 _ _ _ _ rfl];refine⟨ag,?_⟩;rw[show dc 0 (lT l)=!cK l from CL l 0 (by omega)];exact D
theorem L9:bw 107 OA:=hN adp Tryz.func107 (by kernel_rfl) (by
 intro vs ar p v dB h ag;unfold OA at h;split at h
 ·split at h
  ·rename_i eP;have eP:=Nat.eq_of_beq_eq_true eP;subst eP;cases h;exact⟨by kernel_rfl,rfl,.inl (af9 _ ag.1 _ ⟨rfl,rfl⟩)⟩
  ·split at h
   ·rename_i eP;have eP:=Nat.eq_of_beq_eq_true eP;subst eP;cases h;exact⟨by kernel_rfl,rfl,.inl (aga _ ag.1 _ ⟨rfl,rfl⟩)⟩
   ·split at h
    ·rename_i eP;have eP:=Nat.eq_of_beq_eq_true eP;subst eP;cases h;exact⟨by kernel_rfl,rfl,.inl (agb _ ag.1 _ ⟨rfl,rfl⟩)⟩
    ·cases h
 ·cases h)

def FL:bd
 |[.agg [.E .int mk,.E .int a8,.E .int ba,.E .int bD,.E .int cg,.E (.list .int) bT,.E .bool cy]],[]=>some (none,.one (A (gd ⟨mk,a8,ba,bD,cg,bT,cy⟩)),[])
 |_,_=>none

theorem Wh:bw 50 FL:=b2 0 ((bv.f L8).f L9) Tryz.func50 (by kernel_rfl) fun vs ar=>by
 unfold FL;split;rotate_left;trivial;rename_i mk a8 ba bD cg bT cy;refine⟨by kernel_rfl,fun K D=>?_⟩;refine⟨1,?_⟩;refine ck (fun rec=>(by kernel_rfl:_=(
  J (aN mk 1)
  (K (.one (A 3)) [])
  (J (aN 7 mk)
  (K (.one (A 3)) [])
  (J (aN a8 0)
  (K (.one (A 3)) [])
  (J (dc 4 a8)
  (K (.one (A 3)) [])
  (J (aN ba 1)
  (K (.one (A 3)) [])
  (J (aN 8 ba)
  (K (.one (A 3)) [])
  (J (aN bD 0)
  (K (.one (A 3)) [])
  (J (aN 40 bD)
  (K (.one (A 3)) [])
  (J (aN cg 0)
  (K (.one (A 3)) [])
  (J (aN 60 cg)
  (K (.one (A 3)) [])
  (J (aN 8 (len bT:Int))
  (K (.one (A 3)) [])
  (List.length bT<=140737488355328 /\
  J (!(cK bT))
  (K (.one (A 3)) [])
  (K (.one (A 0)) []))))))))))))))) ?_
 unfold gd at D;simp only at D;refine bq (fun I=>?_) (fun I=>bq (fun G=>?_) (fun G=>bq (fun ab=>?_) (fun ab=>cn (fun aV=>?_) (fun aV=>bq (fun br=>?_) (fun br=>bq (fun bV=>?_) (fun bV=>bq (fun dm=>?_) (fun dm=>bq (fun dZ=>?_) (fun dZ=>bq (fun iE=>?_) (fun iE=>bq (fun pF=>?_) (fun pF=>bq (fun m2=>?_) (fun m2=>⟨?_,eF (fun oJ=>?_) (fun oJ=>?_)⟩)))))))))))
 all_goals try rw[fV]at aV
 all_goals try rw[eC]at aV
 ·rw[if_pos (by omega)]at D;exact D
 ·rw[if_pos (by omega)]at D;exact D
 ·rw[if_pos (by omega)]at D;exact D
 ·rw[if_pos (by omega)]at D;exact D
 ·rw[if_pos (by omega)]at D;exact D
 ·rw[if_pos (by omega)]at D;exact D
 ·rw[if_pos (by omega)]at D;exact D
 ·rw[if_pos (by omega)]at D;exact D
 ·rw[if_pos (by omega)]at D;exact D
 ·rw[if_pos (by omega)]at D;exact D
 ·rw[if_pos (by simp only[len]at m2;omega)]at D;exact D
 ·simp only[len]at m2;omega
 ·rw[if_neg (by simp only[len]at m2;omega)]at D;have:cK bT=false:=by simpa using oJ
  rw[if_neg (by rw[this];simp)]at D;exact D
 ·rw[if_neg (by simp only[len]at m2;omega)]at D;have:cK bT=true:=by simpa using oJ
  rw[if_pos this]at D;exact D

def Gu:bd
 |[.agg [.E (.list .str) aM,.E (.list .signed) vs,.E (.list .int) ws,.E .int fu,.E .bool up,.E .int ak,.E (.list .int) ah,.E .int aj,.E .int ai,.E (.list .bool) Y,.E (.list .bool) aa,.E (.list .aT) us,.E (.list .aU) cs,.E (.list .message) U,.E .int now]],[]=>some (none,.one (A (mV ⟨aM,vs,⟨⟨ws,fu⟩,up,⟨⟨ak,ah,aj⟩,ai⟩,Y,aa⟩,us,cs,U,now⟩)),[])
 |_,_=>none
def vR:Ctx:=[(45,Ce),(46,y4),(47,FW),(48,FG),(49,Gt),(50,FL)]
def xC:List cw:=[.inLoop [44,43,42,2,1] (cZ oC [1,1,1,1,1,0,1,0,0]),.inBlock 0,.code (cZ oC [1,1,1,1,1,1])]
def KK(F al:Int)(M:c3)(ae:Int)(ao:cB)(aE:cD)(aH:aJ)(aS:Int)(aZ:Bool)(bc:Int)(bn:aJ)(bo bm:Int)(bC bJ:c9)(bI:c3)(bM:db)(bz:cG)(bS:Int):bP:=⟨[(44,.one (A F)),(43,.one (A al)),(42,.one (.E (z.list z.aT) M)),(2,.one (A ae)),(1,.one (.ptr 0 0))],[(0,.box [.E (z.list z.str) ao,.E (z.list z.signed) aE,af aH,A aS,ay aZ,A bc,af bn,A bo,A bm,bj bC,bj bJ,.E (z.list z.aT) bI,.E (z.list z.aU) bM,bB bz,A bS])],1⟩
def xD:List cw:=[.inLoop [67,66,65,2,1] (cZ oC [1,1,1,1,1,1,1,0,1,0,0]),.inBlock 2,.code (cZ oC [1,1,1,1,1,1,1,1])]
def KL(F al:Int)(M:db)(ae:Int)(ao:cB)(aE:cD)(aH:aJ)(aS:Int)(aZ:Bool)(bc:Int)(bn:aJ)(bo bm:Int)(bC bJ:c9)(bI:c3)(bM:db)(bz:cG)(bS:Int):bP:=⟨[(67,.one (A F)),(66,.one (A al)),(65,.one (.E (z.list z.aU) M)),(2,.one (A ae)),(1,.one (.ptr 0 0))],[(0,.box [.E (z.list z.str) ao,.E (z.list z.signed) aE,af aH,A aS,ay aZ,A bc,af bn,A bo,A bm,bj bC,bj bJ,.E (z.list z.aT) bI,.E (z.list z.aU) bM,bB bz,A bS])],1⟩
def xE:List cw:=[.inLoop [86,85,84,2,1] (cZ oC [1,1,1,1,1,1,1,1,0,1,0,0]),.inBlock 4,.code (cZ oC [1,1,1,1,1,1,1,1,1])]
def KM(F al:Int)(M:cG)(ae:Int)(ao:cB)(aE:cD)(aH:aJ)(aS:Int)(aZ:Bool)(bc:Int)(bn:aJ)(bo bm:Int)(bC bJ:c9)(bI:c3)(bM:db)(bz:cG)(bS:Int):bP:=⟨[(86,.one (A F)),(85,.one (A al)),(84,.one (bB M)),(2,.one (A ae)),(1,.one (.ptr 0 0))],[(0,.box [.E (z.list z.str) ao,.E (z.list z.signed) aE,af aH,A aS,ay aZ,A bc,af bn,A bo,A bm,bj bC,bj bJ,.E (z.list z.aT) bI,.E (z.list z.aU) bM,bB bz,A bS])],1⟩
theorem Us{F:Int}{rec:bZ}{K:aW}{al M ae ao aE aH aS aZ bc bn bo bm bC bJ bI bM bz bS}{v1 v0}(cd:v1=fun a=>KK a al M ae ao aE aH aS aZ bc bn bo bm bC bJ bI bM bz bS)(b0:v0=eZ ⟨(nth M (Int.toNat F) (z.H z.aT)).f,(nth M (Int.toNat F) (z.H z.aT)).up,(nth M (Int.toNat F) (z.H z.aT)).n,(nth M (Int.toNat F) (z.H z.aT)).eE⟩):b7 vR tab oC 0 K rec (cQ xC) (v1 F)=(
 J (aN F al)
 (((0:Int)<=F/\F<(len M:Int)) /\
 J (!(au v0 0))
 (K (.one (A v0)) [])
 (rec xC (v1 (W (F+1)))))
 (J (aN 8 (len bM:Int))
 (K (.one (A 2)) [])
 (J (aN 24 (len bz:Int))
 (K (.one (A 2)) [])
 (rec xD (KL 0 (len bM:Int) bM ae ao aE aH aS aZ bc bn bo bm bC bJ bI bM bz bS))))):=by subst_vars;kernel_rfl
theorem Ut{F:Int}{rec:bZ}{K:aW}{al M ae ao aE aH aS aZ bc bn bo bm bC bJ bI bM bz bS}{v1 v0}(cd:v1=fun a=>KL a al M ae ao aE aH aS aZ bc bn bo bm bC bJ bI bM bz bS)(b0:v0=nE ⟨(nth M (Int.toNat F) (z.H z.aU)).n,(nth M (Int.toNat F) (z.H z.aU)).r,(nth M (Int.toNat F) (z.H z.aU)).cL⟩ (W (F+1)) (Int.toNat (len bI:Int))):b7 vR tab oC 0 K rec (cQ xD) (v1 F)=(
 J (aN F al)
 (((0:Int)<=F/\F<(len M:Int)) /\
 ((0:Int)<=(len bI:Int)/\(len bI:Int)<=(1000:Int)) /\
 J (!(au v0 0))
 (K (.one (A v0)) [])
 (rec xD (v1 (W (F+1)))))
 (rec xE (KM 0 (len bz:Int) bz ae ao aE aH aS aZ bc bn bo bm bC bJ bI bM bz bS))):=by subst_vars;kernel_rfl
theorem Uu{F:Int}{rec:bZ}{K:aW}{al M ae ao aE aH aS aZ bc bn bo bm bC bJ bI bM bz bS}{v1 v0}(cd:v1=fun a=>KM a al M ae ao aE aH aS aZ bc bn bo bm bC bJ bI bM bz bS)(b0:v0=gd (nth M (Int.toNat F) (z.H z.message))):b7 vR tab oC 0 K rec (cQ xE) (v1 F)=(
 J (aN F al)
 (((0:Int)<=F/\F<(len M:Int)) /\
 J (!(au v0 0))
 (K (.one (A v0)) [])
 (J (dc (len bI:Int) (nth M (Int.toNat F) (z.H z.message)).unit)
 (K (.one (A 5)) [])
 (rec xE (v1 (W (F+1))))))
 (J (aN bS 0)
 (K (.one (A 3)) [])
 (J (aN 100000 bS)
 (K (.one (A 3)) [])
 (K (.one (A 0)) [])))):=by subst_vars;kernel_rfl

theorem Sj(aM:cB)(vs:cD)(ws:aJ)(fu:Int)(up:Bool)(ak:Int)(ah:aJ)(aj ai:Int)(Y aa:c9)(us:c3)(cs:db)(U:cG)(now:Int)(aq:U.length<=24)(K:aW)(ae:Int):∀(d k:Nat),k+d=U.length->K (.one (A (hI us.length (U.drop k) now))) [] ->
  cl vR tab oC 0 K (d+1) xE (KM (k:Int) (((len U):Nat):Int) U ae aM vs ws fu up ak ah aj ai Y aa us cs U now)
 |0,k,ad,D=>by
  rw[bW (L:=xE),Uu rfl rfl];rw[List.drop_of_length_le (by omega)]at D;refine co (by simp only[len];omega) (bq (fun h=>?_) (fun h=>bq (fun G=>?_) (fun G=>?_)))
  ·rw[show hI us.length [] now=3 from(show hI us.length [] now=ur now from rfl).trans (if_pos (.inl h))]at D;exact D
  ·rw[show hI us.length [] now=3 from(show hI us.length [] now=ur now from rfl).trans (if_pos (.inr G))]at D;exact D
  ·rw[show hI us.length [] now=0 from(show hI us.length [] now=ur now from rfl).trans (if_neg (by omega))]at D;exact D
 |d+1,k,ad,D=>by
  rw[bW (L:=xE),Uu rfl rfl,cM,di (by omega)];rw[ep (by omega) (z.H z.message)]at D;obtain⟨m,aB⟩:∃m,nth U k (z.H z.message)=m:=⟨_,rfl⟩
  rw[aB]at D |-;refine cS (by simp only[len];omega) ⟨⟨by omega,by simp only[len];omega⟩,bN (fun h=>?_) (fun h=>cn (fun G=>?_) (fun G=>?_))⟩
  ·have e:mU us.length (m::U.drop (k+1))=gd m:=if_neg h;rw[show hI us.length (m::U.drop (k+1)) now=gd m from by unfold hI;rw[e,if_neg h]]at D;exact D
  ·rw[fV]at G;have e:mU us.length (m::U.drop (k+1))=5:=(if_pos h).trans (if_pos G);rw[show hI us.length (m::U.drop (k+1)) now=5 from by unfold hI;rw[e];rfl]at D;exact D
  ·rw[eC]at G;have e:mU us.length (m::U.drop (k+1))=mU us.length (U.drop (k+1)):=(if_pos h).trans (if_neg (by simp only[len]at G;omega));rw[show hI us.length (m::U.drop (k+1)) now=hI us.length (U.drop (k+1)) now from by unfold hI;rw[e]]at D;exact Sj aM vs ws fu up ak ah aj ai Y aa us cs U now aq K ae d (k+1) (by omega) D
theorem Sf(aM:cB)(vs:cD)(ws:aJ)(fu:Int)(up:Bool)(ak:Int)(ah:aJ)(aj ai:Int)(Y aa:c9)(us:c3)(cs:db)(U:cG)(now:Int)(aq:U.length<=24)(az:cs.length<=8)(hu:us.length<=4)(K:aW)(ae:Int):∀(d k:Nat),k+d=cs.length->K (.one (A (my us.length ((k+1:Nat):Int) (cs.drop k) U now))) [] ->
  cl vR tab oC 0 K (U.length+1+d+1) xD (KL (k:Int) (((len cs):Nat):Int) cs ae aM vs ws fu up ak ah aj ai Y aa us cs U now)
 |0,k,ad,D=>by
  rw[bW (L:=xD),Ut rfl rfl];rw[List.drop_of_length_le (by omega)]at D;exact co (by simp only[len];omega) (Sj aM vs ws fu up ak ah aj ai Y aa us cs U now aq K ae U.length 0 (by omega) D)
 |d+1,k,ad,D=>by
  rw[show U.length+1+(d+1)+1=(U.length+1+d+1)+1 by omega,bW (L:=xD),Ut rfl rfl,cM,di (by omega),cM];rw[ep (by omega) (z.H z.aU)]at D;obtain⟨c,aB⟩:∃c,nth cs k (z.H z.aU)=c:=⟨_,rfl⟩
  rw[aB]at D |-;refine cS (by simp only[len];omega) ⟨⟨by omega,by simp only[len];omega⟩,⟨by omega,by simp only[len];omega⟩,bN (fun h=>?_) (fun h=>?_)⟩
  ·have e:nF us.length ((k+1:Nat):Int) (c::cs.drop (k+1))=nE c ((k+1:Nat):Int) us.length:=if_neg h;rw[show my us.length ((k+1:Nat):Int) (c::cs.drop (k+1)) U now=nE c ((k+1:Nat):Int) us.length from by unfold my;rw[e];exact if_neg h]at D;exact D
  ·have e:nF us.length ((k+1:Nat):Int) (c::cs.drop (k+1))=nF us.length ((k+1+1:Nat):Int) (cs.drop (k+1)):=if_pos h;rw[show my us.length ((k+1:Nat):Int) (c::cs.drop (k+1)) U now=my us.length ((k+1+1:Nat):Int) (cs.drop (k+1)) U now from by unfold my;rw[e]]at D;exact Sf aM vs ws fu up ak ah aj ai Y aa us cs U now aq az hu K ae d (k+1) (by omega) D
theorem R5(aM:cB)(vs:cD)(ws:aJ)(fu:Int)(up:Bool)(ak:Int)(ah:aJ)(aj ai:Int)(Y aa:c9)(us:c3)(cs:db)(U:cG)(now:Int)(hu:us.length<=4)(K:aW)(ae:Int)(q:Nat)(aI:U.length<=24->cs.length<=8->q=U.length+1+cs.length):∀(d k:Nat),k+d=us.length->K (.one (A (kz us.length (us.drop k) cs U now))) [] ->
  cl vR tab oC 0 K (q+1+d+1) xC (KK (k:Int) (((len us):Nat):Int) us ae aM vs ws fu up ak ah aj ai Y aa us cs U now)
 |0,k,ad,D=>by
  rw[bW (L:=xC),Us rfl rfl];rw[List.drop_of_length_le (by omega)]at D;refine co (by simp only[len];omega) (bq (fun h=>?_) (fun h=>bq (fun G=>?_) (fun G=>?_)))
  ·rw[show kz us.length [] cs U now=2 from(show kz us.length [] cs U now=uq us.length cs U now from rfl).trans (if_pos (.inl (by simp only[len]at h;omega)))]at D;exact D
  ·rw[show kz us.length [] cs U now=2 from(show kz us.length [] cs U now=uq us.length cs U now from rfl).trans (if_pos (.inr (by simp only[len]at G;omega)))]at D;exact D
  ·rw[show kz us.length [] cs U now=my us.length 1 cs U now from(show kz us.length [] cs U now=uq us.length cs U now from rfl).trans (if_neg (by simp only[len]at h G;omega))]at D;have a:U.length<=24:=by simp only[len]at G;omega
   have b:cs.length<=8:=by simp only[len]at h;omega
   rw[aI a b];exact Sf aM vs ws fu up ak ah aj ai Y aa us cs U now a b hu K ae cs.length 0 (by omega) D
 |d+1,k,ad,D=>by
  rw[show q+1+(d+1)+1=(q+1+d+1)+1 by omega,bW (L:=xC),Us rfl rfl,cM,di (by omega)];rw[ep (by omega) (z.H z.aT)]at D;obtain⟨u,aB⟩:∃u,nth us k (z.H z.aT)=u:=⟨_,rfl⟩
  rw[aB]at D |-;refine cS (by simp only[len];omega) ⟨⟨by omega,by simp only[len];omega⟩,bN (fun h=>?_) (fun h=>?_)⟩
  ·have e:ow (u::us.drop (k+1))=eZ u:=if_neg h;rw[show kz us.length (u::us.drop (k+1)) cs U now=eZ u from by unfold kz;rw[e];exact if_neg h]at D;exact D
  ·have e:ow (u::us.drop (k+1))=ow (us.drop (k+1)):=if_pos h;rw[show kz us.length (u::us.drop (k+1)) cs U now=kz us.length (us.drop (k+1)) cs U now from by unfold kz;rw[e]]at D;exact R5 aM vs ws fu up ak ah aj ai Y aa us cs U now hu K ae q aI d (k+1) (by omega) D
theorem ahT:bw 10 Gu:=b2 (Γ:=vR) 0 ((((((bv.f Wh).f ahS).f AV).f yq).f L2).f Ep) Tryz.func10 (by kernel_rfl) fun vs ar=>by
 unfold Gu;split;rotate_left;trivial;rename_i aM vs ws fu up ak ah aj ai Y aa us cs U now;refine⟨by kernel_rfl,fun K D=>?_⟩;refine⟨(U.length+1+cs.length)+1+us.length+2,?_⟩;refine ck (fun rec=>(by kernel_rfl:_=(
  J (!(au (fH aM) 0))
  (K (.one (A (fH aM))) [])
  (J (!(au (iq vs) 0))
  (K (.one (A (iq vs))) [])
  (J (!(au (dM ⟨⟨ws,fu⟩,up,⟨⟨ak,ah,aj⟩,ai⟩,Y,aa⟩) 0))
  (K (.one (A (dM ⟨⟨ws,fu⟩,up,⟨⟨ak,ah,aj⟩,ai⟩,Y,aa⟩))) [])
  (J (!(au (len us:Int) (len Y:Int)))
  (K (.one (A 4)) [])
  (rec xC (KK 0 (len us:Int) us 0 aM vs ws fu up ak ah aj ai Y aa us cs U now)))))))) ?_
 unfold mV at D;simp only at D;refine bN (fun h=>?_) (fun h=>bN (fun G=>?_) (fun G=>bN (fun ab=>?_) (fun ab=>bN (fun aV=>?_) (fun aV=>?_))))
 ·rw[if_neg h]at D;exact D
 ·rw[if_pos h,if_neg G]at D;exact D
 ·rw[if_pos h,if_pos G,if_neg ab]at D;exact D
 ·rw[if_pos h,if_pos G,if_pos ab,if_neg (by simp only[len]at aV;omega)]at D;exact D
 ·rw[if_pos h,if_pos G,if_pos ab,if_pos (by simp only[len]at aV;omega)]at D;obtain⟨_,a,b,_⟩:=im ab;simp only at a b;exact R5 aM vs ws fu up ak ah aj ai Y aa us cs U now (by simp only[len]at aV;omega) K 0 (U.length+1+cs.length) (fun _ _=>rfl) us.length 0 (by omega) D

def B3:bd
 |[.one (.E (.list .str) l)],[]=>some (some (len l*16<=140737488355328),.one (.E (z.list z.str) l),[])
 |_,_=>none

theorem Wv:bw 51 B3:=b2 0 bv Tryz.func51 (by kernel_rfl) fun vs ar=>by
 unfold B3;split;rotate_left;trivial;rename_i l;refine⟨by kernel_rfl,fun ag K D=>?_⟩;refine⟨1,?_⟩;refine ck (fun rec=>(by kernel_rfl:_=(
  (∀fD:Bool,(fD=true->len l=0)->J fD
  (K (.one (.E (z.list z.str) [])) [])
  ((0+len l)*16<=140737488355328 /\
  K (.one (.E (z.list z.str) (cat [] l))) []))))) ?_
 intro fD aA;refine cn (fun h=>?_) (fun h=>⟨by simp only[len]at ag |-; omega,D⟩);have:l=[]:=List.length_eq_zero_iff.1 (aA h);subst this;exact D

def B4:bd
 |[.one (.E (.list .signed) l)],[]=>some (some (len l*16<=140737488355328),.one (.E (z.list z.signed) l),[])
 |_,_=>none

theorem Ww:bw 52 B4:=b2 0 bv Tryz.func52 (by kernel_rfl) fun vs ar=>by
 unfold B4;split;rotate_left;trivial;rename_i l;refine⟨by kernel_rfl,fun ag K D=>?_⟩;refine⟨1,?_⟩;refine ck (fun rec=>(by kernel_rfl:_=(
  (∀fD:Bool,(fD=true->len l=0)->J fD
  (K (.one (.E (z.list z.signed) [])) [])
  ((0+len l)*16<=140737488355328 /\
  K (.one (.E (z.list z.signed) (cat [] l))) []))))) ?_
 intro fD aA;refine cn (fun h=>?_) (fun h=>⟨by simp only[len]at ag |-; omega,D⟩);have:l=[]:=List.length_eq_zero_iff.1 (aA h);subst this;exact D

def y6:bd
 |[.one (.E (.list .int) l)],[]=>some (some (len l*8<=140737488355328),.one (.own 0),[.arr .int l])
 |_,_=>none

theorem vu:bw 60 y6:=mh 0 bv Tryz.func60 (by kernel_rfl) fun vs ar=>by
 unfold y6;split;rotate_left;trivial;rename_i l;refine⟨by kernel_rfl,fun ag K D=>?_⟩;refine⟨1,?_⟩;refine kD (fun rec=>(by kernel_rfl:_=(
  (∀fD:Bool,(fD=true->len l=0)->J fD
  (K (.one (.own 0)) [.arr z.int []])
  ((0+len l)*8<=140737488355328 /\
  K (.one (.own 0)) [.arr z.int (cat [] l)]))))) ?_
 intro fD aA;refine cn (fun h=>?_) (fun h=>⟨by simp only[len]at ag |-; omega,D⟩);have:l=[]:=List.length_eq_zero_iff.1 (aA h);subst this;exact D

def Ov:bd
 |[.agg [.E (.list .int) ws,.E .int fu]],[]=>some (some (len ws*8<=140737488355328),.agg [af ws,A fu],[])
 |_,_=>none

theorem Wk:bw 109 Ov:=b2 0 (bv.f vu) Tryz.func109 (by kernel_rfl) fun vs ar=>by
 unfold Ov;split;rotate_left;trivial;rename_i ws fu;refine⟨by kernel_rfl,fun ag K D=>?_⟩;refine⟨1,?_⟩;refine ck (fun rec=>(by kernel_rfl:_=(
  len ws*8<=140737488355328 /\
  K (.agg [af ws,A fu]) []))) ?_
 exact⟨ag,D⟩

def y5:bd
 |[.one (.E (.list .int) l)],[]=>some (some (len l*8<=140737488355328),.one (af l),[])
 |_,_=>none

theorem yp:bw 60 y5:=b2 0 bv Tryz.func60 (by kernel_rfl) fun vs ar=>by
 unfold y5;split;rotate_left;trivial;rename_i l;refine⟨by kernel_rfl,fun ag K D=>?_⟩;refine⟨1,?_⟩;refine ck (fun rec=>(by kernel_rfl:_=(
  (∀fD:Bool,(fD=true->len l=0)->J fD
  (K (.one (af [])) [])
  ((0+len l)*8<=140737488355328 /\
  K (.one (af (cat [] l))) []))))) ?_
 intro fD aA;refine cn (fun h=>?_) (fun h=>⟨by simp only[len]at ag |-; omega,D⟩);have:l=[]:=List.length_eq_zero_iff.1 (aA h);subst this;exact D

def Ow:bd
 |[.one (.E (.list .bool) l)],[]=>some (some (len l<=1000),.one (.own 0),[.arr .bool l])
 |_,_=>none

theorem Wl:bw 110 Ow:=mh 0 bv Tryz.func110 (by kernel_rfl) fun vs ar=>by
 unfold Ow;split;rotate_left;trivial;rename_i l;refine⟨by kernel_rfl,fun ag K D=>?_⟩;refine⟨1,?_⟩;refine kD (fun rec=>(by kernel_rfl:_=(
  (∀fD:Bool,(fD=true->len l=0)->J fD
  (K (.one (.own 0)) [.arr z.bool []])
  ((0+len l)*1<=140737488355328 /\
  K (.one (.own 0)) [.arr z.bool (cat [] l)]))))) ?_
 intro fD aA;refine cn (fun h=>?_) (fun h=>⟨by simp only[len]at ag |-; omega,D⟩);have:l=[]:=List.length_eq_zero_iff.1 (aA h);subst this;exact D

def Gq:bd
 |[.agg [.E (.list .int) ws,.E .int fu,.E .bool up,.E .int ak,.E (.list .int) ah,.E .int aj,.E .int ai,.E (.list .bool) Y,.E (.list .bool) aa]],[]=>some (some (len ws*8<=140737488355328/\len ah*8<=140737488355328/\len Y<=1000/\len aa<=1000),.agg [af ws,A fu,ay up,A ak,af ah,A aj,A ai,bj Y,bj aa],[])
 |_,_=>none

theorem ahQ:bw 53 Gq:=b2 0 (((bv.f Wl).f yp).f Wk) Tryz.func53 (by kernel_rfl) fun vs ar=>by
 unfold Gq;split;rotate_left;trivial;rename_i ws fu up ak ah aj ai Y aa;refine⟨by kernel_rfl,fun ag K D=>?_⟩;refine⟨1,?_⟩;refine ck (fun rec=>(by kernel_rfl:_=(
  len ws*8<=140737488355328 /\
  len ah*8<=140737488355328 /\
  len Y<=1000 /\
  len aa<=1000 /\
  K (.agg [af ws,A fu,ay up,A ak,af ah,A aj,A ai,bj Y,bj aa]) []))) ?_
 exact⟨ag.1,ag.2.1,ag.2.2.1,ag.2.2.2,D⟩

def Gl:bd
 |[.one (.E (.list .aT) l)],[]=>some (some (len l*56<=140737488355328),.one (.own 0),[.arr .aT l])
 |_,_=>none

theorem ahM:bw 54 Gl:=mh 0 bv Tryz.func54 (by kernel_rfl) fun vs ar=>by
 unfold Gl;split;rotate_left;trivial;rename_i l;refine⟨by kernel_rfl,fun ag K D=>?_⟩;refine⟨1,?_⟩;refine kD (fun rec=>(by kernel_rfl:_=(
  (∀fD:Bool,(fD=true->len l=0)->J fD
  (K (.one (.own 0)) [.arr z.aT []])
  ((0+len l)*56<=140737488355328 /\
  K (.one (.own 0)) [.arr z.aT (cat [] l)]))))) ?_
 intro fD aA;refine cn (fun h=>?_) (fun h=>⟨by simp only[len]at ag |-; omega,D⟩);have:l=[]:=List.length_eq_zero_iff.1 (aA h);subst this;exact D

def G7:bd
 |[.agg [.E (.list .int) ws,.E .int fu]],[]=>some (some (len ws*8<=140737488355328),.agg [.own 0,A fu],[.arr .int ws])
 |_,_=>none

theorem AZ:bw 109 G7:=mh 0 (bv.f vu) Tryz.func109 (by kernel_rfl) fun vs ar=>by
 unfold G7;split;rotate_left;trivial;rename_i ws fu;refine⟨by kernel_rfl,fun ag K D=>?_⟩;refine⟨1,?_⟩;refine kD (fun rec=>(by kernel_rfl:_=(
  len ws*8<=140737488355328 /\
  K (.agg [.own 0,A fu]) [.arr z.int ws]))) ?_
 exact⟨ag,D⟩

def FJ:bd
 |[.agg [.E (.list .int) ws,.E .int fu,.E .bool up,.E .int bu,.E .int bx]],[]=>some (some (len ws*8<=140737488355328),.agg [af ws,A fu,ay up,A bu,A bx],[])
 |_,_=>none

theorem L5:bw 55 FJ:=b2 0 (bv.f AZ) Tryz.func55 (by kernel_rfl) fun vs ar=>by
 unfold FJ;split;rotate_left;trivial;rename_i ws fu up bu bx;refine⟨by kernel_rfl,fun ag K D=>?_⟩;refine⟨1,?_⟩;refine ck (fun rec=>(by kernel_rfl:_=(
  len ws*8<=140737488355328 /\
  K (.agg [af ws,A fu,ay up,A bu,A bx]) []))) ?_
 exact⟨ag,D⟩

def Gm:bd
 |[.one (.E (.list .aU) l)],[]=>some (some (len l*72<=140737488355328),.one (.own 0),[.arr .aU l])
 |_,_=>none

theorem ahN:bw 56 Gm:=mh 0 bv Tryz.func56 (by kernel_rfl) fun vs ar=>by
 unfold Gm;split;rotate_left;trivial;rename_i l;refine⟨by kernel_rfl,fun ag K D=>?_⟩;refine⟨1,?_⟩;refine kD (fun rec=>(by kernel_rfl:_=(
  (∀fD:Bool,(fD=true->len l=0)->J fD
  (K (.one (.own 0)) [.arr z.aU []])
  ((0+len l)*72<=140737488355328 /\
  K (.one (.own 0)) [.arr z.aU (cat [] l)]))))) ?_
 intro fD aA;refine cn (fun h=>?_) (fun h=>⟨by simp only[len]at ag |-; omega,D⟩);have:l=[]:=List.length_eq_zero_iff.1 (aA h);subst this;exact D

def B5:bd
 |[.one (.E (.list .target) l)],[]=>some (some (len l*24<=140737488355328),.one (.E (.list .target) l),[])
 |_,_=>none

theorem Wx:bw 57 B5:=b2 0 bv Tryz.func57 (by kernel_rfl) fun vs ar=>by
 unfold B5;split;rotate_left;trivial;rename_i l;refine⟨by kernel_rfl,fun ag K D=>?_⟩;refine⟨1,?_⟩;refine ck (fun rec=>(by kernel_rfl:_=(
  (∀fD:Bool,(fD=true->len l=0)->J fD
  (K (.one (.E (z.list z.target) [])) [])
  ((0+len l)*24<=140737488355328 /\
  K (.one (.E (z.list z.target) (cat [] l))) []))))) ?_
 intro fD aA;refine cn (fun h=>?_) (fun h=>⟨by simp only[len]at ag |-; omega,D⟩);have:l=[]:=List.length_eq_zero_iff.1 (aA h);subst this;exact D

def Gp:bd
 |[.one (.E (.list (.list .int)) l)],[]=>some (some (len l*24<=140737488355328),.one (.own 0),[.arr (.list .int) l])
 |_,_=>none

theorem ahP:bw 111 Gp:=mh 0 bv Tryz.func111 (by kernel_rfl) fun vs ar=>by
 unfold Gp;split;rotate_left;trivial;rename_i l;refine⟨by kernel_rfl,fun ag K D=>?_⟩;refine⟨1,?_⟩;refine kD (fun rec=>(by kernel_rfl:_=(
  (∀fD:Bool,(fD=true->len l=0)->J fD
  (K (.one (.own 0)) [.arr (z.list z.int) []])
  ((0+len l)*24<=140737488355328 /\
  K (.one (.own 0)) [.arr (z.list z.int) (cat [] l)]))))) ?_
 intro fD aA;refine cn (fun h=>?_) (fun h=>⟨by simp only[len]at ag |-; omega,D⟩);have:l=[]:=List.length_eq_zero_iff.1 (aA h);subst this;exact D

def B6:bd
 |[.one (.E (.list (.list .int)) l)],[]=>some (some (len l<=1000/\vr l=true),.one (cH l),[])
 |_,_=>none
def Nh:Ctx:=[(111,Gp),(60,y5)]
def xA:List cw:=[.inLoop [9,8,7,2,0] (Code.sub (bF Tryz.f58) [1,1,0,1,0,0]),.inBlock 0,.code (Code.sub (bF Tryz.f58) [1,1,1])]
def KI(F al:Int)(M ae:cu):bP:=⟨[(9,.one (A F)),(8,.one (A al)),(7,.one (.own 0)),(2,.one (.own 1)),(0,.one (.own 0))],[(0,.arr (z.list z.int) M),(1,.arr (z.list z.int) ae)],2⟩
theorem Uq{F:Int}{M:cu}{rec:bZ}{K:aW}{al ae}{v0}(b0:v0=fun a b=>KI a al b ae):b7 Nh tab Tryz.f58 0 K rec (cQ xA) (v0 F M)=(
 J (aN F al)
 (((0:Int)<=F/\F<(len M:Int)) /\
 Int.toNat F<len M /\
 len (nth M (Int.toNat F) (z.H (z.list z.int)))*8<=140737488355328 /\
 ((0:Int)<=F/\F<(len M:Int)) /\
 Int.toNat F<len M /\
 rec xA (v0 (W (F+1)) (setAt M (Int.toNat F) (nth M (Int.toNat F) (z.H (z.list z.int))))))
 (K (.one (cH M)) [])):=by subst_vars;kernel_rfl

theorem SJ(l:cu)(ax:l.length<=1000)(av:vr l=true)(K:aW)(ae:cu)(D:K (.one (cH l)) []):∀(d k:Nat),k+d=l.length ->
  cl Nh tab Tryz.f58 0 K (d+1) xA (KI (k:Int) (((len l):Nat):Int) l ae)
 |0,k,ad=>by
  rw[bW (L:=xA),Uq rfl];exact co (by simp only[len];omega) D
 |d+1,k,ad=>by
  rw[bW (L:=xA),Uq rfl,cM,di (by omega),Ed (by omega)];have aB:(nth l k (z.H (z.list z.int))).length<=1000:=of_decide_eq_true (List.all_eq_true.1 av _ (h9 (by omega) _));refine cS (by simp only[len];omega) ⟨⟨by omega,by simp only[len];omega⟩,by simp only[len];omega,by simp only[len];omega,⟨by omega,by simp only[len];omega⟩,by simp only[len];omega,?_⟩;exact SJ l ax av K ae D d (k+1) (by omega)
theorem Wy:bw 58 B6:=b2 (Γ:=Nh) 0 ((bv.f yp).f ahP) Tryz.func58 (by kernel_rfl) fun vs ar=>by
 unfold B6;split;rotate_left;trivial;rename_i l;refine⟨by kernel_rfl,fun ag K D=>?_⟩;refine⟨l.length+2,?_⟩;refine ck (fun rec=>(by kernel_rfl:_=(
  len l*24<=140737488355328 /\
  rec xA (KI 0 (len l:Int) l [])))) ?_
 exact⟨by omega,SJ l ag.1 ag.2 K [] D l.length 0 (by omega)⟩

def Gn:bd
 |[.one (.E (.list .message) l)],[]=>some (some (len l*72<=140737488355328),.one (.own 0),[.arr .message l])
 |_,_=>none

theorem ahO:bw 59 Gn:=mh 0 bv Tryz.func59 (by kernel_rfl) fun vs ar=>by
 unfold Gn;split;rotate_left;trivial;rename_i l;refine⟨by kernel_rfl,fun ag K D=>?_⟩;refine⟨1,?_⟩;refine kD (fun rec=>(by kernel_rfl:_=(
  (∀fD:Bool,(fD=true->len l=0)->J fD
  (K (.one (.own 0)) [.arr z.message []])
  ((0+len l)*72<=140737488355328 /\
  K (.one (.own 0)) [.arr z.message (cat [] l)]))))) ?_
 intro fD aA;refine cn (fun h=>?_) (fun h=>⟨by simp only[len]at ag |-; omega,D⟩);have:l=[]:=List.length_eq_zero_iff.1 (aA h);subst this;exact D

def Gv:bd
 |[.agg [.E (.list .str) aM,.E (.list .signed) vs,.E (.list .int) ws,.E .int fu,.E .bool up,.E .int ak,.E (.list .int) ah,.E .int aj,.E .int ai,.E (.list .bool) Y,.E (.list .bool) aa,.E (.list .aT) us,.E (.list .aU) cs,.E (.list .message) U,.E .int now]],[]=>some (some (okW ⟨aM,vs,⟨⟨ws,fu⟩,up,⟨⟨ak,ah,aj⟩,ai⟩,Y,aa⟩,us,cs,U,now⟩=true),.agg (en aM vs ws fu up ak ah aj ai Y aa (.own 0) (.own 1) (.own 2) now),[.arr .aT us,.arr .aU cs,.arr .message U])
 |_,_=>none
def vS:Ctx:=[(51,B3),(52,B4),(53,Gq),(54,Gl),(55,FJ),(56,Gm),(57,B5),(58,B6),(59,Gn),(60,y5)]
def xF:List cw:=[.inLoop [30,29,28,2,1] (cZ oD [1,1,1,1,0,1,0,0]),.inBlock 0,.code (cZ oD [1,1,1,1,1])]
def KN(F al:Int)(M:c3)(ae:Int)(ao:Bool)(aE aH aS aZ:Int)(bc:cB)(bn:cD)(bo:aJ)(bm:Int)(bC:Bool)(bJ:Int)(bI:aJ)(bM bz:Int)(bS bY:c9)(cq:db)(cv:cG)(cN:Int)(c0:cB)(c5:cD)(dq dt:aJ)(dH dI:c9)(dr:c3)(dD:db)(dx:cG):bP:=⟨[(30,.one (A F)),(29,.one (A al)),(28,.one (.own 0)),(2,.one (.ptr 1 0)),(1,.one (.ptr 2 0))],[(0,.arr z.aT M),(1,.box [.own 3,.own 4,.own 5,A ae,ay ao,A aE,.own 6,A aH,A aS,.own 7,.own 8,.own 9,.own 10,.own 11,A aZ]),(2,.box [.E (z.list z.str) bc,.E (z.list z.signed) bn,af bo,A bm,ay bC,A bJ,af bI,A bM,A bz,bj bS,bj bY,.own 0,.E (z.list z.aU) cq,bB cv,A cN]),(3,.arr z.str c0),(4,.arr z.signed c5),(5,.arr z.int dq),(6,.arr z.int dt),(7,.arr z.bool dH),(8,.arr z.bool dI),(9,.arr z.aT dr),(10,.arr z.aU dD),(11,.arr z.message dx)],12⟩
def xG:List cw:=[.inLoop [49,48,47,2,1] (cZ oD [1,1,1,1,1,1,0,1,0,0]),.inBlock 2,.code (cZ oD [1,1,1,1,1,1,1])]
def KO(F al:Int)(M:db)(ae:Int)(ao:Bool)(aE aH aS aZ:Int)(bc:cB)(bn:cD)(bo:aJ)(bm:Int)(bC:Bool)(bJ:Int)(bI:aJ)(bM bz:Int)(bS bY:c9)(cq:cG)(cv:Int)(cN:cB)(c0:cD)(c5 dq:aJ)(dt dH:c9)(dI:c3)(dr:db)(dD:cG)(dx:c3):bP:=⟨[(49,.one (A F)),(48,.one (A al)),(47,.one (.own 0)),(2,.one (.ptr 1 0)),(1,.one (.ptr 2 0))],[(0,.arr z.aU M),(1,.box [.own 3,.own 4,.own 5,A ae,ay ao,A aE,.own 6,A aH,A aS,.own 7,.own 8,.own 9,.own 10,.own 11,A aZ]),(2,.box [.E (z.list z.str) bc,.E (z.list z.signed) bn,af bo,A bm,ay bC,A bJ,af bI,A bM,A bz,bj bS,bj bY,.own 12,.own 0,bB cq,A cv]),(3,.arr z.str cN),(4,.arr z.signed c0),(5,.arr z.int c5),(6,.arr z.int dq),(7,.arr z.bool dt),(8,.arr z.bool dH),(9,.arr z.aT dI),(10,.arr z.aU dr),(11,.arr z.message dD),(12,.arr z.aT dx)],13⟩
def xH:List cw:=[.inLoop [80,79,78,2,1] (cZ oD [1,1,1,1,1,1,1,1,0,1,0,0]),.inBlock 4,.code (cZ oD [1,1,1,1,1,1,1,1,1])]
def KP(F al:Int)(M:cG)(ae:Int)(ao:Bool)(aE aH aS aZ:Int)(bc:cB)(bn:cD)(bo:aJ)(bm:Int)(bC:Bool)(bJ:Int)(bI:aJ)(bM bz:Int)(bS bY:c9)(cq:Int)(cv:cB)(cN:cD)(c0 c5:aJ)(dq dt:c9)(dH:c3)(dI:db)(dr:cG)(dD:c3)(dx:db):bP:=⟨[(80,.one (A F)),(79,.one (A al)),(78,.one (.own 0)),(2,.one (.ptr 1 0)),(1,.one (.ptr 2 0))],[(0,.arr z.message M),(1,.box [.own 3,.own 4,.own 5,A ae,ay ao,A aE,.own 6,A aH,A aS,.own 7,.own 8,.own 9,.own 10,.own 11,A aZ]),(2,.box [.E (z.list z.str) bc,.E (z.list z.signed) bn,af bo,A bm,ay bC,A bJ,af bI,A bM,A bz,bj bS,bj bY,.own 12,.own 13,.own 0,A cq]),(3,.arr z.str cv),(4,.arr z.signed cN),(5,.arr z.int c0),(6,.arr z.int c5),(7,.arr z.bool dq),(8,.arr z.bool dt),(9,.arr z.aT dH),(10,.arr z.aU dI),(11,.arr z.message dr),(12,.arr z.aT dD),(13,.arr z.aU dx)],14⟩
theorem Uv{F:Int}{M:c3}{rec:bZ}{K:aW}{al ae ao aE aH aS aZ bc bn bo bm bC bJ bI bM bz bS bY cq cv cN c0 c5 dq dt dH dI dr dD dx}{v0}(b0:v0=fun a b=>KN a al b ae ao aE aH aS aZ bc bn bo bm bC bJ bI bM bz bS bY cq cv cN c0 c5 dq dt dH dI dr dD dx):jP vS tab oD 0 K rec (cQ xF) (v0 F M)=(
 J (aN F al)
 (((0:Int)<=F/\F<(len M:Int)) /\
 Int.toNat F<len M /\
 len ((nth M (Int.toNat F) (z.H z.aT)).f).words*8<=140737488355328 /\
 ((0:Int)<=F/\F<(len M:Int)) /\
 Int.toNat F<len M /\
 rec xF (v0 (W (F+1)) (setAt M (Int.toNat F) ⟨(nth M (Int.toNat F) (z.H z.aT)).f,(nth M (Int.toNat F) (z.H z.aT)).up,(nth M (Int.toNat F) (z.H z.aT)).n,(nth M (Int.toNat F) (z.H z.aT)).eE⟩)))
 (len cq*72<=140737488355328 /\
 rec xG (KO 0 (len cq:Int) cq ae ao aE aH aS aZ bc bn bo bm bC bJ bI bM bz bS bY cv cN c0 c5 dq dt dH dI dr dD dx M))):=by subst_vars;kernel_rfl
theorem Uw{F:Int}{M:db}{rec:bZ}{K:aW}{al ae ao aE aH aS aZ bc bn bo bm bC bJ bI bM bz bS bY cq cv cN c0 c5 dq dt dH dI dr dD dx}{v1 v0}(cd:v1=fun a b=>KO a al b ae ao aE aH aS aZ bc bn bo bm bC bJ bI bM bz bS bY cq cv cN c0 c5 dq dt dH dI dr dD dx)(b0:v0=vr (nth M (Int.toNat F) (z.H z.aU)).cL):jP vS tab oD 0 K rec (cQ xG) (v1 F M)=(
 J (aN F al)
 (((0:Int)<=F/\F<(len M:Int)) /\
 Int.toNat F<len M /\
 len ((nth M (Int.toNat F) (z.H z.aU)).r).targets*24<=140737488355328 /\
 (len (nth M (Int.toNat F) (z.H z.aU)).cL<=1000/\v0=true) /\
 ((0:Int)<=F/\F<(len M:Int)) /\
 Int.toNat F<len M /\
 ((0:Int)<=F/\F<(((len (setAt M (Int.toNat F) ⟨(nth M (Int.toNat F) (z.H z.aU)).n,(nth M (Int.toNat F) (z.H z.aU)).r,(nth M (Int.toNat F) (z.H z.aU)).cL⟩)):Nat):Int)) /\
 Int.toNat F<len (setAt M (Int.toNat F) ⟨(nth M (Int.toNat F) (z.H z.aU)).n,(nth M (Int.toNat F) (z.H z.aU)).r,(nth M (Int.toNat F) (z.H z.aU)).cL⟩) /\
 rec xG (v1 (W (F+1)) (setAt (setAt M (Int.toNat F) ⟨(nth M (Int.toNat F) (z.H z.aU)).n,(nth M (Int.toNat F) (z.H z.aU)).r,(nth M (Int.toNat F) (z.H z.aU)).cL⟩) (Int.toNat F) ⟨(nth (setAt M (Int.toNat F) ⟨(nth M (Int.toNat F) (z.H z.aU)).n,(nth M (Int.toNat F) (z.H z.aU)).r,(nth M (Int.toNat F) (z.H z.aU)).cL⟩) (Int.toNat F) (z.H z.aU)).n,⟨((nth (setAt M (Int.toNat F) ⟨(nth M (Int.toNat F) (z.H z.aU)).n,(nth M (Int.toNat F) (z.H z.aU)).r,(nth M (Int.toNat F) (z.H z.aU)).cL⟩) (Int.toNat F) (z.H z.aU)).r).version,((nth (setAt M (Int.toNat F) ⟨(nth M (Int.toNat F) (z.H z.aU)).n,(nth M (Int.toNat F) (z.H z.aU)).r,(nth M (Int.toNat F) (z.H z.aU)).cL⟩) (Int.toNat F) (z.H z.aU)).r).ca,((nth (setAt M (Int.toNat F) ⟨(nth M (Int.toNat F) (z.H z.aU)).n,(nth M (Int.toNat F) (z.H z.aU)).r,(nth M (Int.toNat F) (z.H z.aU)).cL⟩) (Int.toNat F) (z.H z.aU)).r).targets⟩,(nth M (Int.toNat F) (z.H z.aU)).cL⟩)))
 (len cq*72<=140737488355328 /\
 rec xH (KP 0 (len cq:Int) cq ae ao aE aH aS aZ bc bn bo bm bC bJ bI bM bz bS bY cv cN c0 c5 dq dt dH dI dr dD dx M))):=by subst_vars;kernel_rfl
theorem Ux{F:Int}{M:cG}{rec:bZ}{K:aW}{al ae ao aE aH aS aZ bc bn bo bm bC bJ bI bM bz bS bY cq cv cN c0 c5 dq dt dH dI dr dD dx}{v0}(b0:v0=fun a b=>KP a al b ae ao aE aH aS aZ bc bn bo bm bC bJ bI bM bz bS bY cq cv cN c0 c5 dq dt dH dI dr dD dx):jP vS tab oD 0 K rec (cQ xH) (v0 F M)=(
 J (aN F al)
 (((0:Int)<=F/\F<(len M:Int)) /\
 Int.toNat F<len M /\
 len (nth M (Int.toNat F) (z.H z.message)).words*8<=140737488355328 /\
 ((0:Int)<=F/\F<(len M:Int)) /\
 Int.toNat F<len M /\
 rec xH (v0 (W (F+1)) (setAt M (Int.toNat F) (nth M (Int.toNat F) (z.H z.message)))))
 (K (.agg [.E (z.list z.str) bc,.E (z.list z.signed) bn,af bo,A bm,ay bC,A bJ,af bI,A bM,A bz,bj bS,bj bY,.own 0,.own 1,.own 2,A cq]) [.arr z.aT dD,.arr z.aU dx,.arr z.message M])):=by subst_vars;kernel_rfl

theorem Sk(l:cG)(ax:l.length<=24)(aB:∀m∈l,m.words.length<=8)(K:aW)(ae:Int)(ao:Bool)(aE aH aS aZ:Int)(aM:cB)(vs:cD)(ws:aJ)(fu:Int)(up:Bool)(ak:Int)(ah:aJ)(aj ai:Int)(Y aa:c9)(now:Int)(ei:cB)(eU:cD)(a3 a4:aJ)(lM lN:c9)(nz:c3)(pt:db)(a9:cG)(us:c3)(cs:db)
  (D:K (.agg (en aM vs ws fu up ak ah aj ai Y aa (.own 0) (.own 1) (.own 2) now)) [.arr z.aT us,.arr z.aU cs,.arr z.message l]):∀(d k:Nat),k+d=l.length ->
  h5 vS tab oD 0 K (d+1) xH (KP (k:Int) (((len l):Nat):Int) l ae ao aE aH aS aZ aM vs ws fu up ak ah aj ai Y aa now ei eU a3 a4 lM lN nz pt a9 us cs)
 |0,k,ad=>by
  rw[kh (L:=xH),Ux rfl];exact co (by simp only[len];omega) D
 |d+1,k,ad=>by
  rw[kh (L:=xH),Ux rfl,cM,di (by omega)];have dZ:=aB _ (h9 (l:=l) (k:=k) (by omega) (z.H z.message));have e:setAt l k (⟨(nth l k (z.H z.message)).kind,(nth l k (z.H z.message)).unit,(nth l k (z.H z.message)).n,(nth l k (z.H z.message)).at_,(nth l k (z.H z.message)).image,(nth l k (z.H z.message)).words,(nth l k (z.H z.message)).yes⟩:fC)=l:=Ed (by omega) _;rw[e];exact cS (by simp only[len];omega) ⟨⟨by omega,by simp only[len];omega⟩,by simp only[len];omega,by simp only[len];omega,⟨by omega,by simp only[len];omega⟩,by simp only[len];omega,Sk l ax aB K ae ao aE aH aS aZ aM vs ws fu up ak ah aj ai Y aa now ei eU a3 a4 lM lN nz pt a9 us cs D d (k+1) (by omega)⟩
theorem Sg(c:db)(az:c.length<=8)(el:∀x∈c,x.r.targets.length<=4/\x.cL.length<=4/\vr x.cL=true)(l:cG)(ax:l.length<=24)(aB:∀m∈l,m.words.length<=8)(K:aW)(ae:Int)(ao:Bool)(aE aH aS aZ:Int)(aM:cB)(vs:cD)(ws:aJ)(fu:Int)(up:Bool)(ak:Int)(ah:aJ)(aj ai:Int)(Y aa:c9)(now:Int)(ei:cB)(eU:cD)(a3 a4:aJ)(lM lN:c9)(nz:c3)(pt:db)(a9:cG)(us:c3)
  (D:K (.agg (en aM vs ws fu up ak ah aj ai Y aa (.own 0) (.own 1) (.own 2) now)) [.arr z.aT us,.arr z.aU c,.arr z.message l]):∀(d k:Nat),k+d=c.length ->
  h5 vS tab oD 0 K (l.length+1+d+1) xG (KO (k:Int) (((len c):Nat):Int) c ae ao aE aH aS aZ aM vs ws fu up ak ah aj ai Y aa l now ei eU a3 a4 lM lN nz pt a9 us)
 |0,k,ad=>by
  rw[kh (L:=xG),Uw rfl rfl];exact co (by simp only[len];omega) ⟨by simp only[len];omega,Sk l ax aB K ae ao aE aH aS aZ aM vs ws fu up ak ah aj ai Y aa now ei eU a3 a4 lM lN nz pt a9 us c D l.length 0 (by omega)⟩
 |d+1,k,ad=>by
  rw[show l.length+1+(d+1)+1=(l.length+1+d+1)+1 by omega,kh (L:=xG),Uw rfl rfl,cM,di (by omega)];obtain⟨I,G,ab⟩:=el _ (h9 (l:=c) (k:=k) (by omega) (z.H z.aU));have e:setAt c k (⟨(nth c k (z.H z.aU)).n,⟨(nth c k (z.H z.aU)).r.version,(nth c k (z.H z.aU)).r.ca,(nth c k (z.H z.aU)).r.targets⟩,(nth c k (z.H z.aU)).cL⟩:nx)=c:=Ed (by omega) _;simp only[e];exact cS (by simp only[len];omega) ⟨⟨by omega,by simp only[len];omega⟩,by simp only[len];omega,by simp only[len];omega,⟨by simp only[len];omega,ab⟩,⟨by omega,by simp only[len];omega⟩,by simp only[len];omega,⟨by omega,by simp only[len];omega⟩,by simp only[len];omega,Sg c az el l ax aB K ae ao aE aH aS aZ aM vs ws fu up ak ah aj ai Y aa now ei eU a3 a4 lM lN nz pt a9 us D d (k+1) (by omega)⟩
theorem R6(u:c3)(hu:u.length<=4)(rW:∀x∈u,x.f.words.length=192)(c:db)(az:c.length<=8)(el:∀x∈c,x.r.targets.length<=4/\x.cL.length<=4/\vr x.cL=true)(l:cG)(ax:l.length<=24)(aB:∀m∈l,m.words.length<=8)(K:aW)(ae:Int)(ao:Bool)(aE aH aS aZ:Int)(aM:cB)(vs:cD)(ws:aJ)(fu:Int)(up:Bool)(ak:Int)(ah:aJ)(aj ai:Int)(Y aa:c9)(now:Int)(ei:cB)(eU:cD)(a3 a4:aJ)(lM lN:c9)(nz:c3)(pt:db)(a9:cG)
  (D:K (.agg (en aM vs ws fu up ak ah aj ai Y aa (.own 0) (.own 1) (.own 2) now)) [.arr z.aT u,.arr z.aU c,.arr z.message l]):∀(d k:Nat),k+d=u.length ->
  h5 vS tab oD 0 K (l.length+1+c.length+1+d+1) xF (KN (k:Int) (((len u):Nat):Int) u ae ao aE aH aS aZ aM vs ws fu up ak ah aj ai Y aa c l now ei eU a3 a4 lM lN nz pt a9)
 |0,k,ad=>by
  rw[kh (L:=xF),Uv rfl];exact co (by simp only[len];omega) ⟨by simp only[len];omega,Sg c az el l ax aB K ae ao aE aH aS aZ aM vs ws fu up ak ah aj ai Y aa now ei eU a3 a4 lM lN nz pt a9 u D c.length 0 (by omega)⟩
 |d+1,k,ad=>by
  rw[show l.length+1+c.length+1+(d+1)+1=(l.length+1+c.length+1+d+1)+1 by omega,kh (L:=xF),Uv rfl,cM,di (by omega)];have I:=rW _ (h9 (l:=u) (k:=k) (by omega) (z.H z.aT));have e:setAt u k (⟨⟨(nth u k (z.H z.aT)).f.words,(nth u k (z.H z.aT)).f.fuel⟩,(nth u k (z.H z.aT)).up,(nth u k (z.H z.aT)).n,(nth u k (z.H z.aT)).eE⟩:po)=u:=Ed (by omega) _;rw[e];exact cS (by simp only[len];omega) ⟨⟨by omega,by simp only[len];omega⟩,by simp only[len];omega,by simp only[len];omega,⟨by omega,by simp only[len];omega⟩,by simp only[len];omega,R6 u hu rW c az el l ax aB K ae ao aE aH aS aZ aM vs ws fu up ak ah aj ai Y aa now ei eU a3 a4 lM lN nz pt a9 D d (k+1) (by omega)⟩
theorem ahU:bw 11 Gv:=mh (Γ:=vS) 0 ((((((((((bv.f yp).f ahO).f Wy).f Wx).f ahN).f L5).f ahM).f ahQ).f Ww).f Wv) Tryz.func11 (by kernel_rfl) fun vs ar=>by
 unfold Gv;split;rotate_left;trivial;rename_i aM vs ws fu up ak ah aj ai Y aa us cs U now;refine⟨by kernel_rfl,fun ag K D=>?_⟩;have aP:=p0.1 ag;obtain⟨gh,iM⟩:=aP.od;have aA:=rn aP.b;have av:=(Co aP.s).1;obtain⟨a1,bf,cj,eR⟩:=rp aP.g;have dZ:=aP.mu;have oK:=aP.k6;simp only at gh iM aA av dZ oK;refine⟨U.length+1+cs.length+1+us.length+2,?_⟩;refine kD (fun rec=>(by kernel_rfl:_=(
  len aM*16<=140737488355328 /\
  len vs*16<=140737488355328 /\
  (len ws*8<=140737488355328/\len ah*8<=140737488355328/\len Y<=1000/\len aa<=1000) /\
  len us*56<=140737488355328 /\
  rec xF (KN 0 (len us:Int) us 0 false 0 0 0 0 aM vs ws fu up ak ah aj ai Y aa cs U now [] [] [] [] [] [] [] [] [])))) ?_
 refine⟨by simp only[len];omega,by simp only[len];omega,⟨a1,bf,cj,eR⟩,by simp only[len];omega,?_⟩;refine R6 us iM (fun x aG=>(qs (aP.u x aG)).2.1) cs dZ (fun x aG=>?_) U oK (fun m aB=>(ov (m:=nH m) (aP.msg m aB).1).2.2.2.2.2.2.2.2.2.2.1) K 0 false 0 0 0 0 aM vs ws fu up ak ah aj ai Y aa now [] [] [] [] [] [] [] [] [] D us.length 0 (by omega);obtain⟨bX,dh,eW,_⟩:=aP.uh _ aG;simp only at bX dh;exact⟨by omega,by omega,V7 eW⟩

def F1:bd
 |[.agg [.E (.list .int) ws,.E .int fu,.E .bool up,.E .int ak,.E (.list .int) ah,.E .int aj,.E .int ai,.E (.list .bool) Y,.E (.list .bool) aa]],[]=>some (none,.one (A (hP ⟨⟨ws,fu⟩,up,⟨⟨ak,ah,aj⟩,ai⟩,Y,aa⟩)),[])
 |_,_=>none

theorem Mc:bw 118 F1:=b2 0 (bv.f yq) Tryz.func118 (by kernel_rfl) fun vs ar=>by
 unfold F1;split;rotate_left;trivial;rename_i ws fu up ak ah aj ai Y aa;refine⟨by kernel_rfl,fun K D=>?_⟩;refine⟨1,?_⟩;refine ck (fun rec=>(by kernel_rfl:_=(
  J (!(au (dM ⟨⟨ws,fu⟩,up,⟨⟨ak,ah,aj⟩,ai⟩,Y,aa⟩) 0))
  (K (.one (A (dM ⟨⟨ws,fu⟩,up,⟨⟨ak,ah,aj⟩,ai⟩,Y,aa⟩))) [])
  (J (!up)
  (K (.one (A 7)) [])
  (K (.one (A 0)) []))))) ?_
 unfold hP at D;refine bN (fun h=>?_) (fun h=>?_)
 ·rw[if_neg h]at D;exact D
 ·rw[if_pos h]at D;cases up
  ·exact JU rfl D
  ·exact Aq rfl D

def GR:bd
 |[.one (.E (.list .int) l)],[]=>some (some (len l*8<=140737488355328),.one (.own 0),[.arr .int l])
 |_,_=>none

theorem ais:bw 194 GR:=mh 0 bv Tryz.func194 (by kernel_rfl) fun vs ar=>by
 unfold GR;split;rotate_left;trivial;rename_i l;refine⟨by kernel_rfl,fun ag K D=>?_⟩;refine⟨1,?_⟩;refine kD (fun rec=>(by kernel_rfl:_=(
  (∀fD:Bool,(fD=true->len l=0)->J fD
  (K (.one (.own 0)) [.arr z.int []])
  ((0+len l)*8<=140737488355328 /\
  K (.one (.own 0)) [.arr z.int (cat [] l)]))))) ?_
 intro fD aA;refine cn (fun h=>?_) (fun h=>⟨by simp only[len]at ag |-; omega,D⟩);have:l=[]:=List.length_eq_zero_iff.1 (aA h);subst this;exact D

def G4:bd
 |[.agg [.E (.list .int) ws,.E .int _],.one (.E .int dG)],[]=>some (some (0<=dG/\dG<=1/\64<=len ws/\len ws<=192/\cK ws=true),.an [.one (cH (iy ws dG.toNat).1),.one (A (n5 dG.toNat (iy ws dG.toNat).2))],[])
 |_,_=>none
def tN:Ctx:=[(194,GR)]
theorem adH:fz Tryz.prog tab tN:=(bv.f ais)
def x4:List cw:=[.inLoop [7,6,5,4,1] (cZ oF [1,1,1,0,0,0]),.inBlock 0,.code (cZ oF [1,1,1,1])]
def Li(F:Int)(al:aJ)(M ae:Int)(ao:cu):bP:=⟨[(7,.one (A F)),(6,.one (af al)),(5,.one (A M)),(4,.one (.own 0)),(1,.one (A ae))],[(0,.arr (z.list z.int) ao)],1⟩
def tw:List cw:=[.inLoop [74,73,72,7,5,4,1] (cZ oF [1,1,1,1,0,1,0,0]),.inBlock 2,.code (cZ oF [1,1,1,1,1])]
def DV(F al:Int)(M:aJ)(ae ao aE:Int)(aH:cu):bP:=⟨[(74,.one (A F)),(73,.one (A al)),(72,.one (af M)),(7,.one (A ae)),(5,.one (A ao)),(4,.one (.own 0)),(1,.one (A aE))],[(0,.arr (z.list z.int) aH)],1⟩
theorem afC(ws:aJ)(fu dG:Int)(rec:bZ)(K:aW):b7 tN tab oF 0 K rec [.code (bF oF)] (df [.agg [af ws,A fu],.one (A dG)] [])=(
 ((0:Int)<=W (dG*32)/\W (dG*32)<=W (W (dG+1)*32)/\W (W (dG+1)*32)<=(len ws:Int)) /\
 rec x4 (Li 1 (a2 ws (Int.toNat (W (dG*32))) (Int.toNat (W (W (dG+1)*32)))) 0 dG [])):=by kernel_rfl
theorem U1{F:Int}{ao:cu}{rec:bZ}{K:aW}{al M ae}{v0 v1}(b0:v0=fun a b=>Li a al M ae b)(cd:v1=DV 0 (((len (a2 al (Int.toNat (min F (len al:Int))) (Int.toNat (len al:Int)))):Nat):Int) (a2 al (Int.toNat (min F (len al:Int))) (Int.toNat (len al:Int))) F M ae ao):b7 tN tab oF 0 K rec (cQ x4) (v0 F ao)=(
 J (aN F (len al:Int))
 (((0:Int)<=F/\F<(len al:Int)) /\
 J (!(au (nth al (Int.toNat F) (z.H z.int)) 65535))
 (((0:Int)<=F/\F<(len al:Int)) /\
 J (aN (hQ (nth al (Int.toNat F) (z.H z.int)) 42240) 1)
 (K (.an [.one (cH ao),.one (A (-1))]) [])
 (J (aN 4 (hQ (nth al (Int.toNat F) (z.H z.int)) 42240))
 (K (.an [.one (cH ao),.one (A (-1))]) [])
 (J (aN (len al:Int) (W (W (F+hQ (nth al (Int.toNat F) (z.H z.int)) 42240)+1)))
 (K (.an [.one (cH ao),.one (A (-1))]) [])
 (((0:Int)<=W (F+1)/\W (F+1)<=W (W (F+1)+hQ (nth al (Int.toNat F) (z.H z.int)) 42240)/\W (W (F+1)+hQ (nth al (Int.toNat F) (z.H z.int)) 42240)<=(len al:Int)) /\
 len (a2 al (Int.toNat (W (F+1))) (Int.toNat (W (W (F+1)+hQ (nth al (Int.toNat F) (z.H z.int)) 42240))))*8<=140737488355328 /\
 (len ao+len (a2 al (Int.toNat (W (F+1))) (Int.toNat (W (W (F+1)+hQ (nth al (Int.toNat F) (z.H z.int)) 42240)))::[]))*24<=140737488355328 /\
 rec x4 (v0 (W (F+W (hQ (nth al (Int.toNat F) (z.H z.int)) 42240+1))) (cat ao (a2 al (Int.toNat (W (F+1))) (Int.toNat (W (W (F+1)+hQ (nth al (Int.toNat F) (z.H z.int)) 42240)))::[])))))))
 (((0:Int)<=min F (len al:Int)/\min F (len al:Int)<=(len al:Int)/\(len al:Int)<=(len al:Int)) /\
 rec tw v1))
 (((0:Int)<=min F (len al:Int)/\min F (len al:Int)<=(len al:Int)/\(len al:Int)<=(len al:Int)) /\
 rec tw v1)):=by subst_vars;kernel_rfl
theorem U2{F:Int}{rec:bZ}{K:aW}{al M ae ao aE aH}{v0}(b0:v0=fun a=>DV a al M ae ao aE aH):b7 tN tab oF 0 K rec (cQ tw) (v0 F)=(
 J (aN F al)
 (((0:Int)<=F/\F<(len M:Int)) /\
 J (!(au (nth M (Int.toNat F) (z.H z.int)) 65535))
 (K (.an [.one (cH aH),.one (A (-1))]) [])
 (rec tw (v0 (W (F+1)))))
 (K (.an [.one (cH aH),.one (A (W (W (aE*32)+ae)))]) [])):=by subst_vars;kernel_rfl

theorem Pw(ae ao aE:Int)(aH:cu)(K:aW)(t:aJ)(bl:t.length<=32)
  (D:K (.an [.one (cH aH),.one (A (if hg t then W (W (aE*32)+ae)else -1))]) []):∀(d k:Nat),t.length<=k+d->k<=t.length->hg (t.take k)=true ->
  cl tN tab oF 0 K (d+1) tw (DV (k:Int) (((len t):Nat):Int) t ae ao aE aH)
 |0,k,ad,jH,bp=>by
  rw[bW (L:=tw),U2 rfl];rw[List.take_of_length_le (by omega)]at bp;rw[if_pos bp]at D;exact co (by simp only[len];omega) D
 |d+1,k,ad,jH,bp=>by
  rw[bW (L:=tw),U2 rfl,cM]
  by_cases c:k=t.length
  ·rw[List.take_of_length_le (by omega)]at bp;rw[if_pos bp]at D;exact co (by simp only[len];omega) D
  refine cS (by simp only[len];omega) ⟨⟨by omega,by simp only[len];omega⟩,bN (fun dz=>?_) (fun heq=>?_)⟩
  ·rw[if_neg (by rw[show hg t=false from all_false (k:=k) (by omega) (z.H z.int) (by simpa using dz)];simp)]at D;exact D
  ·rw[di (by omega)];exact Pw ae ao aE aH K t bl D d (k+1) (by omega) (by omega) (BC (by omega) (z.H z.int) bp (by simpa using heq))
theorem HU(s:aJ)(sec:Nat)(pS:sec<=1)(ax:s.length=32)(K:aW)(k:Nat)(ad:k<=32)(acc:cu)(gx:Nat)
  (D:K (.an [.one (cH acc),.one (A (if hg (s.drop k)then 32*(sec:Int)+k else -1))]) []) :
  cl tN tab oF 0 K (gx+33) tw (DV (0:Int) (((len (a2 s (Int.toNat (min (k:Int) (((len s):Nat):Int))) (Int.toNat (((len s):Nat):Int)))):Nat):Int) (a2 s (Int.toNat (min (k:Int) (((len s):Nat):Int))) (Int.toNat (((len s):Nat):Int))) (k:Int) 0 (sec:Int) acc):=by
 rw[show Int.toNat (min (k:Int) (((len s):Nat):Int))=k by simp only[len];omega,show Int.toNat (((len s):Nat):Int)=s.length from rfl,V1];refine Pw _ _ _ _ K (s.drop k) (by simp;omega) ?_ (gx+32) 0 (by simp;omega) (by omega) rfl;rw[cc (n:=(sec:Int)*32) (by omega) (by omega),cc (by omega) (by omega),show(sec:Int)*32+(k:Int)=32*(sec:Int)+k by omega];exact D
theorem S1(s:aJ)(sec:Nat)(pS:sec<=1)(ax:s.length=32)(gg:cK s=true)(K:aW):∀(m k:Nat) (acc:cu),k<=32->32<=m+k->acc.length<=k ->
  K (.an [.one (cH (acc++(e6 m (s.drop k)).1)),.one (A (match (e6 m (s.drop k)).2 with|some n=>32*(sec:Int)+k+n|none=>-1))]) [] ->
  cl tN tab oF 0 K (m+34) x4 (Li (k:Int) s 0 (sec:Int) acc)
 |0,k,acc,ad,aB,bh,D=>by
  have:k=32:=by omega
  subst this;rw[show 0+34=33+1 by omega,bW (L:=x4),U1 rfl rfl];simp only[e6,List.append_nil]at D;refine co (by simp only[len];omega) ⟨⟨by simp only[len];omega,by simp only[len];omega,by omega⟩,HU s sec pS ax K 32 (by omega) acc 0 ?_⟩;rw[List.drop_of_length_le (by omega)];simpa[hg]using D
 |m+1,k,acc,ad,aB,bh,D=>by
  rw[show m+1+34=(m+34)+1 by omega,bW (L:=x4),U1 rfl rfl,cM]
  by_cases c:k=32
  ·subst c;rw[List.drop_of_length_le (by omega)]at D;simp only[e6,List.append_nil]at D;refine co (by simp only[len];omega) ⟨⟨by simp only[len];omega,by simp only[len];omega,by omega⟩,HU s sec pS ax K 32 (by omega) acc (m+1) ?_⟩;rw[List.drop_of_length_le (by omega)];simpa[hg]using D
  rw[ep (by omega) (z.H z.int)]at D;obtain⟨x,aG⟩:∃x,nth s k (z.H z.int)=x:=⟨_,rfl⟩
  have Jg:eS x=true:=aG▸r3 gg k (by omega);rw[aG]at D |-;simp only[e6]at D;refine cS (by simp only[len];omega) ⟨⟨by omega,by simp only[len];omega⟩,bN (fun dz=>?_) (fun heq=>?_)⟩
  case refine_2 =>
   rw[if_pos heq]at D;refine⟨⟨by simp only[len];omega,by simp only[len];omega,by omega⟩,HU s sec pS ax K k ad acc (m+1) ?_⟩;rw[ep (by omega) (z.H z.int),aG];have e:hg (x::s.drop (k+1))=hg (s.drop (k+1)):=by simp[hg,heq]
   rw[e];cases az:hg (s.drop (k+1))
   ·simpa[az]using D
   ·simpa[az]using D
  rw[if_neg dz]at D;obtain⟨a1,bf,cj,eR⟩:=ajr Jg;have Tl:gQ x=0->K (.an [.one (cH acc),.one (A (-1))]) []:=fun h=>by
   rw[if_pos h]at D;simpa using D
  refine⟨⟨by omega,by simp only[len];omega⟩,bq (fun I=>Tl (cj (.inl I))) (fun I=>bq (fun G=>Tl (cj (.inr G))) (fun G=>?_))⟩;obtain⟨aO,aX,cY⟩:=eR I G;rw[if_neg aX]at D;rw[aO];obtain⟨n,aq⟩:∃n,gQ x=n:=⟨_,rfl⟩
  rw[aq]at D aX cY |-;rw[cc (n:=(k:Int)+(n:Int)) (by omega) (by omega),cc (n:=(k:Int)+(n:Int)+1) (by omega) (by omega),cc (n:=(k:Int)+1) (by omega) (by omega),cc (n:=(k:Int)+1+(n:Int)) (by omega) (by omega),cc (n:=(n:Int)+1) (by omega) (by omega),cc (n:=(k:Int)+((n:Int)+1)) (by omega) (by omega)];have nZ:(s.drop (k+1)).length=31-k:=by simp;omega
  refine bq (fun ab=>?_) (fun ab=>?_)
  ·rw[if_neg (by simp only[len]at ab;omega)]at D;simpa using D
  ·simp only[len]at ab;rw[if_pos (by omega)]at D;rw[show Int.toNat ((k:Int)+1)=k+1 by omega,show Int.toNat ((k:Int)+1+(n:Int))=k+1+n by omega,show(k:Int)+((n:Int)+1)=((k+1+n:Nat):Int)by omega];have es:a2 s (k+1) (k+1+n)=(s.drop (k+1)).take n:=by simp[a2,List.take_drop]
   rw[es];refine⟨⟨by omega,by omega,by simp only[len];omega⟩,by simp only[len,List.length_take];omega,by simp only[len,List.length_cons,List.length_nil];omega,?_⟩;refine S1 s sec pS ax gg K m (k+1+n) _ (by omega) (by omega) (by simp only[cat,List.length_append,List.length_cons,List.length_nil];omega) ?_;rw[List.drop_drop]at D;have gK:=D;simp only[cat,List.append_assoc,List.cons_append,List.nil_append]at gK |-;cases h7:(e6 m (s.drop (k+1+n))).2 with
   |none=>simpa[h7]using gK
   |some p =>
    simp only[h7,Option.map]at gK;rw[show 32*(sec:Int)+(k:Int)+((p+n+1:Nat):Int)=32*(sec:Int)+((k+1+n:Nat):Int)+(p:Int)by omega]at gK;exact gK
theorem agu(ag:0<=dG/\dG<=1/\64<=len ws/\len ws<=192/\cK ws=true)(K:aW)(D:K (.an [.one (cH (iy ws dG.toNat).1),.one (A (n5 dG.toNat (iy ws dG.toNat).2))]) []):pf tN oF 0 K [.agg [af ws,A fu],.one (A dG)] []:=by
 obtain⟨a6,I,G,ab,gg⟩:=ag;obtain⟨sec,rfl⟩:=Int.eq_ofNat_of_zero_le a6;refine⟨32+34+1,?_⟩;rw[eO,afC _ _ _ _ _];rw[cc (n:=(sec:Int)*32) (by omega) (by omega),cc (n:=(sec:Int)+1) (by omega) (by omega),cc (by omega) (by omega)];simp only[len]at G ab |-;refine⟨⟨by omega,by omega,by omega⟩,?_⟩;rw[show Int.toNat ((sec:Int)*32)=32*sec by omega,show Int.toNat (((sec:Int)+1)*32)=32*sec+32 by omega];refine S1 (a2 ws (32*sec) (32*sec+32)) sec (by omega) (o5 _ _ _ (by omega)) (LV gg _ _) K 32 1 [] (by omega) (by omega) (by simp) ?_;rw[cM]at D;unfold iy p8 at D;rw[List.nil_append];cases h7:(e6 32 ((a2 ws (32*sec) (32*sec+32)).drop 1)).2 with
 |none =>
  simp only[h7,n5]at D;exact D
 |some p =>
  simp only[h7,n5]at D;exact D
theorem WN:bw 171 G4:=hN adH Tryz.func171 (by kernel_rfl) (by
 intro vs ar p v dB h ag;unfold G4 at h;split at h
 ·cases h;exact⟨by kernel_rfl,rfl,.inl (agu _ _ _ ag.1 _ ⟨rfl,rfl⟩)⟩
 ·cases h)

def Pf:bd
 |[.agg [.E (.list .int) ws,.E .int fu]],[]=>some (none,.an [.one (cH (j8 ⟨ws,fu⟩).1),.one (A (j8 ⟨ws,fu⟩).2)],[])
 |_,_=>none

theorem Mk:bw 136 Pf:=b2 0 (((bv.f WN).f Mj).f En) Tryz.func136 (by kernel_rfl) fun vs ar=>by
 unfold Pf;split;rotate_left;trivial;rename_i ws fu;refine⟨by kernel_rfl,fun K D=>?_⟩;refine⟨1,?_⟩;refine ck (fun rec=>(by kernel_rfl:_=(
  J (!(au (dE (⟨ws,fu⟩:cm)) 0))
  (K (.an [.one (cH []),.one (A (dE (⟨ws,fu⟩:cm)))]) [])
  ((64<=len ws/\cK ws=true) /\
  ((0:Int)<=(((ed ws):Nat):Int)/\(((ed ws):Nat):Int)<=(1:Int)/\64<=len ws/\len ws<=192/\cK ws=true) /\
  K (.an [.one (cH (iy ws (Int.toNat (((ed ws):Nat):Int))).fst),.one (A 0)]) [])))) ?_
 unfold j8 at D;refine bN (fun h=>?_) (fun h=>?_)
 ·rw[if_neg h]at D;exact D
 rw[if_pos h]at D;obtain⟨bK,bX,dh,eW⟩:=nG h;obtain⟨bA,bb,cr,du⟩:=jh bK;obtain⟨hs,gu⟩:=q1 bA;have:=td ws;exact⟨⟨bX,du⟩,⟨by omega,by omega,bX,gu,du⟩,D⟩

def Oz:bd
 |[.one (.E (.list (.list .int)) l)],[]=>some (some (len l<=1000/\tl l=true),.agg [A (iK l).n,A (iK l).version,ay (iK l).dv,ay (iK l).abort,ay (iK l).ended],[])
 |_,_=>none
def vN:Ctx:=[]
def n8:List cw:=[.inLoop [8,7,6,3,2] (cZ rB [1,1,0,1,0,0]),.inBlock 0,.code (cZ rB [1,1,1])]
def xt(F al:Int)(M:cu)(ae ao:Int)(aE aH aS:Bool)(aZ bc:Int)(bn bo bm:Bool):bP:=⟨[(8,.one (A F)),(7,.one (A al)),(6,.one (cH M)),(3,.one (.ptr 0 0)),(2,.one (.ptr 1 0))],[(0,.box [A ae,A ao,ay aE,ay aH,ay aS]),(1,.box [A aZ,A bc,ay bn,ay bo,ay bm])],2⟩
theorem aeW(l:cu)(rec:bZ)(K:aW):b7 vN tab rB 0 K rec [.code (bF rB)] (df [.one (cH l)] [])=(
 rec n8 (xt 0 (len l:Int) l 0 0 false false false 0 0 false false false)):=by kernel_rfl
theorem Uc{F ae ao:Int}{aE aH aS:Bool}{rec:bZ}{K:aW}{al M aZ bc bn bo bm}{v0 v4 cf v3 aC v1}(b0:v0=fun a b c d e f=>xt a al M b c d e f aZ bc bn bo bm)(e1:v4=rec n8 (v0 (W (F+1)) ae ao aE aH true))(g5:cf=rec n8 (v0 (W (F+1)) ae ao aE aH aS))(ef:v3=J (au (nth (nth M (Int.toNat F) (z.H (z.list z.int))) (Int.toNat 0) (z.H z.int)) 4)
 (J aE
 v4
 (J aH
 v4
 cf))
 cf) (cR:aC=J (au (nth (nth M (Int.toNat F) (z.H (z.list z.int))) (Int.toNat 0) (z.H z.int)) 3)
 (J (!aE)
 (rec n8 (v0 (W (F+1)) ae ao aE true aS))
 (((0:Int)<=(0:Int)/\(0:Int)<(((len (nth M (Int.toNat F) (z.H (z.list z.int)))):Nat):Int)) /\
 v3))
 (((0:Int)<=(0:Int)/\(0:Int)<(((len (nth M (Int.toNat F) (z.H (z.list z.int)))):Nat):Int)) /\
 v3)) (cd:v1=J (!(au (((len (nth M (Int.toNat F) (z.H (z.list z.int)))):Nat):Int) 2))
 cf
 (((0:Int)<=(1:Int)/\(1:Int)<(((len (nth M (Int.toNat F) (z.H (z.list z.int)))):Nat):Int)) /\
 J (!(au (nth (nth M (Int.toNat F) (z.H (z.list z.int))) (Int.toNat 1) (z.H z.int)) ae))
 cf
 (J (au ae 0)
 cf
 (((0:Int)<=(0:Int)/\(0:Int)<(((len (nth M (Int.toNat F) (z.H (z.list z.int)))):Nat):Int)) /\
 J (au (nth (nth M (Int.toNat F) (z.H (z.list z.int))) (Int.toNat 0) (z.H z.int)) 2)
 (J (!aH)
 (rec n8 (v0 (W (F+1)) ae ao true aH aS))
 (((0:Int)<=(0:Int)/\(0:Int)<(((len (nth M (Int.toNat F) (z.H (z.list z.int)))):Nat):Int)) /\
 aC))
 (((0:Int)<=(0:Int)/\(0:Int)<(((len (nth M (Int.toNat F) (z.H (z.list z.int)))):Nat):Int)) /\
 aC))))):b7 vN tab rB 0 K rec (cQ n8) (v0 F ae ao aE aH aS)=(
 J (aN F al)
 (((0:Int)<=F/\F<(len M:Int)) /\
 ((0:Int)<=(0:Int)/\(0:Int)<(((len (nth M (Int.toNat F) (z.H (z.list z.int)))):Nat):Int)) /\
 J (au (nth (nth M (Int.toNat F) (z.H (z.list z.int))) (Int.toNat 0) (z.H z.int)) 1)
 (J (au (((len (nth M (Int.toNat F) (z.H (z.list z.int)))):Nat):Int) 3)
 (((0:Int)<=(1:Int)/\(1:Int)<(((len (nth M (Int.toNat F) (z.H (z.list z.int)))):Nat):Int)) /\
 J (dc 1 (nth (nth M (Int.toNat F) (z.H (z.list z.int))) (Int.toNat 1) (z.H z.int)))
 (((0:Int)<=(1:Int)/\(1:Int)<(((len (nth M (Int.toNat F) (z.H (z.list z.int)))):Nat):Int)) /\
 J (dc (nth (nth M (Int.toNat F) (z.H (z.list z.int))) (Int.toNat 1) (z.H z.int)) 8)
 (((0:Int)<=(1:Int)/\(1:Int)<(((len (nth M (Int.toNat F) (z.H (z.list z.int)))):Nat):Int)) /\
 ((0:Int)<=(2:Int)/\(2:Int)<(((len (nth M (Int.toNat F) (z.H (z.list z.int)))):Nat):Int)) /\
 rec n8 (v0 (W (F+1)) (nth (nth M (Int.toNat F) (z.H (z.list z.int))) (Int.toNat 1) (z.H z.int)) (nth (nth M (Int.toNat F) (z.H (z.list z.int))) (Int.toNat 2) (z.H z.int)) false false false))
 v1)
 v1)
 v1)
 v1)
 (K (.agg [A ae,A ao,ay aE,ay aH,ay aS]) [])):=by subst_vars;kernel_rfl

set_option maxHeartbeats 4000000 in
theorem aiP(l:cu)(K:aW)(aZ bc:Int)(bn bo bm:Bool)(gx k:Nat)(n v:Int)(c a e:Bool)(r:aJ)(ad:k<l.length)(ax:l.length<=1000)(a6:0<r.length)(aw:nth l k (z.H (z.list z.int))=r)
  (kp:∀(ly eT:Int) (fK et b8:Bool),gn ⟨n,v,c,a,e⟩ r=⟨ly,eT,fK,et,b8⟩->cl vN tab rB 0 K gx n8 (xt ((k+1:Nat):Int) (((len l):Nat):Int) l ly eT fK et b8 aZ bc bn bo bm)) :
  cl vN tab rB 0 K (gx+1) n8 (xt (k:Int) (((len l):Nat):Int) l n v c a e aZ bc bn bo bm):=by
 rw[bW (L:=n8),Uc rfl rfl rfl rfl rfl rfl,cM,aw];have hv:W ((k:Int)+1)=((k+1:Nat):Int):=di (by omega);rw[hv];obtain⟨iL,dY⟩:∃iL,r.getD 0 0=iL:=⟨_,rfl⟩
 obtain⟨gh,aO⟩:∃gh,r.getD 1 0=gh:=⟨_,rfl⟩
 obtain⟨jc,aX⟩:∃jc,r.getD 2 0=jc:=⟨_,rfl⟩
 have es:gn ⟨n,v,c,a,e⟩ r=if iL=1/\r.length=3/\1<=gh/\gh<=8 then⟨gh,jc,false,false,false⟩else if r.length≠2\/gh≠n\/n=0 then⟨n,v,c,a,e⟩
   else if iL=2/\a=false then⟨n,v,true,a,e⟩else if iL=3/\c=false then⟨n,v,c,true,e⟩else if iL=4/\(c=true\/a=true)then⟨n,v,c,a,true⟩else⟨n,v,c,a,e⟩:=by
  unfold gn;rw[dY,aO,aX]
 rw[show nth r (Int.toNat 0) (z.H z.int)=iL from dY,show nth r (Int.toNat 1) (z.H z.int)=gh from aO,show nth r (Int.toNat 2) (z.H z.int)=jc from aX];have hlen:len r=r.length:=rfl;rw[hlen];rw[es]at kp;clear es;refine cS (by simp only[len];omega) ⟨⟨by omega,by simp only[len];omega⟩,?_⟩
 repeat' first
  |refine⟨⟨by omega,by omega⟩,?_⟩
  |refine cz (fun _=>?_) (fun _=>?_)
  |refine bN (fun _=>?_) (fun _=>?_)
  |refine eF (fun _=>?_) (fun _=>?_)
  |refine cn (fun h=>?_) (fun h=>?_)<;>first|rw[fV]at h|rw[eC]at h
  |refine cn (fun _=>?_) (fun _=>?_)
 all_goals first
  |(exfalso;omega)
  |exact kp _ _ _ _ _ (if_pos (by omega))
  |exact kp _ _ _ _ _ (by rw[if_neg (by omega),if_pos (by omega)])
  |exact kp _ _ _ _ _ (by rw[if_neg (by omega),if_neg (by omega),if_pos ⟨by omega,by assumption⟩])
  |exact kp _ _ _ _ _ (by rw[if_neg (by omega),if_neg (by omega),if_neg (by first|exact fun h=>absurd h.1 (by omega)|exact fun h=>absurd h.2 (by simp_all)),if_pos ⟨by omega,by assumption⟩])
  |exact kp _ _ _ _ _ (by rw[if_neg (by omega),if_neg (by omega),if_neg (by first|exact fun h=>absurd h.1 (by omega)|exact fun h=>absurd h.2 (by simp_all)),if_neg (by first|exact fun h=>absurd h.1 (by omega)|exact fun h=>absurd h.2 (by simp_all)),if_pos ⟨by omega,.inl (by assumption)⟩])
  |exact kp _ _ _ _ _ (by rw[if_neg (by omega),if_neg (by omega),if_neg (by first|exact fun h=>absurd h.1 (by omega)|exact fun h=>absurd h.2 (by simp_all)),if_neg (by first|exact fun h=>absurd h.1 (by omega)|exact fun h=>absurd h.2 (by simp_all)),if_pos ⟨by omega,.inr (by assumption)⟩])
  |exact kp _ _ _ _ _ (by rw[if_neg (by omega),if_neg (by omega),if_neg (by first|exact fun h=>absurd h.1 (by omega)|exact fun h=>absurd h.2 (by simp_all)),if_neg (by first|exact fun h=>absurd h.1 (by omega)|exact fun h=>absurd h.2 (by simp_all)),if_neg (by first|exact fun h=>absurd h.1 (by omega)|exact fun h=>absurd h.2 (by simp_all))])
theorem SD(l:cu)(ax:l.length<=1000)(aq:tl l=true)(K:aW)(aZ bc:Int)(bn bo bm:Bool):∀(d k:Nat) (n v:Int) (c a e:Bool),k+d=l.length ->
  K (.agg [A ((l.drop k).foldl gn ⟨n,v,c,a,e⟩).n,A ((l.drop k).foldl gn ⟨n,v,c,a,e⟩).version,ay ((l.drop k).foldl gn ⟨n,v,c,a,e⟩).dv,ay ((l.drop k).foldl gn ⟨n,v,c,a,e⟩).abort,ay ((l.drop k).foldl gn ⟨n,v,c,a,e⟩).ended]) [] ->
  cl vN tab rB 0 K (d+1) n8 (xt (k:Int) (((len l):Nat):Int) l n v c a e aZ bc bn bo bm)
 |0,k,n,v,c,a,e,ad,D=>by
  rw[bW (L:=n8),Uc rfl rfl rfl rfl rfl rfl];rw[List.drop_of_length_le (by omega)]at D;exact co (by simp only[len];omega) D
 |d+1,k,n,v,c,a,e,ad,D=>by
  have aB:nth l k (z.H (z.list z.int))∈l:=by
   have:k<l.length:=by omega
   simp[nth,List.getD_eq_getElem?_getD,this]
  have a6:0<(nth l k (z.H (z.list z.int))).length:=by simpa using List.all_eq_true.1 aq _ aB
  rw[ep (by omega) (z.H (z.list z.int))]at D;obtain⟨r,aw⟩:∃r,nth l k (z.H (z.list z.int))=r:=⟨_,rfl⟩
  rw[aw]at D a6;rw[List.foldl_cons]at D;refine aiP l K aZ bc bn bo bm (d+1) k n v c a e r (by omega) ax a6 aw ?_;have kp:∀(ly eT:Int) (fK et b8:Bool),gn ⟨n,v,c,a,e⟩ r=⟨ly,eT,fK,et,b8⟩->cl vN tab rB 0 K (d+1) n8 (xt ((k+1:Nat):Int) (((len l):Nat):Int) l ly eT fK et b8 aZ bc bn bo bm):=fun ly eT fK et b8 h=>by
   rw[h]at D;exact SD l ax aq K aZ bc bn bo bm d (k+1) ly eT fK et b8 (by omega) D
  exact kp
theorem Wn:bw 138 Oz:=b2 (Γ:=vN) 0 bv Tryz.func138 (by kernel_rfl) fun vs ar=>by
 unfold Oz;split;rotate_left;trivial;rename_i l;refine⟨by kernel_rfl,fun ag K D=>?_⟩;refine⟨l.length+2,?_⟩;rw[eO,aeW _ _ _];exact SD l ag.1 ag.2 K 0 0 false false false l.length 0 0 0 false false false (by omega) D

def FU:bd
 |[.agg [.E (.list .int) ws,.E .int fu,.E .bool _,.E .int _,.E (.list .int) _,.E .int _,.E .int _,.E (.list .bool) _,.E (.list .bool) _]],[]=>some (none,.agg [A (bL ⟨ws,fu⟩).n,A (bL ⟨ws,fu⟩).version,ay (bL ⟨ws,fu⟩).dv,ay (bL ⟨ws,fu⟩).abort,ay (bL ⟨ws,fu⟩).ended],[])
 |_,_=>none

theorem Ei:bw 79 FU:=b2 0 ((bv.f Wn).f Mk) Tryz.func79 (by kernel_rfl) fun vs ar=>by
 unfold FU;split;rotate_left;trivial;rename_i ws fu up ak ah aj ai Y aa;refine⟨by kernel_rfl,fun K D=>?_⟩;refine⟨1,?_⟩;obtain⟨aC,cR⟩:∃aC,aC=iK (j8 ⟨ws,fu⟩).fst:=⟨_,rfl⟩
 refine ck (fun rec=>(by subst cR;kernel_rfl:_=(
  (len (j8 ⟨ws,fu⟩).fst<=1000/\tl (j8 ⟨ws,fu⟩).fst=true) /\
  K (.agg [A aC.n,A aC.version,ay aC.dv,ay aC.abort,ay aC.ended]) []))) ?_
 subst cR;have h:=AH ⟨ws,fu⟩;exact⟨⟨by simp only[len];omega,JS h.2⟩,D⟩

def Hg:bd
 |[.one (.E (.list .int) l)],[]=>some (some (len l<=1000/\jL l=true),.one (.E .str (fL l)),[])
 |_,_=>none
def EZ:Ctx:=[(129,y9),(164,Cd)]
def yc:List cw:=[.inLoop [8,7,6,3,2] (Code.sub (bF Tryz.f128) [1,1,0,1,0,0]),.inBlock 0,.code (Code.sub (bF Tryz.f128) [1,1,1])]
def Lq(F al:Int)(M:aJ)(ae:jx)(ao:cB):bP:=⟨[(8,.one (A F)),(7,.one (A al)),(6,.one (af M)),(3,.one (.own 0)),(2,.one (.E z.str ae))],[(0,.arr z.str ao)],1⟩
theorem afH(l:aJ)(rec:bZ)(K:aW):b7 EZ tab Tryz.f128 0 K rec [.code (bF Tryz.f128)] (df [.one (af l)] [])=(
 rec yc (Lq 0 (len l:Int) l [] [])):=by kernel_rfl
theorem Ve{F:Int}{ao:cB}{rec:bZ}{K:aW}{al M ae}{aC v0 v1}(cR:aC=fun a b=>Lq a al M ae b)(b0:v0=fW (nth M (Int.toNat F) (z.H z.int)))(cd:v1=jq ((32:UInt8)::[]) ao):b7 EZ tab Tryz.f128 0 K rec (cQ yc) (aC F ao)=(
 J (aN F al)
 (((0:Int)<=F/\F<(len M:Int)) /\
 ((0:Int)<=nth M (Int.toNat F) (z.H z.int)/\nth M (Int.toNat F) (z.H z.int)<=9223372036854775807) /\
 (len ao+len (v0::[]))*16<=140737488355328 /\
 rec yc (aC (W (F+1)) (cat ao (v0::[]))))
 ((List.length ao<=140737488355328/\List.length v1<=140737488355328) /\
 K (.one (.E z.str v1)) [])):=by subst_vars;kernel_rfl

theorem S9(l:aJ)(ax:l.length<=1000)(aq:jL l=true)(K:aW)(D:K (.one (.E .str (fL l))) [])(y:jx):∀(d k:Nat),k+d=l.length ->
  cl EZ tab Tryz.f128 0 K (d+1) yc (Lq (k:Int) (((len l):Nat):Int) l y ((l.take k).map fW))
 |0,k,ad=>by
  rw[bW (L:=yc),Ve rfl rfl rfl,List.take_of_length_le (by omega)];have I:=rZ l;unfold fL at I;exact co (by simp only[len];omega) ⟨⟨by rw[List.length_map];omega,by omega⟩,D⟩
 |d+1,k,ad=>by
  rw[bW (L:=yc),Ve rfl rfl rfl,cM];have aB:nth l k (z.H z.int)∈l:=by
   have:k<l.length:=by omega
   simp[nth,List.getD_eq_getElem?_getD,this]
  have I:=List.all_eq_true.1 aq _ aB;simp only[Bool.and_eq_true,decide_eq_true_eq]at I;refine cS (by simp only[len];omega) ⟨⟨by omega,by simp only[len];omega⟩,I,by simp only[len,List.length_map,List.length_take,List.length_cons,List.length_nil];omega,?_⟩;rw[di (by omega),show cat ((l.take k).map fW) [fW (nth l k (z.H z.int))]=(l.take (k+1)).map fW from by rw[ie (by omega) (z.H z.int)];simp[cat]];exact S9 l ax aq K D y d (k+1) (by omega)
theorem Ms:bw 128 Hg:=b2 (Γ:=EZ) 0 ((bv.f ⟨⟨_,Tryz.func164,(by kernel_rfl)⟩,WS⟩).f ⟨⟨_,Tryz.func129,(by kernel_rfl)⟩,Eo⟩) Tryz.func128 (by kernel_rfl) fun vs ar=>by
 unfold Hg;split;rotate_left;trivial;rename_i l;refine⟨by kernel_rfl,fun ag K D=>?_⟩;refine⟨l.length+2,?_⟩;rw[eO,afH _ _ _];exact S9 l ag.1 ag.2 K D [] l.length 0 (by omega)

def Hi:bd
 |[.agg [.E .int v,.E (.list .int) aF,.E .int t]],[]=>some (none,.an [.one (.E .str (sa v aF t).1),.one (A (sa v aF t).2)],[])
 |_,_=>none

theorem aiK:bw 197 Hi:=b2 0 (((bv.f Ms).f ⟨⟨_,Tryz.func129,(by kernel_rfl)⟩,Eo⟩).f Mt) Tryz.func197 (by kernel_rfl) fun vs ar=>by
 unfold Hi;split;rotate_left;trivial;rename_i v aF t;dsimp only[z.den]at v aF t;refine⟨by kernel_rfl,fun K D=>?_⟩;refine⟨1,?_⟩;refine ck (fun rec=>(by kernel_rfl:_=(
  J (!(au (ht v aF t) 0))
  (K (.an [.one (.E z.str []),.one (A (ht v aF t))]) [])
  (((0:Int)<=v/\v<=9223372036854775807) /\
  len ((114:UInt8)::(111:UInt8)::(111:UInt8)::(116:UInt8)::(32:UInt8)::[])+len (fW v)<=140737488355328 /\
  len (cat ((114:UInt8)::(111:UInt8)::(111:UInt8)::(116:UInt8)::(32:UInt8)::[]) (fW v))+len ((32:UInt8)::[])<=140737488355328 /\
  ((0:Int)<=t/\t<=9223372036854775807) /\
  len (cat (cat ((114:UInt8)::(111:UInt8)::(111:UInt8)::(116:UInt8)::(32:UInt8)::[]) (fW v)) ((32:UInt8)::[]))+len (fW t)<=140737488355328 /\
  len (cat (cat (cat ((114:UInt8)::(111:UInt8)::(111:UInt8)::(116:UInt8)::(32:UInt8)::[]) (fW v)) ((32:UInt8)::[])) (fW t))+len ((32:UInt8)::(111:UInt8)::(102:UInt8)::(32:UInt8)::[])<=140737488355328 /\
  (len aF<=1000/\jL aF=true) /\
  len (cat (cat (cat (cat ((114:UInt8)::(111:UInt8)::(111:UInt8)::(116:UInt8)::(32:UInt8)::[]) (fW v)) ((32:UInt8)::[])) (fW t)) ((32:UInt8)::(111:UInt8)::(102:UInt8)::(32:UInt8)::[]))+len (fL aF)<=140737488355328 /\
  K (.an [.one (.E z.str (cat (cat (cat (cat (cat ((114:UInt8)::(111:UInt8)::(111:UInt8)::(116:UInt8)::(32:UInt8)::[]) (fW v)) ((32:UInt8)::[])) (fW t)) ((32:UInt8)::(111:UInt8)::(102:UInt8)::(32:UInt8)::[])) (fL aF))),.one (A 0)]) [])))) ?_
 unfold sa at D;refine bN (fun h=>?_) (fun h=>?_)
 ·rw[if_neg h]at D;exact D
 rw[if_pos h]at D;obtain⟨I,G,ab,aV,br,bV⟩:=qq h;have ho:=tm v;have iX:=tm t;have iY:=rZ aF;refine⟨by omega,by simp only[len,List.length_cons,List.length_nil];omega,by simp only[len,cat,List.length_append,List.length_cons,List.length_nil];omega,by omega,by simp only[len,cat,List.length_append,List.length_cons,List.length_nil];omega,by simp only[len,cat,List.length_append,List.length_cons,List.length_nil];omega,⟨by simp only[len];omega,bV⟩,by simp only[len,cat,List.length_append,List.length_cons,List.length_nil];omega,D⟩

def Cf:bd
 |[.agg [.E (.list .str) l],.one (.E .str s)],[]=>some (some (l.length<=140737488355328),.an [.one (A (ni l s).1),.one (A (ni l s).2)],[])
 |_,_=>none

theorem Mq:bw 168 Cf:=b2 0 ((bv.f Mp).f Ep) Tryz.func168 (by kernel_rfl) fun vs ar=>by
 unfold Cf;split;rotate_left;trivial;rename_i l s;refine⟨by kernel_rfl,fun ag K D=>?_⟩;refine⟨1,?_⟩;refine ck (fun rec=>(by kernel_rfl:_=(
  J (!(au (fH l) 0))
  (K (.an [.one (A 0),.one (A (fH l))]) [])
  (List.length l<=140737488355328 /\
  K (.an [.one (A (W (fk s l+1))),.one (A 0)]) [])))) ?_
 unfold ni at D;refine bN (fun h=>?_) (fun h=>⟨ag,?_⟩)
 ·rw[if_neg h]at D;exact D
 ·rw[if_pos h]at D;have:=Ji s l 0 (by omega);rw[cc (by unfold fk;omega) (by unfold fk;omega)];exact D

def Od:bd
 |[.one (.E (.list .int) l),.one (.E .int k)],[]=>some (some (l.length<=140737488355328),.one (A (uV k 0 l)),[])
 |_,_=>none
def EM:Ctx:=[]
def xh:List cw:=[.inLoop [8,7,4,0,1] (Code.sub (bF Tryz.f216) [1,0,1,0,0]),.inBlock 0,.code (Code.sub (bF Tryz.f216) [1,1])]
def Kk(F al M:Int)(ae:aJ)(ao:Int):bP:=⟨[(8,.one (A F)),(7,.one (A al)),(4,.one (A M)),(0,.one (af ae)),(1,.one (A ao))],[],0⟩
theorem aeG(l:aJ)(k:Int)(rec:bZ)(K:aW):b7 EM tab Tryz.f216 0 K rec [.code (bF Tryz.f216)] (df [.one (af l),.one (A k)] [])=(
 rec xh (Kk 0 (len l:Int) 0 l k)):=by kernel_rfl
theorem TZ{F:Int}{rec:bZ}{K:aW}{al M ae ao}{v0}(b0:v0=fun a=>Kk a al M ae ao):b7 EM tab Tryz.f216 0 K rec (cQ xh) (v0 F)=(
 J (aN F al)
 (((0:Int)<=F/\F<(len ae:Int)) /\
 J (au ao (nth ae (Int.toNat F) (z.H z.int)))
 (K (.one (A F)) [])
 (rec xh (v0 (W (F+1)))))
 (K (.one (A (-1))) [])):=by subst_vars;kernel_rfl

theorem Ss(l:aJ)(s:Int)(ax:l.length<=140737488355328)(K:aW):∀(d k:Nat),k+d=l.length->K (.one (A (uV s k (l.drop k)))) [] ->
  cl EM tab Tryz.f216 0 K (d+1) xh (Kk (k:Int) (((len l):Nat):Int) 0 l s)
 |0,k,ad,D=>by
  rw[bW (L:=xh),TZ rfl];rw[List.drop_of_length_le (by omega)]at D;exact co (by simp only[len];omega) D
 |d+1,k,ad,D=>by
  rw[bW (L:=xh),TZ rfl,cM];rw[ep (by omega) (z.H z.int)]at D;simp only[uV]at D;refine cS (by simp only[len];omega) ⟨⟨by omega,by simp only[len];omega⟩,cz (fun h=>?_) (fun h=>?_)⟩
  ·rw[if_pos h.symm]at D;exact D
  ·rw[if_neg (fun e=>h e.symm)]at D;rw[di (by omega)];exact Ss l s ax K d (k+1) (by omega) D
theorem agY:bw 216 Od:=b2 (Γ:=EM) 0 bv Tryz.func216 (by kernel_rfl) fun vs ar=>by
 unfold Od;split;rotate_left;trivial;rename_i l k;refine⟨by kernel_rfl,fun ag K D=>?_⟩;refine⟨l.length+2,?_⟩;rw[eO,aeG _ _ _ _];exact Ss l k ag K l.length 0 (by omega) D

def FC:bd
 |[.one (.E (.list .int) l),.one (.E .int k)],[]=>some (some (l.length<=140737488355328),.one (ay (qJ k l)),[])
 |_,_=>none

theorem agZ:bw 198 FC:=b2 0 (bv.f agY) Tryz.func198 (by kernel_rfl) fun vs ar=>by
 unfold FC;split;rotate_left;trivial;rename_i l k;refine⟨by kernel_rfl,fun ag K D=>?_⟩;refine⟨1,?_⟩;refine ck (fun rec=>(by kernel_rfl:_=(
  List.length l<=140737488355328 /\
  K (.one (ay (dc 0 (uV k 0 l)))) []))) ?_
 rw[<- RD k l 0 (by omega)]at D;exact⟨ag,D⟩

def Oe:bd
 |[.one (.E (.list .signed) l),.agg [.E .int k,.E .int n]],[]=>some (some (l.length<=140737488355328),.one (A (uU k n 0 l)),[])
 |_,_=>none
def EN:Ctx:=[]
def xi:List cw:=[.inLoop [8,7,4,3,0] (Code.sub (bF Tryz.f217) [1,0,1,0,0]),.inBlock 0,.code (Code.sub (bF Tryz.f217) [1,1])]
def Kl(F al M:Int)(ae:cD)(ao aE:Int):bP:=⟨[(8,.one (A F)),(7,.one (A al)),(4,.one (A M)),(3,.one (.ptr 0 0)),(0,.one (.E (z.list z.signed) ae))],[(0,.box [A ao,A aE])],1⟩
theorem aeH(l:cD)(k n:Int)(rec:bZ)(K:aW):b7 EN tab Tryz.f217 0 K rec [.code (bF Tryz.f217)] (df [.one (.E (z.list z.signed) l),.agg [A k,A n]] [])=(
 rec xi (Kl 0 (len l:Int) 0 l k n)):=by kernel_rfl
theorem T0{F:Int}{rec:bZ}{K:aW}{al M ae ao aE}{v0}(b0:v0=fun a=>Kl a al M ae ao aE):b7 EN tab Tryz.f217 0 K rec (cQ xi) (v0 F)=(
 J (aN F al)
 (((0:Int)<=F/\F<(len ae:Int)) /\
 J ((au ao (nth ae (Int.toNat F) (z.H z.signed)).key)&&((au aE (nth ae (Int.toNat F) (z.H z.signed)).name)&&true))
 (K (.one (A F)) [])
 (rec xi (v0 (W (F+1)))))
 (K (.one (A (-1))) [])):=by subst_vars;kernel_rfl

theorem St(l:cD)(s n:Int)(ax:l.length<=140737488355328)(K:aW):∀(d k:Nat),k+d=l.length->K (.one (A (uU s n k (l.drop k)))) [] ->
  cl EN tab Tryz.f217 0 K (d+1) xi (Kl (k:Int) (((len l):Nat):Int) 0 l s n)
 |0,k,ad,D=>by
  rw[bW (L:=xi),T0 rfl];rw[List.drop_of_length_le (by omega)]at D;exact co (by simp only[len];omega) D
 |d+1,k,ad,D=>by
  rw[bW (L:=xi),T0 rfl,cM];rw[ep (by omega) (z.H z.signed)]at D;simp only[uU]at D;refine cS (by simp only[len];omega) ⟨⟨by omega,by simp only[len];omega⟩,cn (fun h=>?_) (fun h=>?_)⟩
  ·rw[if_pos (show qR s n _=true from h)]at D;exact D
  ·rw[if_neg (show ¬qR s n _=true from by rw[show qR s n (nth l k (z.H z.signed))=false from h];simp)]at D;rw[di (by omega)];exact St l s n ax K d (k+1) (by omega) D
theorem ag0:bw 217 Oe:=b2 (Γ:=EN) 0 bv Tryz.func217 (by kernel_rfl) fun vs ar=>by
 unfold Oe;split;rotate_left;trivial;rename_i l k n;refine⟨by kernel_rfl,fun ag K D=>?_⟩;refine⟨l.length+2,?_⟩;rw[eO,aeH _ _ _ _ _];exact St l k n ag K l.length 0 (by omega) D

def FD:bd
 |[.one (.E (.list .signed) l),.agg [.E .int k,.E .int n]],[]=>some (some (l.length<=140737488355328),.one (ay (mA k n l)),[])
 |_,_=>none

theorem ag1:bw 199 FD:=b2 0 (bv.f ag0) Tryz.func199 (by kernel_rfl) fun vs ar=>by
 unfold FD;split;rotate_left;trivial;rename_i l k n;refine⟨by kernel_rfl,fun ag K D=>?_⟩;refine⟨1,?_⟩;refine ck (fun rec=>(by kernel_rfl:_=(
  List.length l<=140737488355328 /\
  K (.one (ay (dc 0 (uU k n 0 l)))) []))) ?_
 rw[<- RC k n l 0 (by omega)]at D;exact⟨ag,D⟩

def BS:bd
 |[.one (.E (.list .signed) l),.agg [.E .int v,.E (.list .int) aF,.E .int t],.one (.E (.list .int) a7),.one (.E .int n)],[]=>some (none,.an [.one (A (ir l ⟨v,aF,t⟩ a7 n).1),.one (A (ir l ⟨v,aF,t⟩ a7 n).2)],[])
 |_,_=>none
def M5:Ctx:=[(46,y4),(151,Hh),(198,FC),(199,FD)]
def tt:List cw:=[.inLoop [31,30,29,12,9,8,0,2,3] (Code.sub (bF Tryz.f180) [1,1,1,1,1,0,1,0,0]),.inBlock 0,.code (Code.sub (bF Tryz.f180) [1,1,1,1,1,1])]
def Kn(F al:Int)(M:aJ)(ae ao aE:Int)(aH:cD)(aS:aJ)(aZ:Int):bP:=⟨[(31,.one (A F)),(30,.one (A al)),(29,.one (af M)),(12,.one (A ae)),(9,.one (A ao)),(8,.one (A aE)),(0,.one (.E (z.list z.signed) aH)),(2,.one (af aS)),(3,.one (A aZ))],[],0⟩
theorem T2{F ae:Int}{rec:bZ}{K:aW}{al M ao aE aH aS aZ}{aC v0 v1}(cR:aC=fun a b=>Kn a al M b ao aE aH aS aZ)(b0:v0=qJ (nth M (Int.toNat F) (z.H z.int)) aS)(cd:v1=mA (nth M (Int.toNat F) (z.H z.int)) aZ aH):b7 M5 tab Tryz.f180 0 K rec (cQ tt) (aC F ae)=(
 J (aN F al)
 (((0:Int)<=F/\F<(len M:Int)) /\
 List.length aS<=140737488355328 /\
 J v0
 (List.length aH<=140737488355328 /\
 J v1
 (rec tt (aC (W (F+1)) (W (ae+1))))
 (rec tt (aC (W (F+1)) ae)))
 (rec tt (aC (W (F+1)) ae)))
 (K (.an [.one (A ae),.one (A 0)]) [])):=by subst_vars;kernel_rfl

theorem Ds(l:cD)(aF a7:aJ)(n:Int)(m5:aF.length<=6)(ax:l.length<=360)(av:a7.length<=50)(K:aW)(ao aE:Int):∀(d k c:Nat),k+d=aF.length->c<=k->K (.an [.one (A ((c+mW l a7 n (aF.drop k):Nat):Int)),.one (A 0)]) [] ->
  cl M5 tab Tryz.f180 0 K (d+1) tt (Kn (k:Int) (((len aF):Nat):Int) aF (c:Int) ao aE l a7 n)
 |0,k,c,ad,az,D=>by
  rw[bW (L:=tt),T2 rfl rfl rfl];rw[List.drop_of_length_le (by omega)]at D;exact co (by simp only[len];omega) D
 |d+1,k,c,ad,az,D=>by
  rw[bW (L:=tt),T2 rfl rfl rfl,cM];rw[ep (by omega) (z.H z.int),PA]at D;obtain⟨x,aG⟩:∃x,nth aF k (z.H z.int)=x:=⟨_,rfl⟩
  rw[aG]at D |-;rw[di (k:=k) (by omega),di (k:=c) (by omega)];have no:oc l a7 n x=false->K (.an [.one (A ((c+mW l a7 n (aF.drop (k+1)):Nat):Int)),.one (A 0)]) []:=fun h=>by
   rw[if_neg (by rw[h];simp),Nat.zero_add]at D;exact D
  refine cS (by simp only[len];omega) ⟨⟨by omega,by simp only[len];omega⟩,by omega,cn (fun h=>⟨by omega,cn (fun G=>?_) (fun G=>?_)⟩) (fun h=>?_)⟩
  ·rw[if_pos (show oc l a7 n x=true from by simp[oc,h,G])]at D;exact Ds l aF a7 n m5 ax av K ao aE d (k+1) (c+1) (by omega) (by omega) (by rw[show c+1+mW l a7 n (aF.drop (k+1))=c+(1+mW l a7 n (aF.drop (k+1)))by omega];exact D)
  ·exact Ds l aF a7 n m5 ax av K ao aE d (k+1) c (by omega) (by omega) (no (by simp[oc,G]))
  ·exact Ds l aF a7 n m5 ax av K ao aE d (k+1) c (by omega) (by omega) (no (by simp[oc,h]))
theorem We:bw 180 BS:=b2 (Γ:=M5) 0 ((((bv.f ag1).f agZ).f Mt).f L2) Tryz.func180 (by kernel_rfl) fun vs ar=>by
 unfold BS;split;rotate_left;trivial;rename_i l v aF t a7 n;refine⟨by kernel_rfl,fun K D=>?_⟩;refine⟨aF.length+2,?_⟩;refine ck (fun rec=>(by kernel_rfl:_=(
  J (!(au (iq l) 0))
  (K (.an [.one (A 0),.one (A (iq l))]) [])
  (J (!(au (ht v aF t) 0))
  (K (.an [.one (A 0),.one (A (ht v aF t))]) [])
  (J (aN 50 (len a7:Int))
  (K (.an [.one (A 0),.one (A 2)]) [])
  (rec tt (Kn 0 (len aF:Int) aF 0 0 0 l a7 n))))))) ?_
 unfold ir at D;simp only at D;refine bN (fun h=>?_) (fun h=>bN (fun G=>?_) (fun G=>bq (fun ab=>?_) (fun ab=>?_)))
 ·rw[if_neg h]at D;exact D
 ·rw[if_pos h,if_neg G]at D;exact D
 ·rw[if_pos h,if_pos G,if_pos (by simp only[len]at ab;omega)]at D;exact D
 ·rw[if_pos h,if_pos G,if_neg (by simp only[len]at ab;omega)]at D;have ax:l.length<=360:=by
   unfold iq at h
   by_cases c:360<l.length
   ·rw[if_pos c]at h;cases h
   ·omega
  exact Ds l aF a7 n (qq G).2.2.2.2.1 ax (by simp only[len]at ab;omega) K 0 0 aF.length 0 0 (by omega) (by omega) (by rw[Nat.zero_add];exact D)

def FE:bd
 |[.agg [.E (.list .str) b],.one (.E (.list .signed) l),.agg [.E .int v,.E (.list .int) aF,.E .int t,.E .int n],.agg [.E .int eD,.E (.list .int) eh,.E .int eL],.one (.E (.list .int) a7)],[]=>some (some (b.length<=140737488355328),.an [.agg [A (gE b l ⟨⟨v,aF,t⟩,n⟩ ⟨eD,eh,eL⟩ a7).1.r.version,af (gE b l ⟨⟨v,aF,t⟩,n⟩ ⟨eD,eh,eL⟩ a7).1.r.keys,A (gE b l ⟨⟨v,aF,t⟩,n⟩ ⟨eD,eh,eL⟩ a7).1.r.ej,A (gE b l ⟨⟨v,aF,t⟩,n⟩ ⟨eD,eh,eL⟩ a7).1.version],.one (A (gE b l ⟨⟨v,aF,t⟩,n⟩ ⟨eD,eh,eL⟩ a7).2)],[])
 |_,_=>none
def Be:Ctx:=[(104,BT),(197,Hi),(168,Cf),(180,BS),(60,y6)]
def q2:List cw:=[.inLoop [57,56,15,11,10,8,7,1,4] (Code.sub (bF Tryz.f179) [1,1,1,1,1,1,1,0,1,0,0]),.inBlock 0,.code (Code.sub (bF Tryz.f179) [1,1,1,1,1,1,1,1])]
def AA(F al:Int)(M:aJ)(ae ao:Int)(aE:aJ)(aH aS aZ:Int)(bc:cD)(bn:aJ)(bo bm bC bJ:Int)(bI:aJ)(bM bz:Int)(bS:aJ)(bY cq:Int)(cv:aJ):bP:=⟨[(57,.one (A F)),(56,.agg [A al,af M,A ae,A ao,af aE,A aH]),(15,.one (A aS)),(11,.one (A aZ)),(10,.one (.ptr 0 0)),(8,.one (.ptr 1 0)),(7,.one (.ptr 2 0)),(1,.one (.E (z.list z.signed) bc)),(4,.one (af bn))],[(0,.box [A bo,.own 3,A bm,A bC]),(1,.box [A bJ,af bI,A bM]),(2,.box [A bz,af bS,A bY,A cq]),(3,.arr z.int cv)],4⟩
theorem aeI{al ae ao aH aS aZ bo bm bC bJ bM bz bY cq:Int}{M aE bn bI bS cv:aJ}{bc:cD}{rec:bZ}{K:aW}{v1 v0}(cd:v1=fun a=>AA a al M ae ao aE aH aS aZ bc bn bo bm bC bJ bI bM bz bS bY cq cv)(b0:v0=ir bc ⟨al,M,ae⟩ bn aS):b7 Be tab Tryz.f179 0 K rec (cQ q2) (v1 0)=(
 ((0:Int)<=(0:Int)/\(0:Int)<((2:Nat):Int)) /\
 J (!(au v0.snd 0))
 (K (.an [.agg [A (0:Int),af [],A (0:Int),A (0:Int)],.one (A v0.snd)]) [])
 (J (aN v0.fst ae)
 (K (.an [.agg [A (0:Int),af [],A (0:Int),A (0:Int)],.one (A 9)]) [])
 (rec q2 (v1 (W ((0:Int)+(1:Int))))))):=by subst_vars;kernel_rfl
theorem aeJ{al ae ao aH aS aZ bo bm bC bJ bM bz bY cq:Int}{M aE bn bI bS cv:aJ}{bc:cD}{rec:bZ}{K:aW}{v1 v0}(cd:v1=fun a=>AA a al M ae ao aE aH aS aZ bc bn bo bm bC bJ bI bM bz bS bY cq cv)(b0:v0=ir bc ⟨ao,aE,aH⟩ bn aS):b7 Be tab Tryz.f179 0 K rec (cQ q2) (v1 1)=(
 ((0:Int)<=(1:Int)/\(1:Int)<((2:Nat):Int)) /\
 J (!(au v0.snd 0))
 (K (.an [.agg [A (0:Int),af [],A (0:Int),A (0:Int)],.one (A v0.snd)]) [])
 (J (aN v0.fst aH)
 (K (.an [.agg [A (0:Int),af [],A (0:Int),A (0:Int)],.one (A 9)]) [])
 (rec q2 (v1 (W ((1:Int)+(1:Int))))))):=by subst_vars;kernel_rfl
theorem aeK{al ae ao aH aS aZ bo bm bC bJ bM bz bY cq:Int}{M aE bn bI bS cv:aJ}{bc:cD}{rec:bZ}{K:aW}:b7 Be tab Tryz.f179 0 K rec (cQ q2) (AA 2 al M ae ao aE aH aS aZ bc bn bo bm bC bJ bI bM bz bS bY cq cv)=(
 len bI*8<=140737488355328 /\
 K (.an [.agg [A bJ,af bI,A bM,A cq],.one (A 0)]) []):=by kernel_rfl
theorem aky{al ae ao aH aS aZ bo bm bC bJ bM bz bY cq:Int}{M aE bn bI bS cv:aJ}{bc:cD}{rec:bZ}{K:aW}:b7 Be tab Tryz.f179 0 K rec (cQ q2) (AA 3 al M ae ao aE aH aS aZ bc bn bo bm bC bJ bI bM bz bS bY cq cv)=(
 len bI*8<=140737488355328 /\
 K (.an [.agg [A bJ,af bI,A bM,A cq],.one (A 0)]) []):=by kernel_rfl

theorem ag2:bw 179 FE:=b2 (Γ:=Be) 0 (((((bv.f vu).f We).f Mq).f aiK).f L3) Tryz.func179 (by kernel_rfl) fun vs ar=>by
 unfold FE;split;rotate_left;trivial;rename_i b l v aF t n eD eh eL a7;refine⟨by kernel_rfl,fun ag K D=>?_⟩;refine⟨5,?_⟩;obtain⟨aC,cR⟩:∃aC,aC=ni b (sa eD eh eL).fst:=⟨_,rfl⟩
 refine ck (fun rec=>(by subst cR;kernel_rfl:_=(
  J (!(au (g2 ⟨⟨v,aF,t⟩,n⟩) 0))
  (K (.an [.agg [A (0:Int),af [],A (0:Int),A (0:Int)],.one (A (g2 ⟨⟨v,aF,t⟩,n⟩))]) [])
  (J (!(au (sa eD eh eL).snd 0))
  (K (.an [.agg [A (0:Int),af [],A (0:Int),A (0:Int)],.one (A (sa eD eh eL).snd)]) [])
  (List.length b<=140737488355328 /\
  J (!(au aC.snd 0))
  (K (.an [.agg [A (0:Int),af [],A (0:Int),A (0:Int)],.one (A aC.snd)]) [])
  (J (!(au eD (W (v+1))))
  (K (.an [.agg [A (0:Int),af [],A (0:Int),A (0:Int)],.one (A 10)]) [])
  (rec q2 (AA 0 v aF t eD eh eL aC.fst 0 l a7 0 0 0 eD eh eL v aF t n [])))))))) ?_
 subst cR;have bad:∀e:Int,e≠0->q6 b l ⟨⟨v,aF,t⟩,n⟩ ⟨eD,eh,eL⟩ a7=e->K (.an [.agg [A 0,af [],A 0,A 0],.one (A e)]) []:=fun e bp h=>by
  rw[show gE b l ⟨⟨v,aF,t⟩,n⟩ ⟨eD,eh,eL⟩ a7=(lz,e)from by unfold gE;rw[if_neg (by rw[h];exact bp),h]]at D;exact D
 refine bN (fun h=>bad _ h (if_neg h)) (fun h=>?_);have em:q6 b l ⟨⟨v,aF,t⟩,n⟩ ⟨eD,eh,eL⟩ a7=_:=if_pos h;refine bN (fun G=>?_) (fun G=>⟨ag,?_⟩)
 ·unfold sa at G |-
  by_cases c:ht eD eh eL=0
  ·rw[if_pos c]at G;exact absurd rfl G
  ·rw[if_neg c];exact bad _ c (em.trans (if_neg c))
 have bb:ht eD eh eL=0:=by
  by_cases c:ht eD eh eL=0
  ·exact c
  ·unfold sa at G;rw[if_neg c]at G;exact G
 rw[show sa eD eh eL=(jO eD eh eL,0)from if_pos bb];have dL:=em.trans (if_pos bb);refine bN (fun ab=>?_) (fun ab=>?_)
 ·unfold ni at ab |-
  by_cases c:fH b=0
  ·rw[if_pos c]at ab;exact absurd rfl ab
  ·rw[if_neg c];exact bad _ c (dL.trans (if_neg c))
 have cr:fH b=0:=by
  by_cases c:fH b=0
  ·exact c
  ·unfold ni at ab;rw[if_neg c]at ab;exact ab
 have gr:=dL.trans (if_pos cr);simp only[show ni b (jO eD eh eL)=(fk (jO eD eh eL) b+1,0)from if_pos cr];obtain⟨t1,t2,t3⟩:=zd h;obtain⟨gm,hy,hM,p6,DZ,_⟩:=qq t3;obtain⟨cJ,cE,ey,gw,np,_⟩:=qq bb;simp only at t1 t2 gm hy hM p6 DZ;rw[cc (n:=v+1) (by omega) (by omega)];refine bN (fun aV=>bad _ (by decide) (gr.trans (if_neg aV))) (fun aV=>?_);have hZ:=gr.trans (if_pos aV);have step:∀(r:qi) (P Q R:Prop),(gJ l r a7 (fk (jO eD eh eL) b+1)≠0->(ir l r a7 (fk (jO eD eh eL) b+1)).2≠0->(ir l r a7 (fk (jO eD eh eL) b+1)).2=gJ l r a7 (fk (jO eD eh eL) b+1)->P)->(gJ l r a7 (fk (jO eD eh eL) b+1)=9->Q)->(gJ l r a7 (fk (jO eD eh eL) b+1)=0->R) ->
   J (!au (ir l r a7 (fk (jO eD eh eL) b+1)).2 0) P (J (aN (ir l r a7 (fk (jO eD eh eL) b+1)).1 r.ej) Q R):=fun r P Q R m4 pH gY=>by
  refine bN (fun g=>?_) (fun g=>bq (fun bf=>pH ?_) (fun bf=>gY ?_))
  ·have e:gJ l r a7 (fk (jO eD eh eL) b+1)=(ir l r a7 (fk (jO eD eh eL) b+1)).2:=if_neg g;exact m4 (by rw[e];exact g) g e.symm
  ·unfold gJ;rw[if_pos g,if_pos bf]
  ·unfold gJ;rw[if_pos g,if_neg (by omega)]
 rw[bW (L:=q2),aeI rfl rfl];refine⟨by omega,step ⟨v,aF,t⟩ _ _ _ (fun g a1 bf=>bad _ a1 ((hZ.trans (if_neg g)).trans bf.symm)) (fun g=>bad _ (by decide) ((hZ.trans (if_neg (by rw[g];decide))).trans g)) (fun g=>?_)⟩;have mr:=hZ.trans (if_pos g);rw[show W ((0:Int)+1)=1 from cc (by omega) (by omega),bW (L:=q2),aeJ rfl rfl];refine⟨by omega,step ⟨eD,eh,eL⟩ _ _ _ (fun g a1 bf=>bad _ a1 (mr.trans bf.symm)) (fun g=>bad _ (by decide) (mr.trans g)) (fun g=>?_)⟩;rw[show W ((1:Int)+1)=2 from cc (by omega) (by omega),bW (L:=q2),aeK ];refine⟨by simp only[len];omega,?_⟩;rw[show gE b l ⟨⟨v,aF,t⟩,n⟩ ⟨eD,eh,eL⟩ a7=(⟨⟨eD,eh,eL⟩,n⟩,0)from if_pos (mr.trans g)]at D;exact D

def FF:bd
 |[.one (.E .int e)],[]=>some (none,.an [.agg [A 0,af [],A 0,A 0],.one (A e)],[])
 |_,_=>none

theorem ag3:bw 178 FF:=b2 0 bv Tryz.func178 (by kernel_rfl) fun vs ar=>by
 unfold FF;split;rotate_left;trivial;rename_i e;refine⟨by kernel_rfl,fun K D=>?_⟩;refine⟨1,?_⟩;refine ck (fun rec=>(by kernel_rfl:_=(
  K (.an [.agg [A (0:Int),af [],A (0:Int),A (0:Int)],.one (A e)]) []))) ?_
 exact D

def Ci:bd
 |[.agg [.E .int v,.E .int u,.E (.list .target) ts]],[]=>some (none,.an [.one (.E .str (mI v u ts).1),.one (A (mI v u ts).2)],[])
 |_,_=>none
def NA:Ctx:=[(106,Cg),(129,y9),(128,Hg)]
def yf:List cw:=[.inLoop [25,24,23,5,3,2] (Code.sub (bF Tryz.f75) [1,1,1,0,1,0,0]),.inBlock 0,.code (Code.sub (bF Tryz.f75) [1,1,1,1])]
def Lt(F al:Int)(M:LT)(ae:jx)(ao:Int)(aE:jx):bP:=⟨[(25,.one (A F)),(24,.one (A al)),(23,.one (.E (z.list z.target) M)),(5,.one (.E z.str ae)),(3,.one (A ao)),(2,.one (.E z.str aE))],[],0⟩
theorem Vi{F:Int}{ae:jx}{rec:bZ}{K:aW}{al M ao aE}{aC v0 v1}(cR:aC=fun a b=>Lt a al M b ao aE)(b0:v0=jL ((nth M (Int.toNat F) (z.H z.target)).unit::(nth M (Int.toNat F) (z.H z.target)).image::(nth M (Int.toNat F) (z.H z.target)).dp::[]))(cd:v1=fL ((nth M (Int.toNat F) (z.H z.target)).unit::(nth M (Int.toNat F) (z.H z.target)).image::(nth M (Int.toNat F) (z.H z.target)).dp::[])):b7 NA tab Tryz.f75 0 K rec (cQ yf) (aC F ae)=(
 J (aN F al)
 (((0:Int)<=F/\F<(len M:Int)) /\
 (len ((nth M (Int.toNat F) (z.H z.target)).unit::(nth M (Int.toNat F) (z.H z.target)).image::(nth M (Int.toNat F) (z.H z.target)).dp::[])<=1000/\v0=true) /\
 len ((59:UInt8)::(32:UInt8)::[])+len v1<=140737488355328 /\
 len ae+len (cat ((59:UInt8)::(32:UInt8)::[]) v1)<=140737488355328 /\
 rec yf (aC (W (F+1)) (cat ae (cat ((59:UInt8)::(32:UInt8)::[]) v1))))
 (K (.an [.one (.E z.str ae),.one (A 0)]) [])):=by subst_vars;kernel_rfl

theorem Tc(ts:LT)(ax:ts.length<=4)(aq:∀t∈ts,0<=t.unit/\t.unit<=1000/\0<=t.image/\t.image<=1000/\0<=t.dp/\t.dp<=1000)(K:aW)(pre:jx)(ag:pre.length<=1000)(ao:Int)(aE:jx)(D:K (.an [.one (.E .str (pre++nu ts)),.one (A 0)]) []):∀(d k:Nat),k+d=ts.length->(nu (ts.take k)).length<=65*k ->
  cl NA tab Tryz.f75 0 K (d+1) yf (Lt (k:Int) (((len ts):Nat):Int) ts (pre++nu (ts.take k)) ao aE)
 |0,k,ad,aI=>by
  rw[bW (L:=yf),Vi rfl rfl rfl,List.take_of_length_le (by omega)];exact co (by simp only[len];omega) D
 |d+1,k,ad,aI=>by
  have bl:=ie (l:=ts) (k:=k) (by omega) (z.H z.target);have aB:nth ts k (z.H z.target)∈ts:=by
   have:k<ts.length:=by omega
   simp[nth,List.getD_eq_getElem?_getD,this]
  have aG:=aq _ aB;have step:nu (ts.take (k+1))=nu (ts.take k)++yv (nth ts k (z.H z.target)):=by rw[bl];simp[nu]
  rw[bW (L:=yf),Vi rfl rfl rfl,cM];obtain⟨x,rX⟩:∃x,nth ts k (z.H z.target)=x:=⟨_,rfl⟩
  rw[rX]at aG step |-;have dV:=rZ [x.unit,x.image,x.dp];simp only[List.length_cons,List.length_nil]at dV;have mX:(yv x).length=2+(fL [x.unit,x.image,x.dp]).length:=by simp[yv];omega
  have hv:W ((k:Int)+1)=((k+1:Nat):Int):=di (by omega);rw[hv];refine cS (by simp only[len];omega) ⟨⟨by omega,by simp only[len];omega⟩,⟨by simp[len],?_⟩,by simp only[len,List.length_cons,List.length_nil];omega,by simp only[len,cat,List.length_append,List.length_cons,List.length_nil];omega,?_⟩
  ·simp only[jL,List.all_cons,List.all_nil,Bool.and_true,Bool.and_eq_true,decide_eq_true_eq];omega
  ·have:=Tc ts ax aq K pre ag ao aE D d (k+1) (by omega) (by rw[step,List.length_append,mX];omega);rw[step]at this;have e:cat (pre++nu (ts.take k)) (cat [59,32] (fL [x.unit,x.image,x.dp]))=pre++(nu (ts.take k)++yv x):=by simp[cat,yv]
   rw[<- e]at this;exact this
theorem WU:bw 75 Ci:=b2 (Γ:=NA) 0 (((bv.f Ms).f ⟨⟨_,Tryz.func129,(by kernel_rfl)⟩,Eo⟩).f WT) Tryz.func75 (by kernel_rfl) fun vs ar=>by
 unfold Ci;split;rotate_left;trivial;rename_i v u ts;dsimp only[z.den]at v u ts;refine⟨by kernel_rfl,fun K D=>?_⟩;refine⟨ts.length+2,?_⟩;refine ck (fun rec=>(by kernel_rfl:_=(
  J (!(au (gD v u ts) 0))
  (K (.an [.one (.E z.str []),.one (A (gD v u ts))]) [])
  (((0:Int)<=v/\v<=9223372036854775807) /\
  len ((114:UInt8)::(101:UInt8)::(108:UInt8)::(101:UInt8)::(97:UInt8)::(115:UInt8)::(101:UInt8)::(32:UInt8)::[])+len (fW v)<=140737488355328 /\
  len (cat ((114:UInt8)::(101:UInt8)::(108:UInt8)::(101:UInt8)::(97:UInt8)::(115:UInt8)::(101:UInt8)::(32:UInt8)::[]) (fW v))+len ((32:UInt8)::(117:UInt8)::(110:UInt8)::(116:UInt8)::(105:UInt8)::(108:UInt8)::(32:UInt8)::[])<=140737488355328 /\
  ((0:Int)<=u/\u<=9223372036854775807) /\
  len (cat (cat ((114:UInt8)::(101:UInt8)::(108:UInt8)::(101:UInt8)::(97:UInt8)::(115:UInt8)::(101:UInt8)::(32:UInt8)::[]) (fW v)) ((32:UInt8)::(117:UInt8)::(110:UInt8)::(116:UInt8)::(105:UInt8)::(108:UInt8)::(32:UInt8)::[]))+len (fW u)<=140737488355328 /\
  rec yf (Lt 0 (len ts:Int) ts (cat (cat (cat ((114:UInt8)::(101:UInt8)::(108:UInt8)::(101:UInt8)::(97:UInt8)::(115:UInt8)::(101:UInt8)::(32:UInt8)::[]) (fW v)) ((32:UInt8)::(117:UInt8)::(110:UInt8)::(116:UInt8)::(105:UInt8)::(108:UInt8)::(32:UInt8)::[])) (fW u)) 0 []))))) ?_
 unfold mI at D;refine bN (fun h=>?_) (fun h=>?_)
 ·rw[if_neg h]at D;exact D
 rw[if_pos h]at D;obtain⟨I,G,ab,aV,br,bV,dm⟩:=zc h;have ho:=tm v;have iX:=tm u;refine⟨by omega,by simp only[len,List.length_cons,List.length_nil];omega,by simp only[len,cat,List.length_append,List.length_cons,List.length_nil];omega,by omega,by simp only[len,cat,List.length_append,List.length_cons,List.length_nil];omega,?_⟩;have:=Tc ts bV dm K ([114,101,108,101,97,115,101,32]++fW v++[32,117,110,116,105,108,32]++fW u) (by simp only[List.length_append,List.length_cons,List.length_nil];omega) 0 [] D ts.length 0 (by omega) (by simp[nu]);rw[show nu (ts.take 0)=[]from by simp[nu],List.append_nil]at this;exact this

def Hj:bd
 |[.one (.E (.list .int) l)],[]=>some (none,.an [.one (.E .str (kJ l).1),.one (A (kJ l).2)],[])
 |_,_=>none

theorem WV:bw 74 Hj:=b2 0 ((bv.f Ms).f Mu) Tryz.func74 (by kernel_rfl) fun vs ar=>by
 unfold Hj;split;rotate_left;trivial;rename_i l;refine⟨by kernel_rfl,fun K D=>?_⟩;refine⟨1,?_⟩;refine ck (fun rec=>(by kernel_rfl:_=(
  J (!(au (fY l) 0))
  (K (.an [.one (.E z.str []),.one (A (fY l))]) [])
  ((len l<=1000/\jL l=true) /\
  len ((105:UInt8)::(109:UInt8)::(97:UInt8)::(103:UInt8)::(101:UInt8)::(32:UInt8)::[])+len (fL l)<=140737488355328 /\
  K (.an [.one (.E z.str (cat ((105:UInt8)::(109:UInt8)::(97:UInt8)::(103:UInt8)::(101:UInt8)::(32:UInt8)::[]) (fL l))),.one (A 0)]) [])))) ?_
 unfold kJ at D;refine bN (fun h=>?_) (fun h=>?_)
 ·rw[if_neg h]at D;exact D
 rw[if_pos h]at D;obtain⟨I,G,ab⟩:=wi h;have iY:=rZ l;exact⟨⟨by simp only[len];omega,To ab⟩,by simp only[len,List.length_cons,List.length_nil];omega,D⟩

def za:bd
 |[.agg [.E (.list .str) l],.one (.E (.list .int) ws)],[]=>some (some (l.length<=140737488355328),.an [.one (A (hk l ws).1),.one (A (hk l ws).2)],[])
 |_,_=>none

theorem Mv:bw 132 za:=b2 0 ((bv.f Mq).f WV) Tryz.func132 (by kernel_rfl) fun vs ar=>by
 unfold za;split;rotate_left;trivial;rename_i l ws;refine⟨by kernel_rfl,fun ag K D=>?_⟩;refine⟨1,?_⟩;refine ck (fun rec=>(by kernel_rfl:_=(
  J (!(au (kJ ws).snd 0))
  (K (.an [.one (A 0),.one (A (kJ ws).snd)]) [])
  (List.length l<=140737488355328 /\
  K (.an [.one (A (ni l (kJ ws).fst).fst),.one (A (ni l (kJ ws).fst).snd)]) [])))) ?_
 unfold hk at D
 by_cases h:fY ws=0
 ·rw[if_pos h]at D;rw[show kJ ws=(s9 ws,0)from if_pos h];exact u5 rfl ⟨ag,D⟩
 ·rw[if_neg h]at D;rw[show kJ ws=([],fY ws)from if_neg h];exact Tk h D

def Of:bd
 |[.agg [.E (.list .str) b],.one (.E (.list .signed) l),.agg [.E .int v,.E (.list .int) aF,.E .int t,.E .int n],.agg [.E (.list .root) rs,.E (.list (.list .int)) rg,.E .int bR,.E .int b4,.E (.list .target) ts,.E (.list .int) a7,.E (.list (.list .int)) bG],.one (.E .int now),.one (.E .int aL)],[]=>some (some (b.length<=140737488355328),.an [.agg [A (g1 b l ⟨⟨v,aF,t⟩,n⟩ ⟨rs,rg,⟨bR,b4,ts⟩,a7,bG⟩ now aL).1.r.version,af (g1 b l ⟨⟨v,aF,t⟩,n⟩ ⟨rs,rg,⟨bR,b4,ts⟩,a7,bG⟩ now aL).1.r.keys,A (g1 b l ⟨⟨v,aF,t⟩,n⟩ ⟨rs,rg,⟨bR,b4,ts⟩,a7,bG⟩ now aL).1.r.ej,A (g1 b l ⟨⟨v,aF,t⟩,n⟩ ⟨rs,rg,⟨bR,b4,ts⟩,a7,bG⟩ now aL).1.version],.one (A (g1 b l ⟨⟨v,aF,t⟩,n⟩ ⟨rs,rg,⟨bR,b4,ts⟩,a7,bG⟩ now aL).2)],[])
 |_,_=>none
def Bf:Ctx:=[(104,BT),(179,FE),(178,FF),(75,Ci),(168,Cf),(180,BS),(132,za),(60,y6)]
def xk:List cw:=[.inLoop [57,56,55,14,13,12,9,8,6,1,4,5] (cZ sI [1,1,1,1,0,1,0,0]),.inBlock 0,.code (cZ sI [1,1,1,1,1])]
def Ko(F al:Int)(M:hE)(ae:Int)(ao:cD)(aE aH aS aZ bc:Int)(bn:hE)(bo:cu)(bm bC:Int)(bJ:LT)(bI:aJ)(bM:cu)(bz:Int)(bS:aJ)(bY cq:Int)(cv:cB)(cN:aJ):bP:=⟨[(57,.one (A F)),(56,.one (A al)),(55,.one (.E (z.list z.root) M)),(14,.one (.fn 178 [])),(13,.one (A ae)),(12,.one (.ptr 0 0)),(9,.one (.ptr 1 0)),(8,.one (.ptr 2 0)),(6,.one (.ptr 3 0)),(1,.one (.E (z.list z.signed) ao)),(4,.one (A aE)),(5,.one (A aH))],[(0,.box [A aS,.own 4,A aZ,A bc]),(1,.box [.E (z.list z.root) bn,cH bo,A bm,A bC,.E (z.list z.target) bJ,af bI,cH bM]),(2,.box [A bz,af bS,A bY,A cq]),(3,.box [.E (z.list z.str) cv]),(4,.arr z.int cN)],5⟩
def xl:List cw:=[.inLoop [181,180,179,14,13,12,9,8,6] (cZ sI [1,1,1,1,1,1,1,1,1,1,1,0,1,0,0]),.inBlock 3,.code (cZ sI [1,1,1,1,1,1,1,1,1,1,1,1])]
def Kp(F al:Int)(M:LT)(ae ao aE aH:Int)(aS:hE)(aZ:cu)(bc bn:Int)(bo:LT)(bm:aJ)(bC:cu)(bJ:Int)(bI:aJ)(bM bz:Int)(bS:cB)(bY:aJ):bP:=⟨[(181,.one (A F)),(180,.one (A al)),(179,.one (.E (z.list z.target) M)),(14,.one (.fn 178 [])),(13,.one (A ae)),(12,.one (.ptr 0 0)),(9,.one (.ptr 1 0)),(8,.one (.ptr 2 0)),(6,.one (.ptr 3 0))],[(0,.box [A ao,.own 4,A aE,A aH]),(1,.box [.E (z.list z.root) aS,cH aZ,A bc,A bn,.E (z.list z.target) bo,af bm,cH bC]),(2,.box [A bJ,af bI,A bM,A bz]),(3,.box [.E (z.list z.str) bS]),(4,.arr z.int bY)],5⟩
theorem T3{F bz bY cq:Int}{bS:aJ}{rec:bZ}{K:aW}{al M ae ao aE aH aS aZ bc bn bo bm bC bJ bI bM cv cN}{v4 v0 v1 aC v3 cf}(e1:v4=fun a b c d e=>Ko a al M ae ao aE aH aS aZ bc bn bo bm bC bJ bI bM b c d e cv cN)(b0:v0=gE cv ao ⟨⟨bz,bS,bY⟩,cq⟩ ⟨(nth M (Int.toNat F) (z.H z.root)).version,(nth M (Int.toNat F) (z.H z.root)).keys,(nth M (Int.toNat F) (z.H z.root)).ej⟩ (nth bo (Int.toNat F) (z.H (z.list z.int))))(cd:v1=mI bm bC bJ)(cR:aC=ni cv v1.fst)(ef:v3=ir ao ⟨bz,bS,bY⟩ bI aC.fst)(g5:cf=K (.an [.agg [A (0:Int),af [],A (0:Int),A (0:Int)],.one (A 4)]) []):b7 Bf tab sI 0 K rec (cQ xk) (v4 F bz bS bY cq)=(
 J (aN F al)
 (((0:Int)<=F/\F<(len M:Int)) /\
 ((0:Int)<=F/\F<(len bo:Int)) /\
 List.length cv<=140737488355328 /\
 J (!(au v0.snd 0))
 (K (.an [.agg [A (0:Int),af [],A (0:Int),A (0:Int)],.one (A v0.snd)]) [])
 (rec xk (v4 (W (F+1)) v0.fst.r.version v0.fst.r.keys v0.fst.r.ej v0.fst.version)))
 (J (!(au v1.snd 0))
 (K (.an [.agg [A (0:Int),af [],A (0:Int),A (0:Int)],.one (A v1.snd)]) [])
 (List.length cv<=140737488355328 /\
 J (!(au aC.snd 0))
 (K (.an [.agg [A (0:Int),af [],A (0:Int),A (0:Int)],.one (A aC.snd)]) [])
 (J (!(au v3.snd 0))
 (K (.an [.agg [A (0:Int),af [],A (0:Int),A (0:Int)],.one (A v3.snd)]) [])
 (J (aN v3.fst bY)
 (K (.an [.agg [A (0:Int),af [],A (0:Int),A (0:Int)],.one (A 9)]) [])
 (J (dc bm cq)
 (K (.an [.agg [A (0:Int),af [],A (0:Int),A (0:Int)],.one (A 10)]) [])
 (J (aN bC aE)
 (K (.an [.agg [A (0:Int),af [],A (0:Int),A (0:Int)],.one (A 11)]) [])
 (J (!(au (len bJ:Int) aH))
 cf
 (J (!(au (len bM:Int) aH))
 cf
 (rec xl (Kp 0 (len bJ:Int) bJ ae aS aZ bc bn bo bm bC bJ bI bM bz bS bY cq cv cN))))))))))):=by subst_vars;kernel_rfl
theorem T4{F:Int}{rec:bZ}{K:aW}{al M ae ao aE aH aS aZ bc bn bo bm bC bJ bI bM bz bS bY}{v1 v0 aC}(cd:v1=fun a=>Kp a al M ae ao aE aH aS aZ bc bn bo bm bC bJ bI bM bz bS bY)(b0:v0=hk bS (nth bC (Int.toNat F) (z.H (z.list z.int))))(cR:aC=K (.an [.agg [A (0:Int),af [],A (0:Int),A (0:Int)],.one (A 5)]) []):b7 Bf tab sI 0 K rec (cQ xl) (v1 F)=(
 J (aN F al)
 (((0:Int)<=F/\F<(len M:Int)) /\
 ((0:Int)<=F/\F<(len bC:Int)) /\
 List.length bS<=140737488355328 /\
 J (!(au v0.snd 0))
 aC
 (J (!(au v0.fst (nth M (Int.toNat F) (z.H z.target)).image))
 aC
 (((0:Int)<=F/\F<(len bC:Int)) /\
 J (!(au (((len (nth bC (Int.toNat F) (z.H (z.list z.int)))):Nat):Int) (nth M (Int.toNat F) (z.H z.target)).dp))
 aC
 (rec xl (v1 (W (F+1)))))))
 (len bI*8<=140737488355328 /\
 K (.an [.agg [A bJ,af bI,A bM,A bc],.one (A 0)]) [])):=by subst_vars;kernel_rfl

theorem Se(b:cB)(aA:b.length<=140737488355328)(ts:LT)(bG:cu)(ax:ts.length<=4)(hi:bG.length=ts.length)(K:aW)(ae ao aE aH:Int)(rs:hE)(rg:cu)(bR b4:Int)(a7:aJ)(v:Int)(aF:aJ)(t n:Int)(ad:aF.length<=6)(bY:aJ):∀(d k:Nat),k+d=ts.length ->
  (nm b (ts.drop k) (bG.drop k)=true->K (.an [.agg [A v,af aF,A t,A bR],.one (A 0)]) []) ->
  (nm b (ts.drop k) (bG.drop k)=false->K (.an [.agg [A 0,af [],A 0,A 0],.one (A 5)]) []) ->
  cl Bf tab sI 0 K (d+1) xl (Kp (k:Int) (((len ts):Nat):Int) ts ae ao aE aH rs rg bR b4 ts a7 bG v aF t n b bY)
 |0,k,jn,bH,c8=>by
  rw[bW (L:=xl),T4 rfl rfl rfl];rw[List.drop_of_length_le (by omega)]at bH;exact co (by simp only[len];omega) ⟨by simp only[len];omega,bH rfl⟩
 |d+1,k,jn,bH,c8=>by
  rw[bW (L:=xl),T4 rfl rfl rfl,cM];rw[ep (l:=ts) (by omega) (z.H z.target),ep (l:=bG) (by omega) (z.H (z.list z.int))]at bH c8;obtain⟨x,aG⟩:∃x,nth ts k (z.H z.target)=x:=⟨_,rfl⟩
  obtain⟨w,cb⟩:∃w,nth bG k (z.H (z.list z.int))=w:=⟨_,rfl⟩
  rw[aG,cb]at bH c8 |-;simp only[nm,List.headD_cons,List.tail_cons]at bH c8;have kf:nl b x w=false->K (.an [.agg [A 0,af [],A 0,A 0],.one (A 5)]) []:=fun h=>c8 (by rw[h];rfl)
  have hv:W ((k:Int)+1)=((k+1:Nat):Int):=di (by omega);rw[hv];refine cS (by simp only[len];omega) ⟨⟨by omega,by simp only[len];omega⟩,⟨by omega,by simp only[len];omega⟩,aA,bN (fun h=>kf ?_) (fun h=>bN (fun G=>kf ?_) (fun G=>⟨⟨by omega,by simp only[len];omega⟩,bN (fun ab=>kf ?_) (fun ab=>?_)⟩))⟩
  ·simp[nl,h]
  ·simp[nl,G]
  ·simp only[nl,Bool.and_eq_false_iff,decide_eq_false_iff_not];exact .inr ab
  ·have ok:nl b x w=true:=by
    simp only[nl,Bool.and_eq_true,decide_eq_true_eq];exact⟨⟨h,G⟩,ab⟩
   rw[ok]at bH c8;exact Se b aA ts bG ax hi K ae ao aE aH rs rg bR b4 a7 v aF t n ad bY d (k+1) (by omega) (fun g=>bH (by rw[g];rfl)) (fun g=>c8 (by rw[g];rfl))
theorem Sv(b:cB)(aA:b.length<=140737488355328)(l:cD)(rs:hE)(rg:cu)(bR b4:Int)(ts:LT)(a7:aJ)(bG:cu)(now aL:Int)(aw:rs.length<=6)(bs:rg.length=rs.length)(K:aW)(ae aS aZ bc:Int)(cN:aJ):∀(d k:Nat) (v:Int) (aF:aJ) (t n:Int),k+d=rs.length->aF.length<=6 ->
  K (.an [.agg [A (takeEnd b l ⟨rs,rg,⟨bR,b4,ts⟩,a7,bG⟩ now aL (gL b l ⟨⟨v,aF,t⟩,n⟩ (rs.drop k) (rg.drop k))).1.r.version,af (takeEnd b l ⟨rs,rg,⟨bR,b4,ts⟩,a7,bG⟩ now aL (gL b l ⟨⟨v,aF,t⟩,n⟩ (rs.drop k) (rg.drop k))).1.r.keys,A (takeEnd b l ⟨rs,rg,⟨bR,b4,ts⟩,a7,bG⟩ now aL (gL b l ⟨⟨v,aF,t⟩,n⟩ (rs.drop k) (rg.drop k))).1.r.ej,A (takeEnd b l ⟨rs,rg,⟨bR,b4,ts⟩,a7,bG⟩ now aL (gL b l ⟨⟨v,aF,t⟩,n⟩ (rs.drop k) (rg.drop k))).1.version],.one (A (takeEnd b l ⟨rs,rg,⟨bR,b4,ts⟩,a7,bG⟩ now aL (gL b l ⟨⟨v,aF,t⟩,n⟩ (rs.drop k) (rg.drop k))).2)]) [] ->
  cl Bf tab sI 0 K ((ts.length+1)+d+1) xk (Ko (k:Int) (((len rs):Nat):Int) rs ae l now aL aS aZ bc rs rg bR b4 ts a7 bG v aF t n b cN)
 |0,k,v,aF,t,n,ad,qL,D=>by
  rw[bW (L:=xk),T3 rfl rfl rfl rfl rfl rfl];rw[List.drop_of_length_le (by omega)]at D;refine co (by simp only[len];omega) ?_;have dY:takeEnd b l ⟨rs,rg,⟨bR,b4,ts⟩,a7,bG⟩ now aL (gL b l ⟨⟨v,aF,t⟩,n⟩ [] (rg.drop k))=if mg b l ⟨⟨v,aF,t⟩,n⟩ ⟨rs,rg,⟨bR,b4,ts⟩,a7,bG⟩ now aL=0 then(⟨⟨v,aF,t⟩,bR⟩,0)else(lz,mg b l ⟨⟨v,aF,t⟩,n⟩ ⟨rs,rg,⟨bR,b4,ts⟩,a7,bG⟩ now aL):=rfl
  rw[dY]at D;have bad:∀e:Int,e≠0->mg b l ⟨⟨v,aF,t⟩,n⟩ ⟨rs,rg,⟨bR,b4,ts⟩,a7,bG⟩ now aL=e->K (.an [.agg [A 0,af [],A 0,A 0],.one (A e)]) []:=fun e bp h=>by
   rw[if_neg (by rw[h];exact bp),h]at D;exact D
  have qG:mg b l ⟨⟨v,aF,t⟩,n⟩ ⟨rs,rg,⟨bR,b4,ts⟩,a7,bG⟩ now aL=0->K (.an [.agg [A v,af aF,A t,A bR],.one (A 0)]) []:=fun h=>by
   rw[if_pos h]at D;exact D
  clear D dY;refine bN (fun G=>?_) (fun G=>⟨aA,?_⟩)
  ·unfold mI at G |-
   by_cases c:gD bR b4 ts=0
   ·rw[if_pos c]at G;exact absurd rfl G
   ·rw[if_neg c];exact bad _ c (if_neg c)
  have bb:gD bR b4 ts=0:=by
   by_cases c:gD bR b4 ts=0
   ·exact c
   ·unfold mI at G;rw[if_neg c]at G;exact G
  rw[show mI bR b4 ts=(lC bR b4 ts,0)from if_pos bb];have dL:mg b l ⟨⟨v,aF,t⟩,n⟩ ⟨rs,rg,⟨bR,b4,ts⟩,a7,bG⟩ now aL=_:=if_pos bb;refine bN (fun ab=>?_) (fun ab=>?_)
  ·unfold ni at ab |-
   by_cases c:fH b=0
   ·rw[if_pos c]at ab;exact absurd rfl ab
   ·rw[if_neg c];exact bad _ c (dL.trans (if_neg c))
  have cr:fH b=0:=by
   by_cases c:fH b=0
   ·exact c
   ·unfold ni at ab;rw[if_neg c]at ab;exact ab
  have gr:=dL.trans (if_pos cr);simp only[show ni b (lC bR b4 ts)=(fk (lC bR b4 ts) b+1,0)from if_pos cr];obtain⟨cJ,cE,ey,gw,np,r6,_⟩:=zc bb;refine bN (fun g=>?_) (fun g=>bq (fun bf=>?_) (fun bf=>?_))
  ·have e:gJ l ⟨v,aF,t⟩ a7 (fk (lC bR b4 ts) b+1)=(ir l ⟨v,aF,t⟩ a7 (fk (lC bR b4 ts) b+1)).2:=if_neg g;exact bad _ g ((gr.trans (if_neg (by rw[e];exact g))).trans e)
  ·have e:gJ l ⟨v,aF,t⟩ a7 (fk (lC bR b4 ts) b+1)=9:=by unfold gJ;rw[if_pos g,if_pos bf]
   exact bad _ (by decide) ((gr.trans (if_neg (by rw[e];decide))).trans e)
  have e:gJ l ⟨v,aF,t⟩ a7 (fk (lC bR b4 ts) b+1)=0:=by unfold gJ;rw[if_pos g,if_neg (by simp only;omega)]
  have hZ:=gr.trans (if_pos e);simp only at hZ;refine cn (fun br=>?_) (fun br=>?_)
  ·rw[fV]at br;exact bad _ (by decide) (hZ.trans (if_pos br))
  rw[eC]at br;have mr:=hZ.trans (if_neg (by omega));refine bq (fun bV=>bad _ (by decide) (mr.trans (if_pos bV))) (fun bV=>?_);have pe:=mr.trans (if_neg (by omega));refine bN (fun dm=>bad _ (by decide) (pe.trans (if_pos (.inl dm)))) (fun dm=>bN (fun dZ=>bad _ (by decide) (pe.trans (if_pos (.inr dZ)))) (fun dZ=>?_));have q7:=pe.trans (if_neg (by simp only[len]at dm dZ;omega));exact Se b aA ts bG r6 (by simp only[len]at dm dZ;omega) K ae aS aZ bc rs rg bR b4 a7 v aF t n qL cN ts.length 0 (by omega) (fun g=>qG (q7.trans (if_pos g))) (fun g=>bad 5 (by decide) (q7.trans (if_neg (by rw[show nm b ts bG=false from g];simp))))
 |d+1,k,v,aF,t,n,ad,qL,D=>by
  rw[show ts.length+1+(d+1)+1=(ts.length+1+d+1)+1 by omega,bW (L:=xk),T3 rfl rfl rfl rfl rfl rfl,cM];rw[ep (l:=rs) (by omega) (z.H z.root),ep (l:=rg) (by omega) (z.H (z.list z.int))]at D;obtain⟨x,aG⟩:∃x,nth rs k (z.H z.root)=x:=⟨_,rfl⟩
  obtain⟨w,cb⟩:∃w,nth rg k (z.H (z.list z.int))=w:=⟨_,rfl⟩
  rw[aG,cb]at D |-;have hv:W ((k:Int)+1)=((k+1:Nat):Int):=di (by omega);rw[hv];have ex:(⟨x.version,x.keys,x.ej⟩:qi)=x:=rfl;rw[ex];refine cS (by simp only[len];omega) ⟨⟨by omega,by simp only[len];omega⟩,⟨by omega,by simp only[len];omega⟩,aA,bN (fun h=>?_) (fun h=>?_)⟩
  ·rw[show gL b l ⟨⟨v,aF,t⟩,n⟩ (x::rs.drop (k+1)) (w::rg.drop (k+1))=(lz,(gE b l ⟨⟨v,aF,t⟩,n⟩ x w).2)from if_neg h]at D;have e:takeEnd b l ⟨rs,rg,⟨bR,b4,ts⟩,a7,bG⟩ now aL (lz,(gE b l ⟨⟨v,aF,t⟩,n⟩ x w).2)=(lz,(gE b l ⟨⟨v,aF,t⟩,n⟩ x w).2):=if_neg h;rw[e]at D;exact D
  ·rw[show gL b l ⟨⟨v,aF,t⟩,n⟩ (x::rs.drop (k+1)) (w::rg.drop (k+1))=gL b l (gE b l ⟨⟨v,aF,t⟩,n⟩ x w).1 (rs.drop (k+1)) (rg.drop (k+1))from if_pos h]at D;obtain⟨I,G⟩:=Xk h;obtain⟨_,ab,_⟩:=Xj I;rw[G]at D |-;exact Sv b aA l rs rg bR b4 ts a7 bG now aL aw bs K ae aS aZ bc cN d (k+1) x.version x.keys x.ej n (by omega) (qq ab).2.2.2.2.1 D
theorem ag4:bw 153 Of:=b2 (Γ:=Bf) 0 ((((((((bv.f vu).f Mv).f We).f Mq).f WU).f ag3).f ag2).f L3) Tryz.func153 (by kernel_rfl) fun vs ar=>by
 unfold Of;split;rotate_left;trivial;rename_i b l v aF t n rs rg bR b4 ts a7 bG now aL;refine⟨by kernel_rfl,fun ag K D=>?_⟩;refine⟨ts.length+1+rs.length+1+1,?_⟩;obtain⟨v1,cd⟩:∃v1,v1=K (.an [.agg [A (0:Int),af [],A (0:Int),A (0:Int)],.one (A 2)]) []:=⟨_,rfl⟩
 refine ck (fun rec=>(by subst cd;kernel_rfl:_=(
  J (!(au (g2 ⟨⟨v,aF,t⟩,n⟩) 0))
  (K (.an [.agg [A (0:Int),af [],A (0:Int),A (0:Int)],.one (A (g2 ⟨⟨v,aF,t⟩,n⟩))]) [])
  (J (aN 6 (len rs:Int))
  v1
  (J (!(au (len rg:Int) (len rs:Int)))
  v1
  (rec xk (Ko 0 (len rs:Int) rs 0 l now aL 0 0 0 rs rg bR b4 ts a7 bG v aF t n b []))))))) ?_
 subst cd;unfold g1 at D;simp only at D;refine bN (fun h=>?_) (fun h=>bq (fun G=>?_) (fun G=>bN (fun ab=>?_) (fun ab=>?_)))
 ·rw[if_neg h]at D;exact D
 ·rw[if_pos h,if_pos (.inl (by simp only[len]at G;omega))]at D;exact D
 ·rw[if_pos h,if_pos (.inr (by simp only[len]at ab;omega))]at D;exact D
 ·rw[if_pos h,if_neg (by simp only[len]at G ab;omega)]at D;exact Sv b ag l rs rg bR b4 ts a7 bG now aL (by simp only[len]at G;omega) (by simp only[len]at ab;omega) K 0 0 0 0 [] rs.length 0 v aF t n (by omega) (qq (zd h).2.2).2.2.2.2.1 D

def OB:bd
 |[.agg [.E (.list .int) ws,.E .int fu,.E .bool up,.E .int ak,.E (.list .int) ah,.E .int aj,.E .int ai,.E (.list .bool) Y,.E (.list .bool) aa]],[]=>some (some (len ws*8<=140737488355328/\len ah*8<=140737488355328/\len Y<=1000/\len aa<=1000),.agg [af ws,A fu,ay up,A ak,af ah,A aj,A ai,.own 0,.own 1],[.arr .bool Y,.arr .bool aa])
 |_,_=>none

theorem Ej:bw 53 OB:=mh 0 (((bv.f Wl).f yp).f Wk) Tryz.func53 (by kernel_rfl) fun vs ar=>by
 unfold OB;split;rotate_left;trivial;rename_i ws fu up ak ah aj ai Y aa;refine⟨by kernel_rfl,fun ag K D=>?_⟩;refine⟨1,?_⟩;refine kD (fun rec=>(by kernel_rfl:_=(
  len ws*8<=140737488355328 /\
  len ah*8<=140737488355328 /\
  len Y<=1000 /\
  len aa<=1000 /\
  K (.agg [af ws,A fu,ay up,A ak,af ah,A aj,A ai,.own 0,.own 1]) [.arr z.bool Y,.arr z.bool aa]))) ?_
 exact⟨ag.1,ag.2.1,ag.2.2.1,ag.2.2.2,D⟩

def FV:bd
 |[.agg [.E (.list .int) ws,.E .int fu,.E .bool _,.E .int _,.E (.list .int) _,.E .int _,.E .int _,.own 0,.own 1]],[.arr .bool Y,.arr .bool aa]=>some (none,.agg [A (bL ⟨ws,fu⟩).n,A (bL ⟨ws,fu⟩).version,ay (bL ⟨ws,fu⟩).dv,ay (bL ⟨ws,fu⟩).abort,ay (bL ⟨ws,fu⟩).ended],[.arr .bool Y,.arr .bool aa])
 |_,_=>none

theorem Wo:bw 79 FV:=b2 2 ((bv.f Wn).f Mk) Tryz.func79 (by kernel_rfl) fun vs ar=>by
 unfold FV;split;rotate_left;trivial;rename_i ws fu up ak ah aj ai Y aa;refine⟨by kernel_rfl,fun K D=>?_⟩;refine⟨1,?_⟩;obtain⟨aC,cR⟩:∃aC,aC=iK (j8 ⟨ws,fu⟩).fst:=⟨_,rfl⟩
 refine ck (fun rec=>(by subst cR;kernel_rfl:_=(
  (len (j8 ⟨ws,fu⟩).fst<=1000/\tl (j8 ⟨ws,fu⟩).fst=true) /\
  K (.agg [A aC.n,A aC.version,ay aC.dv,ay aC.abort,ay aC.ended]) [.arr z.bool Y,.arr z.bool aa]))) ?_
 subst cR;have h:=AH ⟨ws,fu⟩;exact⟨⟨by simp only[len];omega,JS h.2⟩,D⟩

def F0:bd
 |[.agg [.E .int eN,.E .int ki,.E .bool gc,.E .bool sN,.E .bool ge]],[]=>some (none,.one (cH (l4 ⟨eN,ki,gc,sN,ge⟩)),[])
 |_,_=>none

theorem ahp:bw 159 F0:=b2 0 bv Tryz.func159 (by kernel_rfl) fun vs ar=>by
 unfold F0;split;rotate_left;trivial;rename_i eN ki gc sN ge;refine⟨by kernel_rfl,fun K D=>?_⟩;refine⟨1,?_⟩;refine ck (fun rec=>(by kernel_rfl:_=(
  J (au eN 0)
  (K (.one (cH [])) [])
  (J gc
  ((len (((1:Int)::eN::ki::[])::[])+len (((2:Int)::eN::[])::[]))*24<=140737488355328 /\
  J sN
  ((len (cat (((1:Int)::eN::ki::[])::[]) (((2:Int)::eN::[])::[]))+len (((3:Int)::eN::[])::[]))*24<=140737488355328 /\
  J ge
  ((len (cat (cat (((1:Int)::eN::ki::[])::[]) (((2:Int)::eN::[])::[])) (((3:Int)::eN::[])::[]))+len (((4:Int)::eN::[])::[]))*24<=140737488355328 /\
  K (.one (cH (cat (cat (cat (((1:Int)::eN::ki::[])::[]) (((2:Int)::eN::[])::[])) (((3:Int)::eN::[])::[])) (((4:Int)::eN::[])::[])))) [])
  (K (.one (cH (cat (cat (((1:Int)::eN::ki::[])::[]) (((2:Int)::eN::[])::[])) (((3:Int)::eN::[])::[])))) []))
  (J ge
  ((len (cat (((1:Int)::eN::ki::[])::[]) (((2:Int)::eN::[])::[]))+len (((4:Int)::eN::[])::[]))*24<=140737488355328 /\
  K (.one (cH (cat (cat (((1:Int)::eN::ki::[])::[]) (((2:Int)::eN::[])::[])) (((4:Int)::eN::[])::[])))) [])
  (K (.one (cH (cat (((1:Int)::eN::ki::[])::[]) (((2:Int)::eN::[])::[])))) [])))
  (J sN
  ((len (((1:Int)::eN::ki::[])::[])+len (((3:Int)::eN::[])::[]))*24<=140737488355328 /\
  J ge
  ((len (cat (((1:Int)::eN::ki::[])::[]) (((3:Int)::eN::[])::[]))+len (((4:Int)::eN::[])::[]))*24<=140737488355328 /\
  K (.one (cH (cat (cat (((1:Int)::eN::ki::[])::[]) (((3:Int)::eN::[])::[])) (((4:Int)::eN::[])::[])))) [])
  (K (.one (cH (cat (((1:Int)::eN::ki::[])::[]) (((3:Int)::eN::[])::[])))) []))
  (J ge
  ((len (((1:Int)::eN::ki::[])::[])+len (((4:Int)::eN::[])::[]))*24<=140737488355328 /\
  K (.one (cH (cat (((1:Int)::eN::ki::[])::[]) (((4:Int)::eN::[])::[])))) [])
  (K (.one (cH (((1:Int)::eN::ki::[])::[]))) []))))))) ?_
 unfold l4 at D;refine cz (fun h=>?_) (fun h=>?_)
 ·rw[if_pos (by exact h)]at D;exact D
 ·rw[if_neg (by exact h)]at D;cases gc<;>cases sN<;>cases ge
  ·exact fa rfl (fa rfl (fa rfl D))
  ·exact fa rfl (fa rfl (gb rfl ⟨by simp[len],D⟩))
  ·exact fa rfl (gb rfl ⟨by simp[len],fa rfl D⟩)
  ·exact fa rfl (gb rfl ⟨by simp[len],gb rfl ⟨by simp[len,cat],D⟩⟩)
  ·exact gb rfl ⟨by simp[len],fa rfl (fa rfl D)⟩
  ·exact gb rfl ⟨by simp[len],fa rfl (gb rfl ⟨by simp[len,cat],D⟩)⟩
  ·exact gb rfl ⟨by simp[len],gb rfl ⟨by simp[len,cat],fa rfl D⟩⟩
  ·exact gb rfl ⟨by simp[len],gb rfl ⟨by simp[len,cat],gb rfl ⟨by simp[len,cat],D⟩⟩⟩

def BX:bd
 |[.one (.E .int w)],[]=>some (none,.one (ay (!eS w)),[])
 |_,_=>none

theorem L7:bw 206 BX:=b2 0 bv Tryz.func206 (by kernel_rfl) fun vs ar=>by
 unfold BX;split;rotate_left;trivial;rename_i w;dsimp only[z.den]at w;refine⟨by kernel_rfl,fun K D=>?_⟩;refine⟨1,?_⟩;refine ck (fun rec=>(by kernel_rfl:_=(
  J (aN w 0)
  (K og [])
  (K (.one (ay (aN 65535 w))) [])))) ?_
 refine bq (fun h=>?_) (fun h=>?_)
 ·rw[show(!eS w)=true from by simp[eS];omega]at D;exact D
 ·rw[show(!eS w)=aN 65535 w from by simp[eS,aN,h];by_cases G:w<=65535<;>simp[G]<;>omega]at D;exact D

def FR:bd
 |[.one (.E (.list .int) l),.one (.fn f [])],[]=>(match Nat.beq f 206 with|true=>some (some (eQ l),.one (A (lT l)),[])|false=>none)
 |_,_=>none
def Bi:Ctx:=[(206,BX)]
theorem ado:fz Tryz.prog tab Bi:=(bv.f L7)
def xu:List cw:=[.inLoop [8,7,4,0,1] (cZ uu [1,0,1,0,0]),.inBlock 0,.code (cZ uu [1,1])]
def Kw(F al M:Int)(ae:aJ):bP:=⟨[(8,.one (A F)),(7,.one (A al)),(4,.one (A M)),(0,.one (af ae)),(1,.one (.fn 206 []))],[],0⟩
theorem aeX(l:aJ)(rec:bZ)(K:aW):b7 Bi tab uu 0 K rec [.code (bF uu)] (df [.one (af l),.one (.fn 206 [])] [])=(
 rec xu (Kw 0 (len l:Int) 0 l)):=by kernel_rfl
theorem Ud{F:Int}{rec:bZ}{K:aW}{al M ae}{v1 v0}(cd:v1=fun a=>Kw a al M ae)(b0:v0=eS (nth ae (Int.toNat F) (z.H z.int))):b7 Bi tab uu 0 K rec (cQ xu) (v1 F)=(
 J (aN F al)
 (((0:Int)<=F/\F<(len ae:Int)) /\
 J (!v0)
 (K (.one (A F)) [])
 (rec xu (v1 (W (F+1)))))
 (K (.one (A (-1))) [])):=by subst_vars;kernel_rfl

theorem SE(l:aJ)(av:eQ l)(K:aW):∀(d k:Nat),k+d=l.length->K (.one (A (lU k (l.drop k)))) [] ->
  cl Bi tab uu 0 K (d+1) xu (Kw (k:Int) (((len l):Nat):Int) 0 l)
 |0,k,ad,D=>by
  rw[bW (L:=xu),Ud rfl rfl];refine co (by simp only[len];omega) ?_;rw[List.drop_of_length_le (by omega)]at D;exact D
 |d+1,k,ad,D=>by
  have nU:=av;unfold eQ at nU;rw[bW (L:=xu),Ud rfl rfl];rw[ep (by omega) (z.H z.int)]at D;simp only[lU]at D;refine cS (by simp only[len];omega) ⟨⟨by omega,by simp only[len];omega⟩,eF (fun h=>?_) (fun h=>?_)⟩
  ·rw[cM]at h;rw[if_neg (by rw[h];simp)]at D;exact D
  ·rw[cM]at h;rw[if_pos h]at D;rw[di (by omega)];exact SE l av K d (k+1) (by omega) D
theorem af8(ag:eQ l)(K:aW)(D:K (.one (A (lT l))) []):pf Bi uu 0 K [.one (af l),.one (.fn 206 [])] []:=by
 refine⟨l.length+2,?_⟩;rw[eO,aeX _ _ _];exact SE l ag K l.length 0 (by omega) D
theorem ahl:bw 220 FR:=hN ado Tryz.func220 (by kernel_rfl) (by
 intro vs ar p v dB h ag;unfold FR at h;split at h
 ·split at h
  ·rename_i eP;have eP:=Nat.eq_of_beq_eq_true eP;subst eP;cases h;exact⟨by kernel_rfl,rfl,.inl (af8 _ ag.1 _ ⟨rfl,rfl⟩)⟩
  ·cases h
 ·cases h)

def OG:bd
 |[.one (.E (.list .int) l),.one (.fn f [])],[]=>(match Nat.beq f 206 with|true=>some (some (eQ l),.one (ay (!cK l)),[])|false=>none)
 |_,_=>none
def Nc:Ctx:=[(220,FR),(206,BX)]
theorem adq:fz Tryz.prog tab Nc:=((bv.f L7).f ahl)
theorem ae2(l:aJ)(rec:bZ)(K:aW) v0 (b0:v0=lT l):b7 Nc tab Tryz.f205 0 K rec [.code (bF Tryz.f205)] (df [.one (af l),.one (.fn 206 [])] [])=(
 List.length l<=140737488355328 /\
 K (.one (ay (dc 0 v0))) []):=by subst_vars;kernel_rfl

theorem Qa:∀(l:aJ) (k:Int),0<=k->dc 0 (lU k l)=!cK l
 |[],k,ad=>by simp[lU,cK,dc]
 |w::l,k,ad=>by
  simp only[lU,cK,List.all_cons];cases h:eS w with
  |true=>simpa[cK]using Qa l (k+1) (by omega)
  |false=>simp[dc,ad]
theorem agc(ag:eQ l)(K:aW)(D:K (.one (ay (!cK l))) []):∃m,cl Nc tab Tryz.f205 0 K m [.code (bF Tryz.f205)] (df [.one (af l),.one (.fn 206 [])] []):=by
 refine⟨1,?_⟩;rw[eO,ae2 _ _ _ _ rfl];refine⟨ag,?_⟩;rw[show dc 0 (lT l)=!cK l from Qa l 0 (by omega)];exact D
theorem aht:bw 205 OG:=hN adq Tryz.func205 (by kernel_rfl) (by
 intro vs ar p v dB h ag;unfold OG at h;split at h
 ·split at h
  ·rename_i eP;have eP:=Nat.eq_of_beq_eq_true eP;subst eP;cases h;exact⟨by kernel_rfl,rfl,.inl (agc _ ag.1 _ ⟨rfl,rfl⟩)⟩
  ·cases h
 ·cases h)

def G1:bd
 |[.one (.E (.list .int) l)],[]=>some (some (eQ l),.one (A (gv l)),[])
 |_,_=>none

theorem aiD:bw 184 G1:=b2 0 ((bv.f L7).f aht) Tryz.func184 (by kernel_rfl) fun vs ar=>by
 unfold G1;split;rotate_left;trivial;rename_i l;refine⟨by kernel_rfl,fun ag K D=>?_⟩;refine⟨1,?_⟩;refine ck (fun rec=>(by kernel_rfl:_=(
  J (au (len l:Int) 0)
  (K (.one (A 2)) [])
  (J (aN 4 (len l:Int))
  (K (.one (A 2)) [])
  (List.length l<=140737488355328 /\
  J (!(cK l))
  (K (.one (A 3)) [])
  (K (.one (A 0)) [])))))) ?_
 unfold gv at D;refine cz (fun h=>?_) (fun h=>bq (fun G=>?_) (fun G=>⟨ag,eF (fun ab=>?_) (fun ab=>?_)⟩))
 ·rw[if_neg (by simp only[len]at h;omega)]at D;exact D
 ·rw[if_neg (by simp only[len]at G;omega)]at D;exact D
 ·rw[if_pos (by simp only[len]at h G;omega),if_neg (by rw[ab];simp)]at D;exact D
 ·rw[if_pos (by simp only[len]at h G;omega),if_pos ab]at D;exact D

def GX:bd
 |[.one (.E (.list (.list .int)) l)],[]=>some (some (len l*24<=140737488355328),.one (.own 0),[.arr (.list .int) l])
 |_,_=>none

theorem aiv:bw 185 GX:=mh 0 bv Tryz.func185 (by kernel_rfl) fun vs ar=>by
 unfold GX;split;rotate_left;trivial;rename_i l;refine⟨by kernel_rfl,fun ag K D=>?_⟩;refine⟨1,?_⟩;refine kD (fun rec=>(by kernel_rfl:_=(
  (∀fD:Bool,(fD=true->len l=0)->J fD
  (K (.one (.own 0)) [.arr (z.list z.int) []])
  ((0+len l)*24<=140737488355328 /\
  K (.one (.own 0)) [.arr (z.list z.int) (cat [] l)]))))) ?_
 intro fD aA;refine cn (fun h=>?_) (fun h=>⟨by simp only[len]at ag |-; omega,D⟩);have:l=[]:=List.length_eq_zero_iff.1 (aA h);subst this;exact D

def Pd:bd
 |[.one (.E .int n)],[]=>some (some (0<=n/\n<=255),.one (A (42240+n)),[])
 |_,_=>none

theorem aiC:bw 207 Pd:=b2 0 bv Tryz.func207 (by kernel_rfl) fun vs ar=>by
 unfold Pd;split;rotate_left;trivial;rename_i n;refine⟨by kernel_rfl,fun ag K D=>?_⟩;refine⟨1,?_⟩;refine ck (fun rec=>(by kernel_rfl:_=(
  K (.one (A (Aw 42240 n))) []))) ?_
 rw[aen ag.1 ag.2];exact D

def G2:bd
 |[.one (.E (.list .int) l)],[]=>some (some (len l<=255),.one (af (me l)),[])
 |_,_=>none

theorem aiE:bw 186 G2:=b2 0 (bv.f aiC) Tryz.func186 (by kernel_rfl) fun vs ar=>by
 unfold G2;split;rotate_left;trivial;rename_i l;refine⟨by kernel_rfl,fun ag K D=>?_⟩;refine⟨1,?_⟩;refine ck (fun rec=>(by kernel_rfl:_=(
  ((0:Int)<=(len l:Int)/\(len l:Int)<=(255:Int)) /\
  (len (((42240:Int)+(len l:Int))::[])+len l)*8<=140737488355328 /\
  K (.one (af (cat (((42240:Int)+(len l:Int))::[]) l))) []))) ?_
 exact⟨⟨by omega,by omega⟩,by simp only[len,List.length_cons,List.length_nil]at ag |-; omega,D⟩

def y7:bd
 |[.one (.ptr 0 0)],[.box [.own 1,.E .int fu],.arr .int ws]=>some (some (fu<=100000),.one (ay (!au fu 0)),[.box [.own 1,A (ky fu)],.arr .int ws])
 |_,_=>none
def Nu:Ctx:=[]
theorem adG:fz Tryz.prog tab Nu:=bv
theorem afB(ws:aJ)(fu:Int)(rec:bZ)(K:aW):b7 Nu tab Tryz.f208 2 K rec [.code (bF Tryz.f208)] (df [.one (.ptr 0 0)] [.box [.own 1,A fu],.arr z.int ws])=(
 J (au fu 0)
 (K (.one (ay false)) [.box [.own 1,A fu],.arr z.int ws])
 (J (aN 0 fu)
 (K (.one (ay true)) [.box [.own 1,A (W (fu-1))],.arr z.int ws])
 (K (.one (ay true)) [.box [.own 1,A fu],.arr z.int ws]))):=by kernel_rfl

theorem agt(ag:fu<=100000)(K:aW)(D:K (.one (ay (!au fu 0))) [.box [.own 1,A (ky fu)],.arr .int ws]):∃m,cl Nu tab Tryz.f208 2 K m [.code (bF Tryz.f208)] (df [.one (.ptr 0 0)] [.box [.own 1,A fu],.arr .int ws]):=by
 refine⟨1,?_⟩;rw[eO,afB _ _ _ _];refine cz (fun h=>?_) (fun h=>bq (fun G=>?_) (fun G=>?_))
 ·rw[show(!au fu 0)=false from by simp[au,h],show ky fu=fu from by simp[ky,h]]at D;exact D
 ·rw[show(!au fu 0)=true from by simp[au,h],show ky fu=fu-1 from by simp[ky,G]]at D;rw[cc (by omega) (by omega)];exact D
 ·rw[show(!au fu 0)=true from by simp[au,h],show ky fu=fu from by simp only[ky];rw[if_neg (by omega)]]at D;exact D
theorem Mi:bw 208 y7:=hN adG Tryz.func208 (by kernel_rfl) (by
 intro vs ar p v dB h ag;unfold y7 at h;split at h
 ·cases h;exact⟨by kernel_rfl,rfl,.inl (agt _ _ ag.1 _ ⟨rfl,rfl⟩)⟩
 ·cases h)

def Hf:bd
 |[.one (.ptr 0 0),.one (.E .int at_),.one (.own 1)],[.box [.own 2,.E .int fu],.arr .int l,.arr .int ws]=>some (some (-1<=fu/\fu<=100000/\0<=at_/\at_+(len l:Nat)<=(len ws:Nat)/\len ws<=192),.one (ay (b9 ⟨ws,fu⟩ (cX at_ l)).2),[.box [.own 2,A (b9 ⟨ws,fu⟩ (cX at_ l)).1.fuel],.arr .int l,.arr .int (b9 ⟨ws,fu⟩ (cX at_ l)).1.words])
 |_,_=>none
def EY:Ctx:=[(208,y7)]
def yg:List cw:=[.inLoop [11,10,9,6,0,1] (cZ oA [1,0,1,0,0]),.inBlock 0,.code (cZ oA [1,1])]
def Lu(F al:Int)(M:Bool)(ae ao:Int)(aE aH:aJ):bP:=⟨[(11,.one (A F)),(10,.one (A al)),(9,.one (.own 1)),(6,.one (ay M)),(0,.one (.ptr 0 0)),(1,.one (A ae))],[(0,.box [.own 2,A ao]),(1,.arr z.int aE),(2,.arr z.int aH)],3⟩
theorem afM(ws:aJ)(fu at_:Int)(l:aJ)(rec:bZ)(K:aW):b7 EY tab oA 3 K rec [.code (bF oA)] (df [.one (.ptr 0 0),.one (A at_),.one (.own 1)] [.box [.own 2,A fu],.arr z.int l,.arr z.int ws])=(
 rec yg (Lu 0 (len l:Int) false at_ fu l ws)):=by kernel_rfl
theorem Vj{F ao:Int}{aH:aJ}{rec:bZ}{K:aW}{al M ae aE}{v1 v0}(cd:v1=fun a b c=>Lu a al M ae b aE c)(b0:v0=ky ao):b7 EY tab oA 3 K rec (cQ yg) (v1 F ao aH)=(
 J (aN F al)
 (((0:Int)<=F/\F<(len aE:Int)) /\
 Int.toNat F<len aE /\
 ao<=100000 /\
 J (!(!(au ao 0)))
 (K (.one (ay false)) [.box [.own 2,A v0],.arr z.int aE,.arr z.int aH])
 (((0:Int)<=W (ae+F)/\W (ae+F)<(len aH:Int)) /\
 Int.toNat (W (ae+F))<len aH /\
 ((0:Int)<=W (ae+F)/\W (ae+F)<(len aH:Int)) /\
 Int.toNat (W (ae+F))<len aH /\
 rec yg (v1 (W (F+1)) v0 (setAt aH (Int.toNat (W (ae+F))) (qm (nth aH (Int.toNat (W (ae+F))) (z.H z.int)) (nth aE (Int.toNat F) (z.H z.int)))))))
 (K (.one (ay true)) [.box [.own 2,A ao],.arr z.int aE,.arr z.int aH])):=by subst_vars;kernel_rfl

theorem S8(at_:Int)(av:0<=at_)(l:aJ)(K:aW):∀(n:Nat) (k:Nat) (ws:aJ) (fu:Int),k+n=l.length->-1<=fu->fu<=100000->at_+(l.length:Nat)<=(ws.length:Nat)->ws.length<=192 ->
  K (.one (ay (b9 ⟨ws,fu⟩ (cX (at_+k) (l.drop k))).2)) [.box [.own 2,A (b9 ⟨ws,fu⟩ (cX (at_+k) (l.drop k))).1.fuel],.arr .int l,.arr .int (b9 ⟨ws,fu⟩ (cX (at_+k) (l.drop k))).1.words] ->
  cl EY tab oA 3 K (n+1) yg (Lu (k:Int) (((len l):Nat):Int) false at_ fu l ws)
 |0,k,ws,fu,ad,I,G,ab,aV,D=>by
  rw[bW (L:=yg),Vj rfl rfl];refine co (by simp only[len];omega) ?_;rw[List.drop_of_length_le (by omega)]at D;simp only[cX,HG]at D;exact D
 |n+1,k,ws,fu,ad,I,G,ab,aV,D=>by
  rw[bW (L:=yg),Vj rfl rfl];rw[cc (n:=at_+k) (by omega) (by omega)];rw[ep (by omega) (z.H z.int)]at D;simp only[cX,HE]at D;refine cS (by simp only[len];omega) ⟨⟨by omega,by simp only[len];omega⟩,by simp only[len];omega,G,?_⟩
  by_cases a6:fu=0
  ·subst a6;refine gb (by simp[au]) ?_;simp only[if_true]at D;exact D
  ·rw[if_neg a6]at D;refine fa (by simp[au,a6]) ⟨⟨by omega,by simp only[len];omega⟩,by simp only[len];omega,⟨by omega,by simp only[len];omega⟩,by simp only[len];omega,?_⟩;rw[di (by omega)];refine S8 at_ av l K n (k+1) _ _ (by omega) ?_ ?_ (by simpa[setAt]using ab) (by simpa[setAt]using aV) ?_
   ·unfold ky;split<;>omega
   ·unfold ky;split<;>omega
   ·rw[show at_+((k+1:Nat):Int)=at_+k+1 by omega];exact D
theorem Mr:bw 187 Hf:=b2 (Γ:=EY) 3 (bv.f Mi) Tryz.func187 (by kernel_rfl) fun vs ar=>by
 unfold Hf;split;rotate_left;trivial;rename_i at_ fu l ws;refine⟨by kernel_rfl,fun ag K D=>?_⟩;obtain⟨I,G,ab,aV,br⟩:=ag;refine⟨l.length+2,?_⟩;rw[eO,afM _ _ _ _ _ _];exact S8 at_ ab l K l.length 0 ws fu (by omega) I G aV br (by simpa using D)

def Fx:bd
 |[.one (.ptr 0 0),.one (.E .int at_),.one (.E (.list .int) l)],[.box [.own 1,.E .int fu],.arr .int ws]=>some (some (-1<=fu/\fu<=100000/\0<=at_/\at_+(len l:Nat)<=(len ws:Nat)/\len ws<=192),.one (ay (b9 ⟨ws,fu⟩ (cX at_ l)).2),[.box [.own 1,A (b9 ⟨ws,fu⟩ (cX at_ l)).1.fuel],.arr .int (b9 ⟨ws,fu⟩ (cX at_ l)).1.words])
 |_,_=>none
def EJ:Ctx:=[(208,y7)]
def xg:List cw:=[.inLoop [11,10,9,6,0,1] (cZ oA [1,0,1,0,0]),.inBlock 0,.code (cZ oA [1,1])]
def Ki(F al:Int)(M:aJ)(ae:Bool)(ao aE:Int)(aH:aJ):bP:=⟨[(11,.one (A F)),(10,.one (A al)),(9,.one (af M)),(6,.one (ay ae)),(0,.one (.ptr 0 0)),(1,.one (A ao))],[(0,.box [.own 1,A aE]),(1,.arr z.int aH)],2⟩
theorem aeF(ws:aJ)(fu at_:Int)(l:aJ)(rec:bZ)(K:aW):b7 EJ tab oA 2 K rec [.code (bF oA)] (df [.one (.ptr 0 0),.one (A at_),.one (af l)] [.box [.own 1,A fu],.arr z.int ws])=(
 rec xg (Ki 0 (len l:Int) l false at_ fu ws)):=by kernel_rfl
theorem TY{F aE:Int}{aH:aJ}{rec:bZ}{K:aW}{al M ae ao}{v1 v0}(cd:v1=fun a b c=>Ki a al M ae ao b c)(b0:v0=ky aE):b7 EJ tab oA 2 K rec (cQ xg) (v1 F aE aH)=(
 J (aN F al)
 (((0:Int)<=F/\F<(len M:Int)) /\
 aE<=100000 /\
 J (!(!(au aE 0)))
 (K (.one (ay false)) [.box [.own 1,A v0],.arr z.int aH])
 (((0:Int)<=W (ao+F)/\W (ao+F)<(len aH:Int)) /\
 Int.toNat (W (ao+F))<len aH /\
 ((0:Int)<=W (ao+F)/\W (ao+F)<(len aH:Int)) /\
 Int.toNat (W (ao+F))<len aH /\
 rec xg (v1 (W (F+1)) v0 (setAt aH (Int.toNat (W (ao+F))) (qm (nth aH (Int.toNat (W (ao+F))) (z.H z.int)) (nth M (Int.toNat F) (z.H z.int)))))))
 (K (.one (ay true)) [.box [.own 1,A aE],.arr z.int aH])):=by subst_vars;kernel_rfl

theorem Sn(at_:Int)(av:0<=at_)(l:aJ)(K:aW):∀(n:Nat) (k:Nat) (ws:aJ) (fu:Int),k+n=l.length->-1<=fu->fu<=100000->at_+(l.length:Nat)<=(ws.length:Nat)->ws.length<=192 ->
  K (.one (ay (b9 ⟨ws,fu⟩ (cX (at_+k) (l.drop k))).2)) [.box [.own 1,A (b9 ⟨ws,fu⟩ (cX (at_+k) (l.drop k))).1.fuel],.arr .int (b9 ⟨ws,fu⟩ (cX (at_+k) (l.drop k))).1.words] ->
  cl EJ tab oA 2 K (n+1) xg (Ki (k:Int) (((len l):Nat):Int) l false at_ fu ws)
 |0,k,ws,fu,ad,I,G,ab,aV,D=>by
  rw[bW (L:=xg),TY rfl rfl];refine co (by simp only[len];omega) ?_;rw[List.drop_of_length_le (by omega)]at D;simp only[cX,HG]at D;exact D
 |n+1,k,ws,fu,ad,I,G,ab,aV,D=>by
  rw[bW (L:=xg),TY rfl rfl];rw[cc (n:=at_+k) (by omega) (by omega)];rw[ep (by omega) (z.H z.int)]at D;simp only[cX,HE]at D;refine cS (by simp only[len];omega) ⟨⟨by omega,by simp only[len];omega⟩,G,?_⟩
  by_cases a6:fu=0
  ·subst a6;refine gb (by simp[au]) ?_;simp only[if_true]at D;exact D
  ·rw[if_neg a6]at D;refine fa (by simp[au,a6]) ⟨⟨by omega,by simp only[len];omega⟩,by simp only[len];omega,⟨by omega,by simp only[len];omega⟩,by simp only[len];omega,?_⟩;rw[di (by omega)];refine Sn at_ av l K n (k+1) _ _ (by omega) ?_ ?_ (by simpa[setAt]using ab) (by simpa[setAt]using aV) ?_
   ·unfold ky;split<;>omega
   ·unfold ky;split<;>omega
   ·rw[show at_+((k+1:Nat):Int)=at_+k+1 by omega];exact D
theorem LX:bw 187 Fx:=b2 (Γ:=EJ) 2 (bv.f Mi) Tryz.func187 (by kernel_rfl) fun vs ar=>by
 unfold Fx;split;rotate_left;trivial;rename_i at_ l fu ws;refine⟨by kernel_rfl,fun ag K D=>?_⟩;obtain⟨I,G,ab,aV,br⟩:=ag;refine⟨l.length+2,?_⟩;rw[eO,aeF _ _ _ _ _ _];exact Sn at_ ab l K l.length 0 ws fu (by omega) I G aV br (by simpa using D)

def Ha:bd
 |[.one (.ptr 0 0),.one (.E .int dG)],[.box [.own 1,.E .int fu],.arr .int ws]=>some (some (-1<=fu/\fu<=100000/\0<=dG/\(dG+1)*32<=(len ws:Nat)/\len ws<=192),.one (ay (b9 ⟨ws,fu⟩ (eH dG)).2),[.box [.own 1,A (b9 ⟨ws,fu⟩ (eH dG)).1.fuel],.arr .int (b9 ⟨ws,fu⟩ (eH dG)).1.words])
 |_,_=>none
def EW:Ctx:=[(208,y7)]
def yb:List cw:=[.inLoop [6,4,0,1] (Code.sub (bF Tryz.f188) [1,0,1,0,0]),.inBlock 0,.code (Code.sub (bF Tryz.f188) [1,1])]
def Lp(F:Int)(al:Bool)(M ae:Int)(ao:aJ):bP:=⟨[(6,.one (A F)),(4,.one (ay al)),(0,.one (.ptr 0 0)),(1,.one (A M))],[(0,.box [.own 1,A ae]),(1,.arr z.int ao)],2⟩
theorem afG(ws:aJ)(fu dG:Int)(rec:bZ)(K:aW):b7 EW tab Tryz.f188 2 K rec [.code (bF Tryz.f188)] (df [.one (.ptr 0 0),.one (A dG)] [.box [.own 1,A fu],.arr z.int ws])=(
 rec yb (Lp 0 false dG fu ws)):=by kernel_rfl
theorem Vc{F ae:Int}{ao:aJ}{rec:bZ}{K:aW}{al M}{v1 v0}(cd:v1=fun a b c=>Lp a al M b c)(b0:v0=ky ae):b7 EW tab Tryz.f188 2 K rec (cQ yb) (v1 F ae ao)=(
 J (aN F 32)
 (ae<=100000 /\
 J (!(!(au ae 0)))
 (K (.one (ay false)) [.box [.own 1,A v0],.arr z.int ao])
 (((0:Int)<=W (W (M*32)+F)/\W (W (M*32)+F)<(len ao:Int)) /\
 Int.toNat (W (W (M*32)+F))<len ao /\
 rec yb (v1 (W (F+1)) v0 (setAt ao (Int.toNat (W (W (M*32)+F))) (65535:Int)))))
 (K (.one (ay true)) [.box [.own 1,A ae],.arr z.int ao])):=by subst_vars;kernel_rfl

theorem S3(dG:Int)(av:0<=dG)(K:aW):∀(n:Nat) (ws:aJ) (fu:Int),n<=32->-1<=fu->fu<=100000->(dG+1)*32<=(ws.length:Nat)->ws.length<=192 ->
  K (.one (ay (b9 ⟨ws,fu⟩ (hb (32*dG+(32-n)) n)).2)) [.box [.own 1,A (b9 ⟨ws,fu⟩ (hb (32*dG+(32-n)) n)).1.fuel],.arr .int (b9 ⟨ws,fu⟩ (hb (32*dG+(32-n)) n)).1.words] ->
  cl EW tab Tryz.f188 2 K (n+1) yb (Lp (32-n) false dG fu ws)
 |0,ws,fu,aq,I,G,ab,aV,D=>by
  rw[bW (L:=yb),Vc rfl rfl];refine co (by omega) ?_;simp only[hb,HG]at D;exact D
 |n+1,ws,fu,aq,I,G,ab,aV,D=>by
  rw[bW (L:=yb),Vc rfl rfl];have aO:W ((W (dG*32))+(32-((n+1:Nat):Int)))=32*dG+(32-((n+1:Nat):Int)):=by
   rw[cc (n:=dG*32) (by omega) (by omega),cc (by omega) (by omega)];omega
  rw[aO];simp only[hb,HE]at D;refine cS (by omega) ⟨G,?_⟩
  by_cases a6:fu=0
  ·subst a6;refine gb (by simp[au]) ?_;simp only[if_true]at D;exact D
  ·rw[if_neg a6]at D;refine fa (by simp[au,a6]) ⟨⟨by omega,by simp only[len];omega⟩,by simp only[len];omega,?_⟩;rw[cc (by omega) (by omega),show(32-((n+1:Nat):Int))+1=32-(n:Int)by omega];refine S3 dG av K n _ _ (by omega) ?_ ?_ (by simp[setAt];omega) (by simpa[setAt]using aV) ?_
   ·unfold ky;split<;>omega
   ·unfold ky;split<;>omega
   ·rw[show(32*dG+(32-((n+1:Nat):Int)))+1=32*dG+(32-(n:Int))by omega]at D;exact D
theorem Mn:bw 188 Ha:=b2 (Γ:=EW) 2 (bv.f Mi) Tryz.func188 (by kernel_rfl) fun vs ar=>by
 unfold Ha;split;rotate_left;trivial;rename_i dG fu ws;refine⟨by kernel_rfl,fun ag K D=>?_⟩;obtain⟨I,G,ab,aV,br⟩:=ag;refine⟨34,?_⟩;rw[eO,afG _ _ _ _ _];exact S3 dG ab K 32 ws fu (by omega) I G (by simpa[len]using aV) br (by simpa[eH]using D)
end
end Go.Proofs.YtlbppjmekiemiaaGreatDoor
