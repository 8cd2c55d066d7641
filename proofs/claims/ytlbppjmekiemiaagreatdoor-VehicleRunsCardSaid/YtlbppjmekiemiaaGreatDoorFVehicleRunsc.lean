/- What the functions of VehicleRuns compute (part 3 of 5). No condition. -/
import Derived.Test.YtlbppjmekiemiaaGreatDoorFVehicleRunsb
import Derived.KernelRfl
namespace Go.Proofs.YtlbppjmekiemiaaGreatDoor
noncomputable section
open bE
set_option maxHeartbeats 4000000
variable (k n aL ha v x:Int) (a b:c3)
def F7:bd
 |[.agg [.E (.list .int) ws,.E .int fu,.E .bool up,.E .int bu,.E .int bx]],[]=>some (some (eQ ws),.one (A (eZ ⟨⟨ws,fu⟩,up,bu,bx⟩)),[])
 |_,_=>none

theorem ahx:bw 16 F7:=b2 0 (bv.f WQ) Tryz.func16 (by kernel_rfl) fun vs ar=>by
 unfold F7;split;rotate_left;trivial;rename_i ws fu up bu bx;refine⟨by kernel_rfl,fun ag K D=>?_⟩;refine⟨1,?_⟩;refine ck (fun rec=>(by kernel_rfl:_=(
  List.length ws<=140737488355328 /\
  J (!(au (dE ⟨ws,fu⟩) 0))
  (K (.one (A (dE ⟨ws,fu⟩))) [])
  (J (!(au (len ws:Int) 192))
  (K (.one (A 4)) [])
  (J (aN bu 0)
  (K (.one (A 3)) [])
  (J (aN 8 bu)
  (K (.one (A 3)) [])
  (J (aN bx 0)
  (K (.one (A 3)) [])
  (J (aN 40 bx)
  (K (.one (A 3)) [])
  (K (.one (A 0)) []))))))))) ?_
 unfold eZ at D;simp only at D;refine⟨ag,bN (fun h=>?_) (fun h=>bN (fun G=>?_) (fun G=>bq (fun ab=>?_) (fun ab=>bq (fun aV=>?_) (fun aV=>bq (fun br=>?_) (fun br=>bq (fun bV=>?_) (fun bV=>?_))))))⟩
 ·rw[if_neg h]at D;exact D
 ·rw[if_pos h,if_neg (by simp only[len]at G;omega)]at D;exact D
 all_goals rw[if_pos h,if_pos (by simp only[len]at G;omega)]at D
 ·rw[if_pos (by omega)]at D;exact D
 ·rw[if_pos (by omega)]at D;exact D
 ·rw[if_pos (by omega)]at D;exact D
 ·rw[if_pos (by omega)]at D;exact D
 ·rw[if_neg (by omega)]at D;exact D

def BQ:bd
 |[.one (.E (.list .int) l)],[]=>some (none,.one (A (fY l)),[])
 |_,_=>none

theorem Wb:bw 17 BQ:=b2 0 (bv.f AW) Tryz.func17 (by kernel_rfl) fun vs ar=>by
 unfold BQ;split;rotate_left;trivial;rename_i l;refine⟨by kernel_rfl,fun K D=>?_⟩;refine⟨1,?_⟩;refine ck (fun rec=>(by kernel_rfl:_=(
  J (aN (len l:Int) 1)
  (K (.one (A 2)) [])
  (J (aN 40 (len l:Int))
  (K (.one (A 2)) [])
  (List.length l<=140737488355328 /\
  J (!(cK l))
  (K (.one (A 3)) [])
  (K (.one (A 0)) [])))))) ?_
 unfold fY at D;refine bq (fun h=>?_) (fun h=>bq (fun G=>?_) (fun G=>⟨by simp only[len]at G;omega,eF (fun ab=>?_) (fun ab=>?_)⟩))
 ·rw[if_pos (by simp only[len]at h;omega)]at D;exact D
 ·rw[if_pos (by simp only[len]at G;omega)]at D;exact D
 ·rw[if_neg (by simp only[len]at h G;omega),if_neg (by rw[ab];simp)]at D;exact D
 ·rw[if_neg (by simp only[len]at h G;omega),if_pos ab]at D;exact D

def BP:bd
 |[.agg [.E .int v,.E .int u,.E (.list .target) ts]],[]=>some (none,.one (A (gD v u ts)),[])
 |_,_=>none
def M2:Ctx:=[]
def xe:List cw:=[.inLoop [36,35,34,2] (Code.sub (bF Tryz.f18) [1,1,1,0,1,0,0]),.inBlock 0,.code (Code.sub (bF Tryz.f18) [1,1,1,1])]
def Kf(F al:Int)(M:LT)(ae:Int):bP:=⟨[(36,.one (A F)),(35,.one (A al)),(34,.one (.E (z.list z.target) M)),(2,.one (A ae))],[],0⟩
theorem TV{F:Int}{rec:bZ}{K:aW}{al M ae}{v0}(b0:v0=fun a=>Kf a al M ae):b7 M2 tab Tryz.f18 0 K rec (cQ xe) (v0 F)=(
 J (aN F al)
 (((0:Int)<=F/\F<(len M:Int)) /\
 J (!(au (nth M (Int.toNat F) (z.H z.target)).unit F))
 (K (.one (A 3)) [])
 (J (aN (nth M (Int.toNat F) (z.H z.target)).image 1)
 (K (.one (A 3)) [])
 (J (aN 60 (nth M (Int.toNat F) (z.H z.target)).image)
 (K (.one (A 3)) [])
 (J (aN (nth M (Int.toNat F) (z.H z.target)).dp 1)
 (K (.one (A 3)) [])
 (J (aN 40 (nth M (Int.toNat F) (z.H z.target)).dp)
 (K (.one (A 3)) [])
 (rec xe (v0 (W (F+1)))))))))
 (K (.one (A 0)) [])):=by subst_vars;kernel_rfl

theorem Sq(ts:LT)(ax:ts.length<=4)(K:aW):∀(d k:Nat),k+d=ts.length->K (.one (A (if jM (k:Int) (ts.drop k)then 0 else 3))) [] ->
  cl M2 tab Tryz.f18 0 K (d+1) xe (Kf (k:Int) (((len ts):Nat):Int) ts 0)
 |0,k,ad,D=>by
  rw[bW (L:=xe),TV rfl];rw[List.drop_of_length_le (by omega)]at D;exact co (by simp only[len];omega) D
 |d+1,k,ad,D=>by
  rw[bW (L:=xe),TV rfl,cM];rw[ep (by omega) (z.H z.target)]at D;obtain⟨x,aG⟩:∃x,nth ts k (z.H z.target)=x:=⟨_,rfl⟩
  rw[aG]at D |-;have three:pZ (k:Int) x=false->K (.one (A 3)) []:=fun h=>by rw[show jM (k:Int) (x::ts.drop (k+1))=false from by simp[jM,h]]at D;exact D
  have zQ:pZ (k:Int) x=true↔(x.unit=k/\1<=x.image/\x.image<=60/\1<=x.dp/\x.dp<=40):=by
   simp only[pZ,Bool.and_eq_true,decide_eq_true_eq];omega
  have bad:¬(x.unit=k/\1<=x.image/\x.image<=60/\1<=x.dp/\x.dp<=40)->K (.one (A 3)) []:=fun h=>three (by
   cases az:pZ (k:Int) x
   ·rfl
   ·exact absurd (zQ.1 az) h)
  refine cS (by simp only[len];omega) ⟨⟨by omega,by simp only[len];omega⟩,bN (fun h=>bad (by omega)) (fun h=>bq (fun G=>bad (by omega)) (fun G=>bq (fun ab=>bad (by omega)) (fun ab=>bq (fun aV=>bad (by omega)) (fun aV=>bq (fun br=>bad (by omega)) (fun br=>?_)))))⟩;rw[di (by omega)];rw[show jM (k:Int) (x::ts.drop (k+1))=jM ((k:Int)+1) (ts.drop (k+1))from by simp only[jM,zQ.2 (show _ by omega),Bool.true_and]]at D;exact Sq ts ax K d (k+1) (by omega) (by rw[show((k+1:Nat):Int)=(k:Int)+1 by omega];exact D)
theorem Wa:bw 18 BP:=b2 (Γ:=M2) 0 bv Tryz.func18 (by kernel_rfl) fun vs ar=>by
 unfold BP;split;rotate_left;trivial;rename_i v u ts;refine⟨by kernel_rfl,fun K D=>?_⟩;refine⟨ts.length+2,?_⟩;refine ck (fun rec=>(by kernel_rfl:_=(
  J (aN v 1)
  (K (.one (A 3)) [])
  (J (aN 1000 v)
  (K (.one (A 3)) [])
  (J (aN u 0)
  (K (.one (A 3)) [])
  (J (aN 100000 u)
  (K (.one (A 3)) [])
  (J (aN (len ts:Int) 1)
  (K (.one (A 2)) [])
  (J (aN 4 (len ts:Int))
  (K (.one (A 2)) [])
  (rec xe (Kf 0 (len ts:Int) ts 0)))))))))) ?_
 unfold gD at D;refine bq (fun h=>?_) (fun h=>bq (fun G=>?_) (fun G=>bq (fun ab=>?_) (fun ab=>bq (fun aV=>?_) (fun aV=>bq (fun br=>?_) (fun br=>bq (fun bV=>?_) (fun bV=>?_))))))
 ·rw[if_pos (by omega)]at D;exact D
 ·rw[if_pos (by omega)]at D;exact D
 ·rw[if_pos (by omega)]at D;exact D
 ·rw[if_pos (by omega)]at D;exact D
 ·rw[if_neg (by omega),if_pos (by simp only[len]at br;omega)]at D;exact D
 ·rw[if_neg (by omega),if_pos (by simp only[len]at bV;omega)]at D;exact D
 ·rw[if_neg (by omega),if_neg (by simp only[len]at br bV;omega)]at D;exact Sq ts (by simp only[len]at bV;omega) K ts.length 0 (by omega) D

def F8:bd
 |[.agg [.E .int mk,.E .int a8,.E .int ba,.E .int bD,.E .int cg,.E (.list .int) bT,.E .bool cy]],[]=>some (none,.one (A (gd ⟨mk,a8,ba,bD,cg,bT,cy⟩)),[])
 |_,_=>none

theorem ahy:bw 19 F8:=b2 0 (bv.f AW) Tryz.func19 (by kernel_rfl) fun vs ar=>by
 unfold F8;split;rotate_left;trivial;rename_i mk a8 ba bD cg bT cy;refine⟨by kernel_rfl,fun K D=>?_⟩;refine⟨1,?_⟩;refine ck (fun rec=>(by kernel_rfl:_=(
  J (aN mk 1)
  (K (.one (A 3)) [])
  (J (aN 7 mk)
  (K (.one (A 3)) [])
  (J (aN a8 0)
  (K (.one (A 3)) [])
  (J (aN 3 a8)
  (K (.one (A 3)) [])
  (J (aN ba 1)
  (K (.one (A 3)) [])
  (J (aN 8 ba)
  (K (.one (A 3)) [])
  (J (aN bD 0)
  (K (.one (A 3)) [])
  (J (aN 40 bD)
  (K (.one (A 3)) [])
  (J (aN cg 0)
  (K (.one (A 3)) [])
  (J (aN 60 cg)
  (K (.one (A 3)) [])
  (J (aN 8 (len bT:Int))
  (K (.one (A 3)) [])
  (List.length bT<=140737488355328 /\
  J (!(cK bT))
  (K (.one (A 3)) [])
  (K (.one (A 0)) []))))))))))))))) ?_
 unfold gd at D;simp only at D;refine bq (fun I=>?_) (fun I=>bq (fun G=>?_) (fun G=>bq (fun ab=>?_) (fun ab=>bq (fun aV=>?_) (fun aV=>bq (fun br=>?_) (fun br=>bq (fun bV=>?_) (fun bV=>bq (fun dm=>?_) (fun dm=>bq (fun dZ=>?_) (fun dZ=>bq (fun iE=>?_) (fun iE=>bq (fun pF=>?_) (fun pF=>bq (fun m2=>?_) (fun m2=>⟨?_,eF (fun oJ=>?_) (fun oJ=>?_)⟩)))))))))))
 ·rw[if_pos (by omega)]at D;exact D
 ·rw[if_pos (by omega)]at D;exact D
 ·rw[if_pos (by omega)]at D;exact D
 ·rw[if_pos (by omega)]at D;exact D
 ·rw[if_pos (by omega)]at D;exact D
 ·rw[if_pos (by omega)]at D;exact D
 ·rw[if_pos (by omega)]at D;exact D
 ·rw[if_pos (by omega)]at D;exact D
 ·rw[if_pos (by omega)]at D;exact D
 ·rw[if_pos (by omega)]at D;exact D
 ·rw[if_pos (by simp only[len]at m2;omega)]at D;exact D
 ·simp only[len]at m2;omega
 ·rw[if_neg (by simp only[len]at m2;omega)]at D;have:cK bT=false:=by simpa using oJ
  rw[if_neg (by rw[this];simp)]at D;exact D
 ·rw[if_neg (by simp only[len]at m2;omega)]at D;have:cK bT=true:=by simpa using oJ
  rw[if_pos this]at D;exact D

def GM:bd
 |[.agg [.E (.list .str) aM,.E (.list .signed) vs,.E (.list .int) ws,.E .int fu,.E .bool up,.E .int ak,.E (.list .int) ah,.E .int aj,.E .int ai,.E (.list .bool) Y,.E (.list .bool) aa,.E (.list .aT) us,.E (.list .aU) cs,.E (.list .message) U,.E .int now]],[]=>some (some (qa ⟨aM,vs,⟨⟨ws,fu⟩,up,⟨⟨ak,ah,aj⟩,ai⟩,Y,aa⟩,us,cs,U,now⟩=true),.one (A (mV ⟨aM,vs,⟨⟨ws,fu⟩,up,⟨⟨ak,ah,aj⟩,ai⟩,Y,aa⟩,us,cs,U,now⟩)),[])
 |_,_=>none
def o9:Ctx:=[(13,y3),(14,B0),(15,Gf),(16,F7),(17,BQ),(18,BP),(19,F8)]
def tv:List cw:=[.inLoop [49,48,47,6,2,1] (cZ jl [1,1,1,1,1,1,0,1,0,0]),.inBlock 0,.code (cZ jl [1,1,1,1,1,1,1])]
def K5(F al:Int)(M:c3)(ae ao:Int)(aE:cB)(aH:cD)(aS:aJ)(aZ:Int)(bc:Bool)(bn:Int)(bo:aJ)(bm bC:Int)(bJ bI:c9)(bM:c3)(bz:db)(bS:cG)(bY:Int):bP:=⟨[(49,.one (A F)),(48,.one (A al)),(47,.one (.E (z.list z.aT) M)),(6,.one (A ae)),(2,.one (A ao)),(1,.one (.ptr 0 0))],[(0,.box [.E (z.list z.str) aE,.E (z.list z.signed) aH,af aS,A aZ,ay bc,A bn,af bo,A bm,A bC,bj bJ,bj bI,.E (z.list z.aT) bM,.E (z.list z.aU) bz,bB bS,A bY])],1⟩
def r5:List cw:=[.inLoop [72,71,70,6,2,1] (cZ jl [1,1,1,1,1,1,1,1,0,1,0,0]),.inBlock 2,.code (cZ jl [1,1,1,1,1,1,1,1,1])]
def xY(F al:Int)(M:db)(ae ao:Int)(aE:cB)(aH:cD)(aS:aJ)(aZ:Int)(bc:Bool)(bn:Int)(bo:aJ)(bm bC:Int)(bJ bI:c9)(bM:c3)(bz:db)(bS:cG)(bY:Int):bP:=⟨[(72,.one (A F)),(71,.one (A al)),(70,.one (.E (z.list z.aU) M)),(6,.one (A ae)),(2,.one (A ao)),(1,.one (.ptr 0 0))],[(0,.box [.E (z.list z.str) aE,.E (z.list z.signed) aH,af aS,A aZ,ay bc,A bn,af bo,A bm,A bC,bj bJ,bj bI,.E (z.list z.aT) bM,.E (z.list z.aU) bz,bB bS,A bY])],1⟩
def xW:List cw:=[.inLoop [100,99,98,97,96,95,94,93,92,91,90,89,88,87,86,85,84,83,82,81,80,79,78,77,10,11,76,75,74,73,72,71,70,6,2,1] (cZ jl [1,1,1,1,1,1,1,1,0,1,0,0,1,1,0,0,1,1,0,1,0,0]),.inBlock 4,.code (cZ jl [1,1,1,1,1,1,1,1,0,1,0,0,1,1,0,0,1,1,1]),.inBlock 3,.code (cZ jl [1,1,1,1,1,1,1,1,0,1,0,0,1,1,1]),.inLoop [72,71,70,6,2,1] (cZ jl [1,1,1,1,1,1,1,1,0,1,0,0]),.inBlock 2,.code (cZ jl [1,1,1,1,1,1,1,1,1])]
def K6(F al:Int)(M:cu)(ae ao:Bool)(aE aH:Int)(aS:LT)(aZ bc bn:Bool)(bo bm:Int)(bC:cu)(bJ bI:Bool)(bM bz bS bY cq cv cN:Int)(c0:LT)(c5:cu)(dq:db)(dt:Nat)(dH:Int)(dI:Bool)(dr dD:Int)(dx:db)(ea dW eb ek fj:Int)(fN:LT)(gp:cu)(hc:cB)(gq:cD)(gM:aJ)(ig:Int)(jR:Bool)(jS:Int)(jT:aJ)(lI lJ:Int)(vH vI:c9)(vJ:c3)(vK:db)(vL:cG)(vM:Int):bP:=⟨[(100,.one (A F)),(99,.one (A al)),(98,.one (cH M)),(97,.one (.ptr 0 4)),(96,.one (ay ae)),(95,.one (ay ao)),(94,.one (A aE)),(93,.one (A aH)),(92,.one (.E (z.list z.target) aS)),(91,.one (.ptr 0 3)),(90,.one (.ptr 0 1)),(89,.one (ay aZ)),(88,.one (ay bc)),(87,.one (ay bn)),(86,.one (A bo)),(85,.one (A bm)),(84,.one (cH bC)),(83,.one (.ptr 0 4)),(82,.one (ay bJ)),(81,.one (ay bI)),(80,.one (A bM)),(79,.one (A bz)),(78,.one (A bS)),(77,.one (.ptr 0 0)),(10,.one (A bY)),(11,.one (.ptr 0 0)),(76,.agg [A cq,A cv,A cN,.E (z.list z.target) c0,cH c5]),(75,.one (.lS z.aU dq dt 0)),(74,.one (A dH)),(73,.one (ay dI)),(72,.one (A dr)),(71,.one (A dD)),(70,.one (.E (z.list z.aU) dx)),(6,.one (A ea)),(2,.one (A dW)),(1,.one (.ptr 1 0))],[(0,.box [A eb,A ek,A fj,.E (z.list z.target) fN,cH gp]),(1,.box [.E (z.list z.str) hc,.E (z.list z.signed) gq,af gM,A ig,ay jR,A jS,af jT,A lI,A lJ,bj vH,bj vI,.E (z.list z.aT) vJ,.E (z.list z.aU) vK,bB vL,A vM])],2⟩
def xX:List cw:=[.inLoop [120,119,118,6,2,1] (cZ jl [1,1,1,1,1,1,1,1,1,0,1,0,0]),.inBlock 6,.code (cZ jl [1,1,1,1,1,1,1,1,1,1])]
def K7(F al:Int)(M:cG)(ae ao:Int)(aE:cB)(aH:cD)(aS:aJ)(aZ:Int)(bc:Bool)(bn:Int)(bo:aJ)(bm bC:Int)(bJ bI:c9)(bM:c3)(bz:db)(bS:cG)(bY:Int):bP:=⟨[(120,.one (A F)),(119,.one (A al)),(118,.one (bB M)),(6,.one (A ae)),(2,.one (A ao)),(1,.one (.ptr 0 0))],[(0,.box [.E (z.list z.str) aE,.E (z.list z.signed) aH,af aS,A aZ,ay bc,A bn,af bo,A bm,A bC,bj bJ,bj bI,.E (z.list z.aT) bM,.E (z.list z.aU) bz,bB bS,A bY])],1⟩
theorem UQ(aM:cB)(vs:cD)(ws:aJ)(fu:Int)(up:Bool)(ak:Int)(ah:aJ)(aj ai:Int)(Y aa:c9)(us:c3)(cs:db)(U:cG)(now:Int)(rec:bZ)(K:aW) v0 (b0:v0=fH aM) v1 (cd:v1=iq vs) aC (cR:aC=dM ⟨⟨ws,fu⟩,up,⟨⟨ak,ah,aj⟩,ai⟩,Y,aa⟩):b7 o9 tab jl 0 K rec [.code (bF jl)] (df [.agg (en aM vs ws fu up ak ah aj ai Y aa (.E (z.list z.aT) us) (.E (z.list z.aU) cs) (bB U) now)] [])=(
 J (!(au v0 0))
 (K (.one (A v0)) [])
 (J (!(au v1 0))
 (K (.one (A v1)) [])
 (List.length ws<=140737488355328 /\
 J (!(au aC 0))
 (K (.one (A aC)) [])
 (J (!(au (len us:Int) (len Y:Int)))
 (K (.one (A 4)) [])
 (rec tv (K5 0 (len us:Int) us (len us:Int) 0 aM vs ws fu up ak ah aj ai Y aa us cs U now)))))):=by subst_vars;kernel_rfl
theorem DT{F:Int}{rec:bZ}{K:aW}{al M ae ao aE aH aS aZ bc bn bo bm bC bJ bI bM bz bS bY}{v1 v0}(cd:v1=fun a=>K5 a al M ae ao aE aH aS aZ bc bn bo bm bC bJ bI bM bz bS bY)(b0:v0=eZ ⟨(nth M (Int.toNat F) (z.H z.aT)).f,(nth M (Int.toNat F) (z.H z.aT)).up,(nth M (Int.toNat F) (z.H z.aT)).n,(nth M (Int.toNat F) (z.H z.aT)).eE⟩):b7 o9 tab jl 0 K rec (cQ tv) (v1 F)=(
 J (aN F al)
 (((0:Int)<=F/\F<(len M:Int)) /\
 List.length ((nth M (Int.toNat F) (z.H z.aT)).f).words<=140737488355328 /\
 J (!(au v0 0))
 (K (.one (A v0)) [])
 (rec tv (v1 (W (F+1)))))
 (J (aN 8 (len bz:Int))
 (K (.one (A 2)) [])
 (J (aN 24 (len bS:Int))
 (K (.one (A 2)) [])
 (rec r5 (xY 0 (len bz:Int) bz ae ao aE aH aS aZ bc bn bo bm bC bJ bI bM bz bS bY))))):=by subst_vars;kernel_rfl
theorem K8{F al ae ao aZ bn bm bC bY:Int}{M bz:db}{aE:cB}{aH:cD}{aS bo:aJ}{bc:Bool}{bJ bI:c9}{bM:c3}{bS:cG}{rec:bZ}{K:aW}:b7 o9 tab jl 0 K rec (cQ r5) (xY F al M ae ao aE aH aS aZ bc bn bo bm bC bJ bI bM bz bS bY)=(
 J (aN F al)
 (((0:Int)<=F/\F<(len M:Int)) /\
 J (!(au (nth M (Int.toNat F) (z.H z.aU)).n (W (F+1))))
 (K (.one (A 4)) [])
 (J (!(au (((len (nth M (Int.toNat F) (z.H z.aU)).cL):Nat):Int) ae))
 (K (.one (A 4)) [])
 (J (!(au (((len ((nth M (Int.toNat F) (z.H z.aU)).r).targets):Nat):Int) ae))
 (K (.one (A 4)) [])
 (rec xW (K6 0 (((len (nth M (Int.toNat F) (z.H z.aU)).cL):Nat):Int) (nth M (Int.toNat F) (z.H z.aU)).cL (!(au (((len ((nth M (Int.toNat F) (z.H z.aU)).r).targets):Nat):Int) ae)) (!(au (((len ((nth M (Int.toNat F) (z.H z.aU)).r).targets):Nat):Int) ae)) ae (((len ((nth M (Int.toNat F) (z.H z.aU)).r).targets):Nat):Int) ((nth M (Int.toNat F) (z.H z.aU)).r).targets false (!(au (((len (nth M (Int.toNat F) (z.H z.aU)).cL):Nat):Int) ae)) (!(au (((len (nth M (Int.toNat F) (z.H z.aU)).cL):Nat):Int) ae)) ae (((len (nth M (Int.toNat F) (z.H z.aU)).cL):Nat):Int) (nth M (Int.toNat F) (z.H z.aU)).cL false (!(au (nth M (Int.toNat F) (z.H z.aU)).n (W (F+1)))) (W (F+1)) F (nth M (Int.toNat F) (z.H z.aU)).n F (nth M (Int.toNat F) (z.H z.aU)).n ((nth M (Int.toNat F) (z.H z.aU)).r).version ((nth M (Int.toNat F) (z.H z.aU)).r).ca ((nth M (Int.toNat F) (z.H z.aU)).r).targets (nth M (Int.toNat F) (z.H z.aU)).cL M (Int.toNat F) F (aN F al) F al M ae ao (nth M (Int.toNat F) (z.H z.aU)).n ((nth M (Int.toNat F) (z.H z.aU)).r).version ((nth M (Int.toNat F) (z.H z.aU)).r).ca ((nth M (Int.toNat F) (z.H z.aU)).r).targets (nth M (Int.toNat F) (z.H z.aU)).cL aE aH aS aZ bc bn bo bm bC bJ bI bM bz bS bY)))))
 (rec xX (K7 0 (len bS:Int) bS ae ao aE aH aS aZ bc bn bo bm bC bJ bI bM bz bS bY))):=by kernel_rfl
theorem UR{F:Int}{rec:bZ}{K:aW}{al M ae ao aE aH aS aZ bc bn bo bm bC bJ bI bM bz bS bY cq cv cN c0 c5 dq dt dH dI dr dD dx ea dW eb ek fj fN gp hc gq gM ig jR jS jT lI lJ vH vI vJ vK vL vM}{aC v0 v1}(cR:aC=fun a=>K6 a al M ae ao aE aH aS aZ bc bn bo bm bC bJ bI bM bz bS bY cq cv cN c0 c5 dq dt dH dI dr dD dx ea dW eb ek fj fN gp hc gq gM ig jR jS jT lI lJ vH vI vJ vK vL vM)(b0:v0=fY (nth M (Int.toNat F) (z.H (z.list z.int))))(cd:v1=gD ek fj fN):b7 o9 tab jl 0 K rec (cQ xW) (aC F)=(
 J (aN F al)
 (((0:Int)<=F/\F<(len M:Int)) /\
 J (!(au v0 0))
 (K (.one (A v0)) [])
 (rec xW (aC (W (F+1)))))
 (J (!(au v1 0))
 (K (.one (A v1)) [])
 (rec r5 (xY (W (dr+1)) dD dx ea dW hc gq gM ig jR jS jT lI lJ vH vI vJ vK vL vM)))):=by subst_vars;kernel_rfl
theorem US{F:Int}{rec:bZ}{K:aW}{al M ae ao aE aH aS aZ bc bn bo bm bC bJ bI bM bz bS bY}{v1 v0}(cd:v1=fun a=>K7 a al M ae ao aE aH aS aZ bc bn bo bm bC bJ bI bM bz bS bY)(b0:v0=gd (nth M (Int.toNat F) (z.H z.message))):b7 o9 tab jl 0 K rec (cQ xX) (v1 F)=(
 J (aN F al)
 (((0:Int)<=F/\F<(len M:Int)) /\
 J (!(au v0 0))
 (K (.one (A v0)) [])
 (J (dc ae (nth M (Int.toNat F) (z.H z.message)).unit)
 (K (.one (A 5)) [])
 (rec xX (v1 (W (F+1))))))
 (J (aN bY 0)
 (K (.one (A 3)) [])
 (J (aN 100000 bY)
 (K (.one (A 3)) [])
 (K (.one (A 0)) [])))):=by subst_vars;kernel_rfl

theorem Sl(aM:cB)(vs:cD)(ws:aJ)(fu:Int)(up:Bool)(ak:Int)(ah:aJ)(aj ai:Int)(Y aa:c9)(us:c3)(cs:db)(U:cG)(now:Int)(aq:U.length<=24)(K:aW):∀(d k:Nat),k+d=U.length->K (.one (A (hI us.length (U.drop k) now))) [] ->
  cl o9 tab jl 0 K (d+1) xX (K7 (k:Int) (((len U):Nat):Int) U (((len us):Nat):Int) 0 aM vs ws fu up ak ah aj ai Y aa us cs U now)
 |0,k,ad,D=>by
  rw[bW (L:=xX),US rfl rfl];rw[List.drop_of_length_le (by omega)]at D;refine co (by simp only[len];omega) (bq (fun h=>?_) (fun h=>bq (fun G=>?_) (fun G=>?_)))
  ·rw[show hI us.length [] now=3 from(show hI us.length [] now=ur now from rfl).trans (if_pos (.inl h))]at D;exact D
  ·rw[show hI us.length [] now=3 from(show hI us.length [] now=ur now from rfl).trans (if_pos (.inr G))]at D;exact D
  ·rw[show hI us.length [] now=0 from(show hI us.length [] now=ur now from rfl).trans (if_neg (by omega))]at D;exact D
 |d+1,k,ad,D=>by
  rw[bW (L:=xX),US rfl rfl,cM,di (by omega)];rw[ep (by omega) (z.H z.message)]at D;obtain⟨m,aB⟩:∃m,nth U k (z.H z.message)=m:=⟨_,rfl⟩
  rw[aB]at D |-;refine cS (by simp only[len];omega) ⟨⟨by omega,by simp only[len];omega⟩,bN (fun h=>?_) (fun h=>cn (fun G=>?_) (fun G=>?_))⟩
  ·have e:mU us.length (m::U.drop (k+1))=gd m:=if_neg h;rw[show hI us.length (m::U.drop (k+1)) now=gd m from by unfold hI;rw[e,if_neg h]]at D;exact D
  ·rw[fV]at G;have e:mU us.length (m::U.drop (k+1))=5:=(if_pos h).trans (if_pos G);rw[show hI us.length (m::U.drop (k+1)) now=5 from by unfold hI;rw[e];rfl]at D;exact D
  ·rw[eC]at G;have e:mU us.length (m::U.drop (k+1))=mU us.length (U.drop (k+1)):=(if_pos h).trans (if_neg (by simp only[len]at G;omega));rw[show hI us.length (m::U.drop (k+1)) now=hI us.length (U.drop (k+1)) now from by unfold hI;rw[e]]at D;exact Sl aM vs ws fu up ak ah aj ai Y aa us cs U now aq K d (k+1) (by omega) D
theorem Sh(K:aW){bG:cu}(aaM:bG.length<=1000){ae:Bool}{ao:Bool}{aE:Int}{aH:Int}{aS:(List tZ)}{aZ:Bool}{bc:Bool}{bn:Bool}{bo:Int}{bm:Int}{bC:(List (List Int))}{bJ:Bool}{bI:Bool}{bM:Int}{bz:Int}{bS:Int}{bY:Int}{cq:Int}{cv:Int}{cN:Int}{c0:(List tZ)}{c5:(List (List Int))}{dq:(List nx)}{dt:Nat}{dH:Int}{dI:Bool}{dr:Int}{dD:Int}{dx:(List nx)}{ea:Int}{dW:Int}{eb:Int}{ek:Int}{fj:Int}{fN:(List tZ)}{gp:(List (List Int))}{hc:(List (List UInt8))}{gq:(List sp)}{gM:(List Int)}{ig:Int}{jR:Bool}{jS:Int}{jT:(List Int)}{lI:Int}{lJ:Int}{vH:(List Bool)}{vI:(List Bool)}{vJ:(List po)}{vK:(List nx)}{vL:(List fC)}{vM:Int}(m:Nat):∀(d j:Nat),j+d=bG.length->(kZ (bG.drop j)≠0->K (.one (A (kZ (bG.drop j)))) [])->(kZ (bG.drop j)=0->gD ek fj fN≠0->K (.one (A (gD ek fj fN))) []) ->
  (kZ (bG.drop j)=0->gD ek fj fN=0->cl o9 tab jl 0 K m r5 (xY (W (dr+1)) dD dx ea dW hc gq gM ig jR jS jT lI lJ vH vI vJ vK vL vM))->cl o9 tab jl 0 K (m+d+1) xW (K6 (j:Int) (((len bG):Nat):Int) bG ae ao aE aH aS aZ bc bn bo bm bC bJ bI bM bz bS bY cq cv cN c0 c5 dq dt dH dI dr dD dx ea dW eb ek fj fN gp hc gq gM ig jR jS jT lI lJ vH vI vJ vK vL vM)
 |0,j,aR,I,G,ab=>by
  rw[bW (L:=xW),UR rfl rfl rfl];rw[List.drop_of_length_le (by omega)]at G ab;exact co (by simp only[len];omega) (bN (fun h=>G rfl h) (fun h=>ab rfl h))
 |d+1,j,aR,I,G,ab=>by
  rw[show m+(d+1)+1=(m+d+1)+1 by omega,bW (L:=xW),UR rfl rfl rfl,cM,di (by omega)];rw[ep (l:=bG) (by omega) (z.H (z.list z.int))]at I G ab;obtain⟨w,cb⟩:∃w,nth bG j (z.H (z.list z.int))=w:=⟨_,rfl⟩
  rw[cb]at I G ab |-;refine cS (by simp only[len];omega) ⟨⟨by omega,by simp only[len];omega⟩,bN (fun h=>?_) (fun h=>?_)⟩
  ·have e:kZ (w::bG.drop (j+1))=fY w:=if_neg h;rw[e]at I;exact I h
  ·have e:kZ (w::bG.drop (j+1))=kZ (bG.drop (j+1)):=if_pos h;rw[e]at I G ab;exact Sh K aaM m d (j+1) (by omega) I G ab
theorem R8(aM:cB)(vs:cD)(ws:aJ)(fu:Int)(up:Bool)(ak:Int)(ah:aJ)(aj ai:Int)(Y aa:c9)(us:c3)(cs:db)(U:cG)(now:Int)(az:cs.length<=8)(aq:U.length<=24)(hu:us.length<=4)(K:aW):∀(d k:Nat),k+d=cs.length->K (.one (A (my us.length ((k+1:Nat):Int) (cs.drop k) U now))) [] ->
  ∃m,cl o9 tab jl 0 K m r5 (xY (k:Int) (((len cs):Nat):Int) cs (((len us):Nat):Int) 0 aM vs ws fu up ak ah aj ai Y aa us cs U now)
 |0,k,ad,D=>by
  rw[List.drop_of_length_le (by omega)]at D;refine⟨U.length+1+1,?_⟩;rw[bW (L:=r5),K8 ];exact co (by simp only[len];omega) (Sl aM vs ws fu up ak ah aj ai Y aa us cs U now aq K U.length 0 (by omega) D)
 |d+1,k,ad,D=>by
  rw[ep (by omega) (z.H z.aU)]at D;obtain⟨c,aB⟩:∃c,nth cs k (z.H z.aU)=c:=⟨_,rfl⟩
  rw[aB]at D;have ex:∀x,nE c ((k+1:Nat):Int) us.length=x->x≠0->K (.one (A x)) []:=fun x aG a6=>by
   have e:nF us.length ((k+1:Nat):Int) (c::cs.drop (k+1))=x:=(if_neg (by rw[aG];exact a6)).trans aG;rw[show my us.length ((k+1:Nat):Int) (c::cs.drop (k+1)) U now=x from by unfold my;rw[e];exact if_neg a6]at D;exact D
  have lQ:c.n≠((k+1:Nat):Int)\/c.cL.length≠us.length\/c.r.targets.length≠us.length->K (.one (A 4)) []:=fun h=>ex 4 (if_pos h) (by decide)
  have le:∀a b:Nat,(((a:Nat):Int)=((b:Nat):Int))↔a=b:=fun a b=>by omega
  by_cases g:c.n≠((k+1:Nat):Int)\/c.cL.length≠us.length\/c.r.targets.length≠us.length
  ·have Io:=lQ g;refine⟨1,?_⟩;rw[bW (L:=r5),K8 ,cM,di (by omega),aB];refine cS (by simp only[len];omega) ⟨⟨by omega,by simp only[len];omega⟩,bN (fun _=>Io) (fun I=>bN (fun _=>Io) (fun G=>bN (fun _=>Io) (fun ab=>?_)))⟩;simp only[len,le]at G ab;omega
  ·have rI:nE c ((k+1:Nat):Int) us.length=if kZ c.cL=0 then gD c.r.version c.r.ca c.r.targets else kZ c.cL:=if_neg g
   simp only[not_or,ne_eq,Decidable.not_not]at g;obtain⟨a1,bf,cj⟩:=g;obtain⟨m,zM⟩:∃m,kZ c.cL=0->gD c.r.version c.r.ca c.r.targets=0->cl o9 tab jl 0 K m r5 (xY ((k+1:Nat):Int) (((len cs):Nat):Int) cs (((len us):Nat):Int) 0 aM vs ws fu up ak ah aj ai Y aa us cs U now):=by
    by_cases q:kZ c.cL=0/\gD c.r.version c.r.ca c.r.targets=0
    ·have e:nF us.length ((k+1:Nat):Int) (c::cs.drop (k+1))=nF us.length ((k+1+1:Nat):Int) (cs.drop (k+1)):=if_pos (by rw[rI,if_pos q.1];exact q.2);rw[show my us.length ((k+1:Nat):Int) (c::cs.drop (k+1)) U now=my us.length ((k+1+1:Nat):Int) (cs.drop (k+1)) U now from by unfold my;rw[e]]at D;obtain⟨m,h⟩:=R8 aM vs ws fu up ak ah aj ai Y aa us cs U now az aq hu K d (k+1) (by omega) D;exact⟨m,fun _ _=>h⟩
    ·exact⟨0,fun a b=>absurd ⟨a,b⟩ q⟩
   refine⟨(m+c.cL.length+1)+1,?_⟩;rw[bW (L:=r5),K8 ,cM,di (by omega),aB];refine cS (by simp only[len];omega) ⟨⟨by omega,by simp only[len];omega⟩,bN (fun h=>absurd a1 h) (fun _=>bN (fun h=>absurd ((le _ _).2 bf) h) (fun _=>bN (fun h=>absurd ((le _ _).2 cj) h) (fun _=>?_)))⟩;refine Sh K (by omega) m c.cL.length 0 (by omega) (fun h=>?_) (fun h G=>?_) (fun h G=>?_)
   ·exact ex _ (by rw[rI];exact if_neg h) h
   ·exact ex _ (by rw[rI];exact if_pos h) G
   ·rw[di (by omega)];exact zM h G
theorem R3(aM:cB)(vs:cD)(ws:aJ)(fu:Int)(up:Bool)(ak:Int)(ah:aJ)(aj ai:Int)(Y aa:c9)(us:c3)(cs:db)(U:cG)(now:Int)(nV:tC us=true)(hu:us.length<=4)(K:aW):∀(d k:Nat),k+d=us.length->K (.one (A (kz us.length (us.drop k) cs U now))) [] ->
  ∃m,cl o9 tab jl 0 K m tv (K5 (k:Int) (((len us):Nat):Int) us (((len us):Nat):Int) 0 aM vs ws fu up ak ah aj ai Y aa us cs U now)
 |0,k,ad,D=>by
  rw[List.drop_of_length_le (by omega)]at D;have dY:kz us.length [] cs U now=uq us.length cs U now:=rfl
  by_cases g:8<cs.length\/24<U.length
  ·rw[dY,show uq us.length cs U now=2 from if_pos g]at D;refine⟨1,?_⟩;rw[bW (L:=tv),DT rfl rfl];refine co (by simp only[len];omega) (bq (fun _=>D) (fun h=>bq (fun _=>D) (fun G=>?_)));simp only[len]at h G;omega
  ·rw[dY,show uq us.length cs U now=my us.length 1 cs U now from if_neg g]at D;obtain⟨m,h⟩:=R8 aM vs ws fu up ak ah aj ai Y aa us cs U now (by omega) (by omega) hu K cs.length 0 (by omega) D;refine⟨m+1,?_⟩;rw[bW (L:=tv),DT rfl rfl];exact co (by simp only[len];omega) (co (by simp only[len];omega) (co (by simp only[len];omega) h))
 |d+1,k,ad,D=>by
  rw[ep (by omega) (z.H z.aT)]at D;have av:=V5 nV (h9 (l:=us) (k:=k) (by omega) (z.H z.aT));obtain⟨u,aB⟩:∃u,nth us k (z.H z.aT)=u:=⟨_,rfl⟩
  rw[aB]at D av
  by_cases g:eZ u=0
  ·have e:ow (u::us.drop (k+1))=ow (us.drop (k+1)):=if_pos g;rw[show kz us.length (u::us.drop (k+1)) cs U now=kz us.length (us.drop (k+1)) cs U now from by unfold kz;rw[e]]at D;obtain⟨m,h⟩:=R3 aM vs ws fu up ak ah aj ai Y aa us cs U now nV hu K d (k+1) (by omega) D;refine⟨m+1,?_⟩;rw[bW (L:=tv),DT rfl rfl,cM,di (by omega),aB];exact cS (by simp only[len];omega) ⟨⟨by omega,by simp only[len];omega⟩,av,bN (fun q=>absurd g q) (fun _=>h)⟩
  ·have e:ow (u::us.drop (k+1))=eZ u:=if_neg g;rw[show kz us.length (u::us.drop (k+1)) cs U now=eZ u from by unfold kz;rw[e];exact if_neg g]at D;refine⟨1,?_⟩;rw[bW (L:=tv),DT rfl rfl,cM,di (by omega),aB];exact cS (by simp only[len];omega) ⟨⟨by omega,by simp only[len];omega⟩,av,bN (fun _=>D) (fun q=>absurd q g)⟩
theorem aim:bw 5 GM:=b2 (Γ:=o9) 0 (((((((bv.f ahy).f Wa).f Wb).f ahx).f ahH).f Ws).f LY) Tryz.func5 (by kernel_rfl) fun vs ar=>by
 unfold GM;split;rotate_left;trivial;rename_i aM vs ws fu up ak ah aj ai Y aa us cs U now;refine⟨by kernel_rfl,fun ag K D=>?_⟩;have S:=MC.1 ag;unfold mV at D;simp only at D;have le:∀a b:Nat,(((a:Nat):Int)=((b:Nat):Int))↔a=b:=fun a b=>by omega
 by_cases g:fH aM=0/\iq vs=0/\dM ⟨⟨ws,fu⟩,up,⟨⟨ak,ah,aj⟩,ai⟩,Y,aa⟩=0/\us.length=Y.length
 ·obtain⟨a1,bf,cj,eR⟩:=g;rw[if_pos a1,if_pos bf,if_pos cj,if_pos eR]at D;obtain⟨_,a,b,_⟩:=im cj;simp only at a b;obtain⟨m,h⟩:=R3 aM vs ws fu up ak ah aj ai Y aa us cs U now S.u (by omega) K us.length 0 (by omega) D;refine⟨m+1,?_⟩;rw[eO,UQ _ _ _ _ _ _ _ _ _ _ _ _ _ _ _ _ _ _ rfl _ rfl _ rfl];exact bN (fun q=>absurd a1 q) (fun _=>bN (fun q=>absurd bf q) (fun _=>⟨S.ws,bN (fun q=>absurd cj q) (fun _=>bN (fun q=>absurd ((le _ _).2 eR) q) (fun _=>h))⟩))
 ·refine⟨1,?_⟩;rw[eO,UQ _ _ _ _ _ _ _ _ _ _ _ _ _ _ _ _ _ _ rfl _ rfl _ rfl];refine bN (fun h=>?_) (fun h=>bN (fun G=>?_) (fun G=>⟨S.ws,bN (fun ab=>?_) (fun ab=>bN (fun aV=>?_) (fun aV=>?_))⟩))
  ·rw[if_neg h]at D;exact D
  ·rw[if_pos h,if_neg G]at D;exact D
  ·rw[if_pos h,if_pos G,if_neg ab]at D;exact D
  ·rw[if_pos h,if_pos G,if_pos ab,if_neg (show ¬us.length=Y.length from fun q=>aV ((le _ _).2 q))]at D;exact D
  ·exact absurd ⟨h,G,ab,(le _ _).1 aV⟩ g

def O1:bd
 |[.one (.own 0),.one (.E .str s)],[.arr .str l]=>some (some (l.length<=1000),.one (A (fk s l)),[.arr .str l])
 |_,_=>none
def ER:Ctx:=[]
def xO:List cw:=[.inLoop [8,7,4,0,1] (cZ oG [1,0,1,0,0]),.inBlock 0,.code (cZ oG [1,1])]
def KX(F al M:Int)(ae:jx)(ao:cB):bP:=⟨[(8,.one (A F)),(7,.one (A al)),(4,.one (A M)),(0,.one (.own 0)),(1,.one (.E z.str ae))],[(0,.arr z.str ao)],1⟩
theorem aff(l:cB)(s:jx)(rec:bZ)(K:aW):b7 ER tab oG 1 K rec [.code (bF oG)] (df [.one (.own 0),.one (.E z.str s)] [.arr z.str l])=(
 rec xO (KX 0 (len l:Int) 0 s l)):=by kernel_rfl
theorem UF{F:Int}{rec:bZ}{K:aW}{al M ae ao}{v0}(b0:v0=fun a=>KX a al M ae ao):b7 ER tab oG 1 K rec (cQ xO) (v0 F)=(
 J (aN F al)
 (((0:Int)<=F/\F<(len ao:Int)) /\
 Int.toNat F<len ao /\
 J (eqs ae (nth ao (Int.toNat F) (z.H z.str)))
 (K (.one (A F)) [.arr z.str ao])
 (rec xO (v0 (W (F+1)))))
 (K (.one (A (-1))) [.arr z.str ao])):=by subst_vars;kernel_rfl

theorem SS(l:cB)(s:jx)(ax:l.length<=1000)(K:aW):∀(d k:Nat),k+d=l.length->K (.one (A (iH k s (l.drop k)))) [.arr .str l] ->
  cl ER tab oG 1 K (d+1) xO (KX (k:Int) (((len l):Nat):Int) 0 s l)
 |0,k,ad,D=>by
  rw[bW (L:=xO),UF rfl];rw[List.drop_of_length_le (by omega)]at D;exact co (by simp only[len];omega) D
 |d+1,k,ad,D=>by
  rw[bW (L:=xO),UF rfl,cM];rw[ep (by omega) (z.H z.str)]at D;simp only[iH]at D;refine cS (by simp only[len];omega) ⟨⟨by omega,by simp only[len];omega⟩,by simp only[len];omega,cn (fun h=>?_) (fun h=>?_)⟩
  ·rw[HQ]at h;rw[if_pos h.symm]at D;exact D
  ·rw[HP]at h;rw[if_neg (fun e=>h e.symm)]at D;rw[di (by omega)];exact SS l s ax K d (k+1) (by omega) D
theorem ah9:bw 67 O1:=b2 (Γ:=ER) 1 bv Tryz.func67 (by kernel_rfl) fun vs ar=>by
 unfold O1;split;rotate_left;trivial;rename_i s l;refine⟨by kernel_rfl,fun ag K D=>?_⟩;refine⟨l.length+2,?_⟩;rw[eO,aff _ _ _ _];exact SS l s ag K l.length 0 (by omega) D

def Gz:bd
 |[.one (.E .str s),.one (.ptr 0 0)],[.box [.own 1],.arr .str b]=>some (some (b.length<=1000),.one (A (n3 b s).2),[.box [.own 2],.dead,.arr .str (n3 b s).1])
 |_,_=>none

theorem aia:bw 71 Gz:=sc 2 (bv.f ah9) Tryz.func71 (by kernel_rfl) fun vs ar=>by
 unfold Gz;split;rotate_left;trivial;rename_i s b;refine⟨by kernel_rfl,fun ag K D=>?_⟩;refine⟨1,?_⟩;refine kD (fun rec=>(by kernel_rfl:_=(
  List.length b<=1000 /\
  J (dc 0 (fk s b))
  (K (.one (A (W (fk s b+1)))) [.box [.own 2],.dead,.arr z.str b])
  ((len b+len (s::[]))*16<=140737488355328 /\
  K (.one (A (len (cat b (s::[])):Int))) [.box [.own 2],.dead,.arr z.str (cat b (s::[]))])))) ?_
 refine⟨ag,cn (fun h=>?_) (fun h=>⟨by simp only[len,List.length_cons,List.length_nil];omega,?_⟩)⟩
 ·have aA:=Ji s b 0 (Int.le_refl _);rw[show iH 0 s b=fk s b from rfl]at aA;have h:=fV.1 h;rw[show n3 b s=(b,fk s b+1)from if_pos h]at D;rw[cc (by omega) (by omega)];exact D
 ·have h:=eC.1 h;rw[show n3 b s=(b++[s],(b.length:Int)+1)from if_neg (by omega)]at D;have e:((len (cat b [s]):Nat):Int)=(b.length:Int)+1:=by simp[len,cat]
  rw[e];exact D

def Gy:bd
 |[.one (.E (.list .int) [x]),.one (.E .int n)],[]=>some (some (0<=n/\n<=1000000),.one (af (c6 n.toNat x)),[])
 |_,_=>none
def Bo:Ctx:=[(127,Gx)]
theorem ady:fz Tryz.prog tab Bo:=(bv.f ⟨⟨_,Tryz.func127,(by kernel_rfl)⟩,ah2⟩)
def xR:List cw:=[.inLoop [8,7,4] (Code.sub (bF Tryz.f73) [1,1,1,1,1,1,0,0,0]),.inBlock 0,.code (Code.sub (bF Tryz.f73) [1,1,1,1,1,1,1])]
def DS(F:Int)(al M:aJ):bP:=⟨[(8,.one (A F)),(7,.one (.own 0)),(4,.one (.own 1))],[(0,.arr z.int al),(1,.arr z.int M)],2⟩
theorem afi(x n:Int)(rec:bZ)(K:aW) v0 (b0:v0=sg (len (x::[]):Int)) v1 (cd:v1=uT v0) aC (cR:aC=sg n) v3 (ef:v3=uT aC):b7 Bo tab Tryz.f73 0 K rec [.code (bF Tryz.f73)] (df [.one (af (x::[])),.one (A n)] [])=(
 J (aN n 0)
 (False)
 ((v1=true/\v3=true) /\
 J (aN 0 ((v0*aC)/nv))
 (False)
 (J (aN 9223372036854775807 ((v0*aC)%nv))
 (False)
 (((0:Int)<=W ((v0*aC)%nv)/\W ((v0*aC)%nv)*((8:Nat):Int)<=140737488355328/\W ((v0*aC)%nv)<=140737488355328) /\
 rec xR (DS (((min (len (c6 (Int.toNat (W ((v0*aC)%nv))) (z.H z.int))) (len (x::[]))):Nat):Int) (put (c6 (Int.toNat (W ((v0*aC)%nv))) (z.H z.int)) 0 (a2 (x::[]) 0 (min (len (c6 (Int.toNat (W ((v0*aC)%nv))) (z.H z.int))) (len (x::[]))))) []))))):=by subst_vars;kernel_rfl
theorem UL{F:Int}{al M:aJ}{rec:bZ}{K:aW}:b7 Bo tab Tryz.f73 0 K rec (cQ xR) (DS F al M)=(
 J (aN F (len al:Int))
 (((0:Int)<=F/\F<=(len al:Int)/\(len al:Int)<=(len al:Int)) /\
 ((0:Int)<=(0:Int)/\(0:Int)<=F/\F<=(len al:Int)) /\
 (Int.toNat 0+Int.toNat (F-0)<=len al/\Int.toNat F+Int.toNat ((len al:Int)-F)<=len al) /\
 rec xR (DS (W (F+(((min (Int.toNat ((len al:Int)-F)) (len (a2 al (Int.toNat 0) (Int.toNat 0+Int.toNat (F-0))))):Nat):Int))) (put al (Int.toNat F) (a2 (a2 al (Int.toNat 0) (Int.toNat 0+Int.toNat (F-0))) 0 (min (Int.toNat ((len al:Int)-F)) (len (a2 al (Int.toNat 0) (Int.toNat 0+Int.toNat (F-0))))))) M))
 (K (.one (af al)) [])):=by kernel_rfl

theorem Xm{n:Int}(I:0<=n)(G:n<18446744073709551616):sg n=n:=by
 unfold sg;rw[IntKind.wrap_u64];omega
theorem RA{n:Int}(I:0<=n)(G:n<18446744073709551616):uT n=true:=by simp[uT,I,G]
theorem TQ(x:Int)(n k j:Nat):put (List.replicate k x++List.replicate (n-k) 0) k (List.replicate j x)=List.replicate (k+j) x++List.replicate (n-(k+j)) 0:=by
 unfold put;rw[List.take_left' (by simp),List.length_replicate];rw[show List.drop (k+j) (List.replicate k x++List.replicate (n-k) (0:Int))=List.replicate (n-(k+j)) 0 from by
  rw[List.drop_append,List.drop_of_length_le (by simp)];simp;omega]
 rw[List.replicate_append_replicate]
theorem SQ(x:Int)(n:Nat)(aq:n<=1000000)(K:aW)(D:K (.one (af (c6 n x))) []):∀(d k:Nat),n<=k+d->k<=n->(0<n->0<k) ->
  cl Bo tab Tryz.f73 0 K (d+1) xR (DS (k:Int) (List.replicate k x++List.replicate (n-k) 0) [])
 |0,k,bO,ad,ag=>by
  rw[bW (L:=xR),UL ];have e:k=n:=by omega
  subst e;refine co (by simp[len]) ?_;simpa[c6]using D
 |d+1,k,bO,ad,ag=>by
  rw[bW (L:=xR),UL ];have ax:len (List.replicate k x++List.replicate (n-k) (0:Int))=n:=by simp[len];omega
  rw[ax]
  by_cases c:k<n
  ·refine cS (by omega) ⟨⟨by omega,by omega,by omega⟩,⟨by omega,by omega,by omega⟩,⟨by omega,by omega⟩,?_⟩;have aO:a2 (List.replicate k x++List.replicate (n-k) (0:Int)) (Int.toNat 0) (Int.toNat 0+Int.toNat ((k:Int)-0))=List.replicate k x:=by
    rw[show Int.toNat 0+Int.toNat ((k:Int)-0)=k by omega];unfold a2;rw[List.take_left' (by simp)];simp
   rw[aO];have aX:len (List.replicate k x)=k:=by simp[len]
   rw[aX];generalize aR:min (Int.toNat ((n:Int)-(k:Int))) k=j;have CZ:j=min (n-k) k:=by omega
   have cY:a2 (List.replicate k x) 0 j=List.replicate j x:=by
    unfold a2;rw[List.take_replicate];simp;omega
   rw[cY,cM,TQ x n k j,cc (by omega) (by omega),show(k:Int)+(j:Int)=((k+j:Nat):Int)by omega];exact SQ x n aq K D d (k+j) (by have:=ag (by omega);omega) (by omega) (fun h=>by have:=ag h;omega)
  ·have e:k=n:=by omega
   subst e;refine co (by omega) ?_;simpa[c6]using D
theorem agl(ag:0<=n/\n<=1000000)(K:aW)(D:K (.one (af (c6 n.toNat x))) []):∃m,cl Bo tab Tryz.f73 0 K m [.code (bF Tryz.f73)] (df [.one (af [x]),.one (A n)] []):=by
 obtain⟨I,G⟩:=ag;refine⟨n.toNat+2,?_⟩;rw[eO,afi _ _ _ _ _ rfl _ rfl _ rfl _ rfl];have aO:sg (((len (x::[])):Nat):Int)=1:=by simp only[len,List.length_cons,List.length_nil];exact Xm (by omega) (by omega)
 rw[aO,Xm (n:=n) I (by omega),Int.one_mul];have aX:n/nv=0:=by unfold nv;omega
 have cY:n%nv=n:=by unfold nv;omega
 rw[aX,cY,cc (by omega) (by omega)];refine co I ⟨⟨RA (by omega) (by omega),RA I (by omega)⟩,co (by omega) (co (by omega) ⟨⟨I,by omega,by omega⟩,?_⟩)⟩;obtain⟨k,rfl⟩:=Int.eq_ofNat_of_zero_le I;rw[cM]at D |-;have lQ:len (c6 k (z.H z.int))=k:=by simp[len,c6]
 rw[lQ];have:=SQ x k (by omega) K D k (min k 1) (by omega) (by omega) (by omega);have nJ:put (c6 k (z.H z.int)) 0 (a2 (x::[]) 0 (min k (len (x::[]))))=List.replicate (min k 1) x++List.replicate (k-min k 1) 0:=by
  have h:=TQ x k 0 (min k 1);rw[Nat.zero_add]at h;rw[<- h];have:a2 (x::[]) 0 (min k (len (x::[])))=List.replicate (min k 1) x:=by
   simp only[len,List.length_cons,List.length_nil,a2];cases k with
   |zero=>simp
   |succ k=>rw[show min (k+1) (0+1)=1 by omega];rfl
  rw[this];rfl
 rw[nJ,show min k (len (x::[]))=min k 1 from rfl];exact this
theorem WA:bw 73 Gy:=hN ady Tryz.func73 (by kernel_rfl) (by
 intro vs ar p v dB h ag;unfold Gy at h;split at h
 ·cases h;exact⟨by kernel_rfl,rfl,.inl (agl _ _ ag.1 _ ⟨rfl,rfl⟩)⟩
 ·cases h)

def GA:bd
 |[.one (.E .int v),.one (.E .int k)],[]=>some (some (0<=v/\v<=10/\0<=k/\k<=10),.one (af (l3 v k)),[])
 |_,_=>none
def Np:Ctx:=[(73,Gy)]
theorem adA:fz Tryz.prog tab Np:=(bv.f WA)
theorem afg(v k:Int)(rec:bZ)(K:aW):b7 Np tab Tryz.f72 0 K rec [.code (bF Tryz.f72)] (df [.one (A v),.one (A k)] [])=(
 ((0:Int)<=W (W ((3:Int)+W ((9:Int)*k))+v)/\W (W ((3:Int)+W ((9:Int)*k))+v)<=1000000) /\
 K (.one (af (c6 (Int.toNat (W (W ((3:Int)+W ((9:Int)*k))+v))) (W (W ((100:Int)*v)+k))))) []):=by kernel_rfl

theorem agn(ag:0<=v/\v<=10/\0<=k/\k<=10)(K:aW)(D:K (.one (af (l3 v k))) []):∃m,cl Np tab Tryz.f72 0 K m [.code (bF Tryz.f72)] (df [.one (A v),.one (A k)] []):=by
 refine⟨1,?_⟩;rw[eO,afg _ _ _ _];have aO:W (W (3+W (9*k))+v)=3+9*k+v:=by
  rw[cc (n:=9*k) (by omega) (by omega),cc (n:=3+9*k) (by omega) (by omega),cc (by omega) (by omega)]
 have aX:W (W (100*v)+k)=100*v+k:=by
  rw[cc (n:=100*v) (by omega) (by omega),cc (by omega) (by omega)]
 rw[aO,aX];exact⟨⟨by omega,by omega⟩,D⟩
theorem aib:bw 72 GA:=hN adA Tryz.func72 (by kernel_rfl) (by
 intro vs ar p v dB h ag;unfold GA at h;split at h
 ·cases h;exact⟨by kernel_rfl,rfl,.inl (agn _ _ ag.1 _ ⟨rfl,rfl⟩)⟩
 ·cases h)

def GF:bd
 |[.one (.E .int n)],[]=>some (none,.an [.agg [af (tk n).1.words,A (tk n).1.fuel],.one (A (tk n).2)],[])
 |_,_=>none

theorem WC:bw 166 GF:=b2 0 (bv.f WA) Tryz.func166 (by kernel_rfl) fun vs ar=>by
 unfold GF;split;rotate_left;trivial;rename_i n;refine⟨by kernel_rfl,fun K D=>?_⟩;refine⟨1,?_⟩;obtain⟨v0,b0⟩:∃v0,v0=K (.an [.agg [af [],A (0:Int)],.one (A 3)]) []:=⟨_,rfl⟩
 refine ck (fun rec=>(by subst b0;kernel_rfl:_=(
  J (aN n 1)
  v0
  (J (aN 6 n)
  v0
  (((0:Int)<=W (n*32)/\W (n*32)<=1000000) /\
  K (.an [.agg [af (c6 (Int.toNat (W (n*32))) (65535:Int)),A (-1)],.one (A 0)]) []))))) ?_
 subst b0;unfold tk at D;refine bq (fun h=>?_) (fun h=>bq (fun G=>?_) (fun G=>?_))
 ·rw[if_neg (by omega)]at D;exact D
 ·rw[if_neg (by omega)]at D;exact D
 ·rw[if_pos ⟨h,G⟩]at D;rw[cc (by omega) (by omega)];exact⟨⟨by omega,by omega⟩,D⟩

def G6:bd
 |[.agg [.E (.list .int) ws,.E .int fu]],[]=>some (none,.an [.agg [af (sK ⟨ws,fu⟩).1.words,A (sK ⟨ws,fu⟩).1.fuel],.one (A (sK ⟨ws,fu⟩).2)],[])
 |_,_=>none

theorem WO:bw 167 G6:=b2 0 ((((bv.f (kx.or LX Mr)).f Mn).f AZ).f AY) Tryz.func167 (by kernel_rfl) fun vs ar=>by
 unfold G6;split;rotate_left;trivial;rename_i ws fu;refine⟨by kernel_rfl,fun K D=>?_⟩;refine⟨1,?_⟩;obtain⟨aC,cR⟩:∃aC,aC=b9 (⟨ws,fu⟩:cm) (eH 1):=⟨_,rfl⟩
 obtain⟨v4,e1⟩:∃v4,v4=b9 (aC.fst:cm) (eH 0):=⟨_,rfl⟩
 obtain⟨dK,km⟩:∃dK,dK=b9 (v4.fst:cm) (cX 0 ((1:Int)::[])):=⟨_,rfl⟩
 refine ck (fun rec=>(by subst km e1 cR;kernel_rfl:_=(
  J (!(au (e3 (⟨ws,fu⟩:cm)) 0))
  (K (.an [.agg [af [],A (0:Int)],.one (A (e3 (⟨ws,fu⟩:cm)))]) [])
  (J (aN (len ws:Int) 64)
  (K (.an [.agg [af [],A (0:Int)],.one (A 4)]) [])
  (len ws*8<=140737488355328 /\
  ((-1)<=fu/\fu<=100000/\(0:Int)<=(1:Int)/\((1:Int)+(1:Int))*32<=(len ws:Int)/\len ws<=192) /\
  J (!aC.snd)
  (K (.an [.agg [af aC.fst.words,A aC.fst.fuel],.one (A 7)]) [])
  (((-1)<=aC.fst.fuel/\aC.fst.fuel<=100000/\(0:Int)<=(0:Int)/\((0:Int)+(1:Int))*32<=(len aC.fst.words:Int)/\len aC.fst.words<=192) /\
  J (!v4.snd)
  (K (.an [.agg [af v4.fst.words,A v4.fst.fuel],.one (A 7)]) [])
  (((-1)<=v4.fst.fuel/\v4.fst.fuel<=100000/\(0:Int)<=(0:Int)/\(0:Int)+(len ((1:Int)::[]):Int)<=(len v4.fst.words:Int)/\len v4.fst.words<=192) /\
  J (!dK.snd)
  (K (.an [.agg [af dK.fst.words,A dK.fst.fuel],.one (A 7)]) [])
  (K (.an [.agg [af dK.fst.words,A dK.fst.fuel],.one (A 0)]) [])))))))) ?_
 subst km e1 cR;unfold sK at D;refine bN (fun h=>?_) (fun h=>?_)
 ·rw[if_neg h]at D;exact D
 rw[if_pos h]at D;obtain⟨bA,bb,cr,du⟩:=jh h;obtain⟨hs,gu⟩:=q1 bA;simp only at bb cr hs gu;refine bq (fun G=>?_) (fun G=>?_)
 ·rw[if_neg (by simp only[len]at G |-; omega)]at D;exact D
 rw[if_pos (by simp only[len]at G |-; omega)]at D;unfold wD at D;rw[wq,wq]at D;obtain⟨f1,f2⟩:=ru ⟨ws,fu⟩ (eH 1) bb cr;have dV:=sz ⟨ws,fu⟩ (eH 1);obtain⟨a1,bf⟩:=ru (b9 ⟨ws,fu⟩ (eH 1)).1 (eH 0) f1 f2;have gT:=sz (b9 ⟨ws,fu⟩ (eH 1)).1 (eH 0);simp only[len]at G dV gT |-;refine⟨by omega,⟨bb,cr,by omega,by omega,by omega⟩,eF (fun ab=>?_) (fun ab=>⟨⟨f1,f2,by omega,by omega,by omega⟩,eF (fun aV=>?_) (fun aV=>⟨⟨a1,bf,by omega,?_,?_⟩,eF (fun br=>?_) (fun br=>?_)⟩)⟩)⟩
 ·rw[if_neg (show ¬(b9 ⟨ws,fu⟩ (eH 1)).2=true by simp[ab]),if_neg (by simp[ab])]at D;simp only[gl,j7,ab]at D;exact D
 ·rw[if_pos ab,if_neg (show ¬(b9 (b9 ⟨ws,fu⟩ (eH 1)).1 (eH 0)).2=true from by rw[show(b9 (b9 ⟨ws,fu⟩ (eH 1)).1 (eH 0)).2=false from aV];simp)]at D;simp only[gl]at D;rw[show(b9 (b9 ⟨ws,fu⟩ (eH 1)).1 (eH 0)).2=false from aV]at D;exact D
 ·show(0:Int)+_<=((b9 (b9 ⟨ws,fu⟩ (eH 1)).1 (eH 0)).1.words.length:Int);simp only[List.length_cons,List.length_nil];omega
 ·show(b9 (b9 ⟨ws,fu⟩ (eH 1)).1 (eH 0)).1.words.length<=_;omega
 ·rw[if_pos ab,if_pos (show(b9 (b9 ⟨ws,fu⟩ (eH 1)).1 (eH 0)).2=true from aV)]at D;simp only[gl]at D;rw[show(b9 (b9 (b9 ⟨ws,fu⟩ (eH 1)).1 (eH 0)).1 (cX 0 [1])).2=false from br]at D;exact D
 ·rw[if_pos ab,if_pos (show(b9 (b9 ⟨ws,fu⟩ (eH 1)).1 (eH 0)).2=true from aV)]at D;simp only[gl]at D;rw[show(b9 (b9 (b9 ⟨ws,fu⟩ (eH 1)).1 (eH 0)).1 (cX 0 [1])).2=true from br]at D;exact D

def FY:bd
 |[.agg [.E .int nq,.E (.list .int) la,.E .int rt],.one (.E .int aL)],[]=>some (some (len la*8<=140737488355328),.an [.agg (jB (oW ⟨nq,la,rt⟩ aL).1),.one (A (oW ⟨nq,la,rt⟩ aL).2)],[])
 |_,_=>none

theorem aho:bw 131 FY:=b2 0 ((((bv.f yq).f yp).f WO).f WC) Tryz.func131 (by kernel_rfl) fun vs ar=>by
 unfold FY;split;rotate_left;trivial;rename_i nq la rt aL;dsimp only[z.den]at nq la rt aL;refine⟨by kernel_rfl,fun ag K D=>?_⟩;refine⟨1,?_⟩;obtain⟨v0,b0⟩:∃v0,v0=eI (c6 (Int.toNat ((2:Int)*(32:Int))) (65535:Int)) wD:=⟨_,rfl⟩
 obtain⟨v1,cd⟩:∃v1,v1=dM ⟨⟨v0,(-1)⟩,true,⟨⟨nq,la,rt⟩,0⟩,c6 (Int.toNat aL) (z.H z.bool),c6 (Int.toNat aL) (z.H z.bool)⟩:=⟨_,rfl⟩
 obtain⟨aC,cR⟩:∃aC,aC=K (.an [.agg [af [],A (0:Int),ay false,A (0:Int),af [],A (0:Int),A (0:Int),bj [],bj []],.one (A 3)]) []:=⟨_,rfl⟩
 refine ck (fun rec=>(by subst cR cd b0;kernel_rfl:_=(
  J (aN aL 1)
  aC
  (J (aN 4 aL)
  aC
  (len la*8<=140737488355328 /\
  ((0:Int)<=aL/\aL*((1:Nat):Int)<=140737488355328/\aL<=140737488355328) /\
  ((0:Int)<=aL/\aL*((1:Nat):Int)<=140737488355328/\aL<=140737488355328) /\
  J (!(au v1 0))
  (K (.an [.agg [af [],A (0:Int),ay false,A (0:Int),af [],A (0:Int),A (0:Int),bj [],bj []],.one (A v1)]) [])
  (K (.an [.agg [af v0,A (-1),ay true,A nq,af la,A rt,A (0:Int),bj (c6 (Int.toNat aL) (z.H z.bool)),bj (c6 (Int.toNat aL) (z.H z.bool))],.one (A 0)]) [])))))) ?_
 subst cR cd b0;have dY:(sK (tk 2).1).1=⟨eI (c6 (Int.toNat ((2:Int)*(32:Int))) (65535:Int)) wD,-1⟩:=by kernel_rfl
 unfold oW Dt at D;rw[dY]at D
 by_cases c:aL<1\/4<aL
 ·rw[if_pos c]at D;exact bq (fun _=>D) (fun _=>cS (by omega) D)
 rw[if_neg c]at D;refine co (by omega) (co (by omega) ⟨ag,⟨by omega,by omega,by omega⟩,⟨by omega,by omega,by omega⟩,bN (fun h=>?_) (fun h=>?_)⟩)
 ·rw[if_neg (by exact h)]at D;exact D
 ·rw[if_pos (by exact h)]at D;exact D

def FI:bd
 |[.one (.E (.list .int) l),.one (.E .int name)],[]=>some (none,.an [.agg (fP (qY l name).1),.one (A (qY l name).2)],[])
 |_,_=>none
def M6:Ctx:=[(105,Ch),(166,GF),(167,G6),(169,B9),(170,Ca),(158,Cb)]
theorem aeN(l:aJ)(name:Int)(rec:bZ)(K:aW) v0 (b0:v0=fY l) v1 (cd:v1=eI (c6 (Int.toNat ((6:Int)*(32:Int))) (65535:Int)) wD) aC (cR:aC=fb ⟨v1,(-1)⟩ 0 0 l) v3 (ef:v3=gB aC.fst 0 (len l:Int) name) v4 (e1:v4=iJ []) cf (g5:cf=fO v3.fst ((1:Int)::(0:Int)::(0:Int)::[]) []):b7 M6 tab Tryz.f133 0 K rec [.code (bF Tryz.f133)] (df [.one (af l),.one (A name)] [])=(
 J (!(au v0 0))
 (K (.an [.agg [af [],A (0:Int),ay false,A (0:Int),A (0:Int)],.one (A v0)]) [])
 (List.length l<=140737488355328 /\
 J (!(au v3.snd 0))
 (K (.an [.agg [af [],A (0:Int),ay false,A (0:Int),A (0:Int)],.one (A v3.snd)]) [])
 ((List.length ((1:Int)::(0:Int)::(0:Int)::[])<=140737488355328/\0*24<=140737488351232/\v4=true) /\
 K (.an [.agg [af cf.fst.words,A cf.fst.fuel,ay true,A (0:Int),A (0:Int)],.one (A 0)]) []))):=by subst_vars;kernel_rfl

theorem aha:bw 133 FI:=b2 (Γ:=M6) 0 ((((((bv.f Ml).f WL).f WK).f WO).f WC).f Mu) Tryz.func133 (by kernel_rfl) fun vs ar=>by
 unfold FI;split;rotate_left;trivial;rename_i l name;refine⟨by kernel_rfl,fun K D=>?_⟩;obtain⟨iO,c8⟩:∃iO,iO=eI (c6 (Int.toNat ((6:Int)*(32:Int))) (65535:Int)) wD:=⟨_,rfl⟩
 refine⟨1,Eq.mpr (aeN l name (cl M6 tab Tryz.f133 0 K 0) K _ rfl iO c8 _ rfl _ rfl _ rfl _ rfl) ?_⟩;have e:(sK (tk 6).1).1=⟨iO,-1⟩:=by rw[c8];kernel_rfl
 clear c8;unfold qY CG at D;rw[e]at D;refine bN (fun h=>?_) (fun h=>⟨?_,bN (fun G=>?_) (fun G=>⟨⟨by simp,by omega,rfl⟩,?_⟩)⟩)
 ·rw[if_neg h]at D;exact D
 ·have:=wi h;omega
 ·rw[if_pos h,if_neg (show ¬(gB (fb ⟨iO,-1⟩ 0 0 l).1 0 (l.length:Int) name).2=0 from G)]at D;exact D
 ·rw[if_pos h,if_pos (show(gB (fb ⟨iO,-1⟩ 0 0 l).1 0 (l.length:Int) name).2=0 from G)]at D;exact D

def GB:bd
 |[.one (.E .int e)],[]=>some (none,.an [.agg (mv iI),.one (A e)],[])
 |_,_=>none

theorem aic:bw 130 GB:=b2 0 bv Tryz.func130 (by kernel_rfl) fun vs ar=>by
 unfold GB;split;rotate_left;trivial;rename_i e;refine⟨by kernel_rfl,fun K D=>?_⟩;refine⟨1,?_⟩;refine ck (fun rec=>(by kernel_rfl:_=(
  K (.an [.agg fU,.one (A e)]) []))) ?_
 exact D

def GC:bd
 |[.agg [.E (.list .str) b],.one (.E (.list .signed) s),.agg [.E .int nq,.E (.list .int) la,.E .int rt],.one (.E (.list (.list .int)) bG)],[]=>some (some (len la*8<=140737488355328),.an [.agg (mv (u6 b s ⟨nq,la,rt⟩ bG).1),.one (A (u6 b s ⟨nq,la,rt⟩ bG).2)],[])
 |_,_=>none
def Nq:Ctx:=[(45,Ce),(46,y4),(131,FY),(51,B3),(52,B4),(132,za),(133,FI),(130,GB)]
def xP:List cw:=[.inLoop [63,62,61,15,10,9,8,4] (Code.sub (bF Tryz.f76) [1,1,1,1,1,1,1,0,1,0,0]),.inBlock 0,.code (Code.sub (bF Tryz.f76) [1,1,1,1,1,1,1,1])]
def KY(F al:Int)(M:cu)(ae:Int)(ao:cB)(aE:cD)(aH:aJ)(aS:Int)(aZ:Bool)(bc:Int)(bn:aJ)(bo bm:Int)(bC bJ:c9)(bI bM:Int)(bz:Bool)(bS bY cq cv:Int)(cN:cB)(c0:c3)(c5:db)(dq:cG)(dt:cB)(dH:cD)(dI dr:aJ)(dD dx:c9)(ea:c3)(dW:db)(eb:cG):bP:=⟨[(63,.one (A F)),(62,.one (A al)),(61,.one (cH M)),(15,.one (.ptr 0 0)),(10,.one (.fn 130 [])),(9,.one (A ae)),(8,.one (.ptr 1 0)),(4,.one (.ptr 2 0))],[(0,.box [.E (z.list z.str) ao,.E (z.list z.signed) aE,af aH,A aS,ay aZ,A bc,af bn,A bo,A bm,bj bC,bj bJ,.own 3,.own 4,.own 5,A bI]),(1,.box [.own 6,.own 7,.own 8,A bM,ay bz,A bS,.own 9,A bY,A cq,.own 10,.own 11,.own 12,.own 13,.own 14,A cv]),(2,.box [.E (z.list z.str) cN]),(3,.arr z.aT c0),(4,.arr z.aU c5),(5,.arr z.message dq),(6,.arr z.str dt),(7,.arr z.signed dH),(8,.arr z.int dI),(9,.arr z.int dr),(10,.arr z.bool dD),(11,.arr z.bool dx),(12,.arr z.aT ea),(13,.arr z.aU dW),(14,.arr z.message eb)],15⟩
theorem UG{F:Int}{c0:c3}{rec:bZ}{K:aW}{al M ae ao aE aH aS aZ bc bn bo bm bC bJ bI bM bz bS bY cq cv cN c5 dq dt dH dI dr dD dx ea dW eb}{aC v0 v1 v3}(cR:aC=fun a b=>KY a al M ae ao aE aH aS aZ bc bn bo bm bC bJ bI bM bz bS bY cq cv cN b c5 dq dt dH dI dr dD dx ea dW eb)(b0:v0=hk cN (nth M (Int.toNat F) (z.H (z.list z.int))))(cd:v1=qY (nth M (Int.toNat F) (z.H (z.list z.int))) v0.fst)(ef:v3=J (!(au v0.snd 0))
 (K (.an [.agg fU,.one (A v0.snd)]) [])
 (J (!(au v1.snd 0))
 (K (.an [.agg fU,.one (A v1.snd)]) [])
 ((len c0+len ((v1.fst:po)::[]))*56<=140737488355328 /\
 rec xP (aC (W (F+1)) (cat c0 ((v1.fst:po)::[])))))):b7 Nq tab Tryz.f76 0 K rec (cQ xP) (aC F c0)=(
 J (aN F al)
 (((0:Int)<=F/\F<(len M:Int)) /\
 List.length cN<=140737488355328 /\
 J (au v0.snd 0)
 (J (au v0.fst 0)
 (K (.an [.agg fU,.one (A 5)]) [])
 v3)
 v3)
 (K (.an [.agg [.E (z.list z.str) ao,.E (z.list z.signed) aE,af aH,A aS,ay aZ,A bc,af bn,A bo,A bm,bj bC,bj bJ,.E (z.list z.aT) c0,.E (z.list z.aU) c5,bB dq,A bI],.one (A 0)]) [])):=by subst_vars;kernel_rfl

theorem SU(b:cB)(s:cD)(cP:Gate)(bG:cu)(aA:b.length<=140737488355328)(hi:bG.length<=4)(K:aW):∀(d k:Nat) (acc:c3),k+d=bG.length->acc.length<=k ->
  K (.an [.agg (mv (nj b s cP acc (bG.drop k)).1),.one (A (nj b s cP acc (bG.drop k)).2)]) [] ->
  cl Nq tab Tryz.f76 0 K (d+1) xP (KY (k:Int) (((len bG):Nat):Int) bG 0 b s cP.f.words cP.f.fuel cP.up cP.t.r.version cP.t.r.keys cP.t.r.ej cP.t.version cP.cF cP.did 0 0 false 0 0 0 0 b acc [] [] [] [] [] [] [] [] [] [] [])
 |0,k,acc,ad,bh,D=>by
  rw[bW (L:=xP),UG rfl rfl rfl rfl];rw[List.drop_of_length_le (by omega),show nj b s cP acc []=(⟨b,s,cP,acc,[],[],0⟩,0)from by simp[nj,l5]]at D;exact co (by simp only[len];omega) D
 |d+1,k,acc,ad,bh,D=>by
  rw[bW (L:=xP),UG rfl rfl rfl rfl,cM];rw[ep (l:=bG) (by omega) (z.H (.list .int))]at D;obtain⟨w,cb⟩:∃w,nth bG k (z.H (.list .int))=w:=⟨_,rfl⟩
  rw[cb]at D |-;obtain⟨r,aw⟩:∃r,bG.drop (k+1)=r:=⟨_,rfl⟩
  refine cS (by simp only[len];omega) ⟨⟨by omega,by simp only[len];omega⟩,aA,?_⟩
  by_cases I:(hk b w).2=0
  ·refine ji I (cz (fun G=>?_) (fun G=>bN (fun h=>absurd I h) (fun _=>bN (fun ab=>?_) (fun ab=>⟨by simp only[len,List.length_cons,List.length_nil];omega,?_⟩))))
   ·rw[show nj b s cP acc (w::bG.drop (k+1))=(iI,5)from by simp[nj,l5,I,G]]at D;exact D
   ·rw[show nj b s cP acc (w::bG.drop (k+1))=(iI,(qY w (hk b w).1).2)from by simp[nj,l5,I,G,ab]]at D;exact D
   ·rw[show nj b s cP acc (w::bG.drop (k+1))=nj b s cP (acc++[(qY w (hk b w).1).1]) (bG.drop (k+1))from by
     rw[aw]
     by_cases aV:(l5 b r).2=0
     ·simp[nj,l5,I,G,ab,aV]
     ·simp[nj,l5,I,G,ab,aV]]at D
    rw[di (by omega)];exact SU b s cP bG aA hi K d (k+1) (acc++[(qY w (hk b w).1).1]) (by omega) (by simp;omega) D
  ·refine iC I (bN (fun h=>?_) (fun h=>absurd h I));rw[show nj b s cP acc (w::bG.drop (k+1))=(iI,(hk b w).2)from by simp[nj,l5,I]]at D;exact D
theorem aid:bw 76 GC:=b2 (Γ:=Nq) 0 ((((((((bv.f aic).f aha).f Mv).f Ww).f Wv).f aho).f L2).f Ep) Tryz.func76 (by kernel_rfl) fun vs ar=>by
 unfold GC;split;rotate_left;trivial;rename_i b s nq la rt bG;refine⟨by kernel_rfl,fun ag K D=>?_⟩;refine⟨bG.length+2,?_⟩;obtain⟨aC,cR⟩:∃aC,aC=oW ⟨nq,la,rt⟩ (len bG:Int):=⟨_,rfl⟩
 refine ck (fun rec=>(by subst cR;kernel_rfl:_=(
  J (!(au (fH b) 0))
  (K (.an [.agg fU,.one (A (fH b))]) [])
  (J (!(au (iq s) 0))
  (K (.an [.agg fU,.one (A (iq s))]) [])
  (len la*8<=140737488355328 /\
  J (!(au aC.snd 0))
  (K (.an [.agg fU,.one (A aC.snd)]) [])
  (len b*16<=140737488355328 /\
  len s*16<=140737488355328 /\
  rec xP (KY 0 (len bG:Int) bG 0 b s aC.fst.f.words aC.fst.f.fuel aC.fst.up aC.fst.t.r.version aC.fst.t.r.keys aC.fst.t.r.ej aC.fst.t.version aC.fst.cF aC.fst.did 0 0 false 0 0 0 0 b [] [] [] [] [] [] [] [] [] [] [] []))))))) ?_
 subst cR;unfold u6 at D;refine bN (fun h=>?_) (fun h=>bN (fun G=>?_) (fun G=>⟨ag,bN (fun ab=>?_) (fun ab=>?_)⟩))
 ·rw[if_neg h]at D;exact D
 ·rw[if_pos h,if_neg G]at D;exact D
 ·rw[if_pos h,if_pos G,if_neg (show ¬(oW ⟨nq,la,rt⟩ bG.length).2=0 from ab)]at D;exact D
 ·have aA:=rn h;have av:=Co G;have hi:=acS ab;rw[if_pos h,if_pos G,if_pos (show(oW ⟨nq,la,rt⟩ bG.length).2=0 from ab)]at D;refine⟨by simp only[len];omega,by simp only[len];omega,?_⟩;refine SU b s (oW ⟨nq,la,rt⟩ bG.length).1 bG (by omega) (by simp only[len]at hi;omega) K bG.length 0 [] (by omega) (Nat.le_refl _) ?_;exact D

def GD:bd
 |[.one (.E .int aL),.one (.E .int ha)],[]=>some (some (1<=aL/\aL<=4/\HX aL.toNat ha=true),.an [.agg (mv (qx aL.toNat ha).1),.one (.E (.list .offer) (HW aL.toNat ha)),.one (ay true)],[])
 |_,_=>none
def mP:Ctx:=[(74,Hj),(75,Ci),(71,Gz),(72,GA),(76,GC)]
theorem adB:fz Tryz.prog tab mP:=(((((bv.f aid).f aib).f aia).f WU).f WV)
def ma:List cw:=[.inLoop [29,13,12,11,10,9,8,7,6,5,4,0,1] (cZ jD [1,1,1,1,1,1,1,1,0,1,0,0]),.inBlock 0,.code (cZ jD [1,1,1,1,1,1,1,1,1])]
def DQ(F:Int)(al:Bool)(M ae:Int)(ao:List ny)(aE:cu)(aH:cD)(aS aZ:Int)(bc:List ny)(bn:Int)(bo:Bool)(bm bC bJ bI:Int)(bM:cB)(bz:aJ)(bS:cB)(bY:cD)(cq cv:aJ)(cN c0:c9)(c5:c3)(dq:db)(dt:cG):bP:=⟨[(29,.one (A F)),(13,.one (.own 0)),(12,.one (.own 1)),(11,.one (.fn 72 [])),(10,.one (.fn 71 [2])),(9,.one (.own 3)),(8,.one (.ptr 2 0)),(7,.one (.ptr 4 0)),(6,.one (ay al)),(5,.one (.own 5)),(4,.one (.ptr 6 0)),(0,.one (A M)),(1,.one (A ae))],[(0,.arr z.offer ao),(1,.arr (z.list z.int) aE),(2,.box [.own 7]),(3,.arr z.signed aH),(4,.box [A aS,.own 8,A aZ]),(5,.arr z.offer bc),(6,.box [.own 9,.own 10,.own 11,A bn,ay bo,A bm,.own 12,A bC,A bJ,.own 13,.own 14,.own 15,.own 16,.own 17,A bI]),(7,.arr z.str bM),(8,.arr z.int bz),(9,.arr z.str bS),(10,.arr z.signed bY),(11,.arr z.int cq),(12,.arr z.int cv),(13,.arr z.bool cN),(14,.arr z.bool c0),(15,.arr z.aT c5),(16,.arr z.aU dq),(17,.arr z.message dt)],18⟩
def vk:List cw:=[.inLoop [39,38,15,37,36,35,34,33,32,14,31,30,29,13,12,11,10,9,8,7,6,5,4,0,1] (cZ jD [1,1,1,1,1,1,1,1,0,1,0,0,1,1,0,0,1,1,0,1,0,0]),.inBlock 2,.code (cZ jD [1,1,1,1,1,1,1,1,0,1,0,0,1,1,0,0,1,1,1]),.inBlock 1,.code (cZ jD [1,1,1,1,1,1,1,1,0,1,0,0,1,1,1]),.inLoop [29,13,12,11,10,9,8,7,6,5,4,0,1] (cZ jD [1,1,1,1,1,1,1,1,0,1,0,0]),.inBlock 0,.code (cZ jD [1,1,1,1,1,1,1,1,1])]
def KZ(F al M ae ao aE aH aS aZ bc bn:Int)(bo:Bool)(bm:Int)(bC:Bool)(bJ bI bM bz:Int)(bS:aJ)(bY:List ny)(cq:cu)(cv:cD)(cN c0:Int)(c5:List ny)(dq:Int)(dt:Bool)(dH dI dr dD:Int)(dx:hE)(ea:cu)(dW:LT)(eb:cu)(ek:cB)(fj:aJ)(fN:cB)(gp:cD)(hc gq:aJ)(gM ig:c9)(jR:c3)(jS:db)(jT:cG):bP:=⟨[(39,.one (A F)),(38,.one (A al)),(15,.one (.ptr 0 0)),(37,.agg [.nil z.root,.nil (z.list z.int),A M,A ae,.nil z.target,.own 1,.nil (z.list z.int)]),(36,.one (.own 1)),(35,.agg [A ao,A aE,.nil z.target]),(34,.one (A aH)),(33,.one (A aS)),(32,.one (A aZ)),(14,.one (A bc)),(31,.one (A bn)),(30,.one (ay bo)),(29,.one (A bm)),(13,.one (.own 2)),(12,.one (.own 3)),(11,.one (.fn 72 [])),(10,.one (.fn 71 [4])),(9,.one (.own 5)),(8,.one (.ptr 4 0)),(7,.one (.ptr 6 0)),(6,.one (ay bC)),(5,.one (.own 7)),(4,.one (.ptr 8 0)),(0,.one (A bJ)),(1,.one (A bI))],[(0,.box [.own 9,.own 10,A bM,A bz,.own 11,.own 1,.own 12]),(1,.arr z.int bS),(2,.arr z.offer bY),(3,.arr (z.list z.int) cq),(4,.box [.own 13]),(5,.arr z.signed cv),(6,.box [A cN,.own 14,A c0]),(7,.arr z.offer c5),(8,.box [.own 15,.own 16,.own 17,A dq,ay dt,A dH,.own 18,A dI,A dr,.own 19,.own 20,.own 21,.own 22,.own 23,A dD]),(9,.arr z.root dx),(10,.arr (z.list z.int) ea),(11,.arr z.target dW),(12,.arr (z.list z.int) eb),(13,.arr z.str ek),(14,.arr z.int fj),(15,.arr z.str fN),(16,.arr z.signed gp),(17,.arr z.int hc),(18,.arr z.int gq),(19,.arr z.bool gM),(20,.arr z.bool ig),(21,.arr z.aT jR),(22,.arr z.aU jS),(23,.arr z.message jT)],24⟩
theorem afh(aL ha:Int)(rec:bZ)(K:aW):b7 mP tab jD 0 K rec [.code (bF jD)] (df [.one (A aL),.one (A ha)] [])=(
 rec ma (DQ 0 false aL ha [] [] [] 1 2 [] 0 false 0 0 0 0 [] ((3:Int)::(4:Int)::(5:Int)::[]) [] [] [] [] [] [] [] [] [])):=by kernel_rfl
theorem UH{F M ae aS aZ bn bm bC bJ bI:Int}{al bo:Bool}{ao bc:List ny}{aE:cu}{aH bY:cD}{bM bS:cB}{bz cq cv:aJ}{cN c0:c9}{c5:c3}{dq:db}{dt:cG}{rec:bZ}{K:aW}{v0}(b0:v0=u6 bM aH ⟨aS,bz,aZ⟩ aE):b7 mP tab jD 0 K rec (cQ ma) (DQ F al M ae ao aE aH aS aZ bc bn bo bm bC bJ bI bM bz bS bY cq cv cN c0 c5 dq dt)=(
 J (aN F 4)
 (rec vk (KZ 0 M (max F 1) ae (max F 1) ae ae (max F 1) F F F (aN F 4) F al M ae (max F 1) ae ((3:Int)::(5:Int)::[]) ao aE aH aS aZ bc bn bo bm bC bJ bI [] [] [] [] bM bz bS bY cq cv cN c0 c5 dq dt))
 (len bz*8<=140737488355328 /\
 J (au v0.snd 0)
 (K (.an [.agg (mv v0.fst),.one (.E (z.list z.offer) ao),.one (ay (au (len v0.fst.aL:Int) M))]) [])
 (K (.an [.agg (mv v0.fst),.one (.E (z.list z.offer) ao),.one (ay false)]) []))):=by subst_vars;kernel_rfl
theorem UI{F:Int}{cq eb:cu}{dW:LT}{ek:cB}{rec:bZ}{K:aW}{al M ae ao aE aH aS aZ bc bn bo bm bC bJ bI bM bz bS bY cv cN c0 c5 dq dt dH dI dr dD dx ea fj fN gp hc gq gM ig jR jS jT}{cf dK v0 v1 aC v3 v4 dF}(g5:cf=fun a b c d e=>KZ a al M ae ao aE aH aS aZ bc bn bo bm bC bJ bI bM bz bS bY b cv cN c0 c5 dq dt dH dI dr dD dx ea c d e fj fN gp hc gq gM ig jR jS jT)(km:dK=fun a b c=>DQ (W (bm+1)) bC bJ bI a cq b cN c0 c5 dq dt dH dI dr dD c fj fN gp hc gq gM ig jR jS jT)(b0:v0=l3 bc F)(cd:v1=kJ v0)(cR:aC=n3 ek v1.fst)(ef:v3=mI bM bz dW)(e1:v4=n3 ek v3.fst)(iG:dF=K (.an [.agg fU,.one (.E (z.list z.offer) []),.one (ay false)]) []):b7 mP tab jD 0 K rec (cQ vk) (cf F cq dW eb ek)=(
 J (aN F al)
 (((0:Int)<=bc/\bc<=10/\(0:Int)<=F/\F<=10) /\
 J (!(au v1.snd 0))
 dF
 (List.length ek<=1000 /\
 J (au bc 0)
 ((len cq+len (v0::[]))*24<=140737488355328 /\
 (len dW+len ((⟨F,aC.snd,(len v0:Int)⟩:tZ)::[]))*24<=140737488355328 /\
 (len eb+len (v0::[]))*24<=140737488355328 /\
 rec vk (cf (W (F+1)) (cat cq (v0::[])) (cat dW ((⟨F,aC.snd,(len v0:Int)⟩:tZ)::[])) (cat eb (v0::[])) aC.fst))
 ((len dW+len ((⟨F,aC.snd,(len v0:Int)⟩:tZ)::[]))*24<=140737488355328 /\
 (len eb+len (v0::[]))*24<=140737488355328 /\
 rec vk (cf (W (F+1)) cq (cat dW ((⟨F,aC.snd,(len v0:Int)⟩:tZ)::[])) (cat eb (v0::[])) aC.fst))))
 (J (au bc 0)
 (rec ma (dK bY cv ek))
 (J (!(au v3.snd 0))
 dF
 (List.length ek<=1000 /\
 J (!(au bc 3))
 ((len cv+len ((⟨3,v4.snd⟩:sp)::[]))*16<=140737488355328 /\
 (len (cat cv ((⟨3,v4.snd⟩:sp)::[]))+len ((⟨5,v4.snd⟩:sp)::[]))*16<=140737488355328 /\
 (len bY+len ((⟨dx,ea,⟨bM,bz,dW⟩,bS,eb⟩:ny)::[]))*136<=140737488355328 /\
 rec ma (dK (cat bY ((⟨dx,ea,⟨bM,bz,dW⟩,bS,eb⟩:ny)::[])) (cat (cat cv ((⟨3,v4.snd⟩:sp)::[])) ((⟨5,v4.snd⟩:sp)::[])) v4.fst))
 ((len cv+len ((⟨5,v4.snd⟩:sp)::[]))*16<=140737488355328 /\
 (len bY+len ((⟨dx,ea,⟨bM,bz,dW⟩,bS,eb⟩:ny)::[]))*136<=140737488355328 /\
 rec ma (dK (cat bY ((⟨dx,ea,⟨bM,bz,dW⟩,bS,eb⟩:ny)::[])) (cat cv ((⟨5,v4.snd⟩:sp)::[])) v4.fst)))))):=by subst_vars;kernel_rfl

abbrev rz(v aL ca:Int)(a:kU):bP:=DQ v false aL ca a.offers a.first a.l 1 2 [] 0 false 0 0 0 0 a.b [3,4,5] [] [] [] [] [] [] [] [] []
abbrev HY(k v aL ca:Int)(a:kU)(f:om):bP:=KZ k aL (max v 1) ca (max v 1) ca ca (max v 1) v v v (aN v 4) v false aL ca (max v 1) ca [3,5] a.offers f.first a.l 1 2 [] 0 false 0 0 0 0 [] [] f.ts f.uS f.b [3,4,5] [] [] [] [] [] [] [] [] []
theorem P2(K:aW)(aL:Nat)(ca v:Int)(a:kU)(m:Nat)(b0:0<=v)(ef:v<=3)(hu:aL<=4)(ax:a.l.length<=100)(aY:a.offers.length<=100)(hi:∀k:Int,0<=k->k<aL->(kJ (l3 v k)).2=0) :
  ∀(n k:Nat) (f:om),k+n=aL->f.b.length<=100+k->f.first.length<=100+k->f.ts.length<=k->f.uS.length<=k ->
  (v≠0->(mI (max v 1) ca (m1 v n k f).ts).2=0)->cl mP tab jD 0 K m ma (rz (v+1) aL ca (ry ca v a (m1 v n k f))) ->
  cl mP tab jD 0 K (n+1+m) vk (HY k v aL ca a f)
 |0,k,f,ad,aA,b1,bl,aB,aw,hU=>by
  rw[show 0+1+m=m+1 by omega,bW (L:=vk),UI rfl rfl rfl rfl rfl rfl rfl rfl];simp only[m1]at aw hU;refine co (by omega) (cz (fun h=>?_) (fun h=>?_))
  ·have e:ry ca v a f=⟨f.b,a.l,f.first,a.offers⟩:=if_pos h;rw[e]at hU;rw[cc (by omega) (by omega)];exact hU
  ·have e:ry ca v a f=_:=if_neg h;rw[e]at hU;refine bN (fun G=>absurd (aw h) G) (fun _=>⟨by omega,bN (fun ab=>⟨by simp only[len,List.length_cons,List.length_nil];omega,by simp only[len,cat,List.length_append,List.length_cons,List.length_nil];omega,by simp only[len,List.length_cons,List.length_nil];omega,?_⟩) (fun ab=>⟨by simp only[len,List.length_cons,List.length_nil];omega,by simp only[len,List.length_cons,List.length_nil];omega,?_⟩)⟩)
   ·rw[if_neg ab]at hU;rw[cc (by omega) (by omega)];exact hU
   ·rw[if_pos ab]at hU;rw[cc (by omega) (by omega)];exact hU
 |n+1,k,f,ad,aA,b1,bl,aB,aw,hU=>by
  rw[show n+1+1+m=(n+1+m)+1 by omega,bW (L:=vk),UI rfl rfl rfl rfl rfl rfl rfl rfl];have aaL:=hi k (by omega) (by omega);have oN:=JN f.b (kJ (l3 v k)).1;have hv:W ((k:Int)+1)=((k+1:Nat):Int):=by rw[cc (by omega) (by omega)];omega
  have f1:(kB v k f).b.length<=100+(k+1):=by
   have:(kB v k f).b.length<=f.b.length+1:=oN;omega
  have f2:(kB v k f).first.length<=100+(k+1):=by
   have:(kB v k f).first.length<=f.first.length+1:=by simp only[kB];split<;>simp
   omega
  have f3:(kB v k f).ts.length<=k+1:=by
   have:(kB v k f).ts.length=f.ts.length+1:=by simp[kB]
   omega
  have f4:(kB v k f).uS.length<=k+1:=by
   have:(kB v k f).uS.length=f.uS.length+1:=by simp[kB]
   omega
  have step:=P2 K aL ca v a m b0 ef hu ax aY hi n (k+1) (kB v k f) (by omega) f1 f2 f3 f4 aw hU;refine cS (by omega) ⟨⟨b0,by omega,by omega,by omega⟩,bN (fun h=>absurd aaL h) (fun _=>⟨by omega,cz (fun h=>⟨by simp only[len,List.length_cons,List.length_nil];omega,by simp only[len,List.length_cons,List.length_nil];omega,by simp only[len,List.length_cons,List.length_nil];omega,?_⟩) (fun h=>⟨by simp only[len,List.length_cons,List.length_nil];omega,by simp only[len,List.length_cons,List.length_nil];omega,?_⟩)⟩)⟩
  ·rw[hv];have e:(kB v k f).first=f.first++[l3 v k]:=if_pos h
   simp only[HY]at step;rw[e]at step;exact step
  ·rw[hv];have e:(kB v k f).first=f.first:=if_neg h
   simp only[HY]at step;rw[e]at step;exact step
theorem P0(v:Int):∀(n:Nat) (k:Int) (f:om),(m1 v n k f).b.length<=f.b.length+n/\(m1 v n k f).first.length<=f.first.length+n
 |0,_,f=>⟨Nat.le_refl _,Nat.le_refl _⟩
 |n+1,k,f=>by
  have h:=P0 v n (k+1) (kB v k f);have I:=JN f.b (kJ (l3 v k)).1;have G:(kB v k f).b.length<=f.b.length+1:=I;have ab:(kB v k f).first.length<=f.first.length+1:=by simp only[kB];split<;>simp
  simp only[m1];omega
theorem Zq(ca v:Int)(a:kU)(f:om):(ry ca v a f).b.length<=f.b.length+1/\(ry ca v a f).l.length<=a.l.length+2/\(ry ca v a f).first=f.first/\(ry ca v a f).offers.length<=a.offers.length+1:=by
 have I:=JN f.b (Er v ca f);unfold ry;split
 ·exact⟨Nat.le_succ _,by show a.l.length<=_;omega,rfl,Nat.le_succ _⟩
 ·refine⟨I,?_,rfl,by simp⟩;show((if v=3 then a.l else a.l++_)++_).length<=_;split<;>simp
theorem HZ(aL:Nat)(ca v:Int)(a:kU):(k2 aL ca v a).b.length<=a.b.length+aL+1/\(k2 aL ca v a).l.length<=a.l.length+2/\(k2 aL ca v a).first.length<=a.first.length+aL/\(k2 aL ca v a).offers.length<=a.offers.length+1:=by
 obtain⟨I,G,ab,aV⟩:=Zq ca v a (m1 v aL 0 (pA a));obtain⟨a1,bf⟩:=P0 v aL 0 (pA a);have aO:(pA a).b=a.b:=rfl;have aX:(pA a).first=a.first:=rfl
 rw[aO]at a1;rw[aX]at bf;unfold k2;rw[ab];omega
theorem CF(K:aW)(aL:Nat)(ca v:Int)(a:kU)(m:Nat)(b0:0<=v)(ef:v<=3)(hu:aL<=4)(aA:a.b.length<=100)(b1:a.first.length<=100)(ax:a.l.length<=100)(aY:a.offers.length<=100)(hi:∀k:Int,0<=k->k<aL->(kJ (l3 v k)).2=0)
  (aw:v≠0->(mI (max v 1) ca (m1 v aL 0 (pA a)).ts).2=0) (hU:cl mP tab jD 0 K m ma (rz (v+1) aL ca (k2 aL ca v a))) :
  cl mP tab jD 0 K (aL+1+m+1) ma (rz v aL ca a):=by
 rw[bW (L:=ma),UH rfl];exact cS (by omega) (P2 K aL ca v a m b0 ef hu ax aY hi aL 0 (pA a) (by omega) aA b1 (Nat.le_refl _) (Nat.le_refl _) aw hU)
theorem Zs(K:aW)(cV:Nat)(ca v:Int)(m:Nat)(aQ:v=4)(aB:m=1)(gw:(qx cV ca).2=0)(np:((qx cV ca).1.aL.length:Int)=cV)(D:K (.an [.agg (mv (qx cV ca).1),.one (.E (.list .offer) (HW cV ca)),.one (ay true)]) []) :
  cl mP tab jD 0 K m ma (rz v cV ca (nL cV ca)):=by
 subst aB;rw[bW (L:=ma),UH rfl];have Y7:u6 (nL cV ca).b (nL cV ca).l ⟨1,[3,4,5],2⟩ (nL cV ca).first=qx cV ca:=rfl
 refine co (by omega) ⟨by decide,?_⟩;rw[Y7];refine ji gw ?_;have:au (((len (qx cV ca).1.aL):Nat):Int) (cV:Int)=true:=decide_eq_true np;rw[this];exact D
theorem Zr(K:aW)(cV:Nat)(ca:Int)(h6:cV<=4)(mo oi oj pb Bu:kU)(v0 v1 aC v3 v4:Int)(yP tQ tR tS tT:Nat)(zy:mo.b.length=0/\mo.first.length=0/\mo.l.length=0/\mo.offers.length=0)
  (a6:v0=0) (I:v1=v0+1) (G:aC=v1+1) (ab:v3=aC+1) (aV:v4=v3+1) (m0:yP=cV+1+tQ+1) (e8:tQ=cV+1+tR+1) (gU:tR=cV+1+tS+1) (hm:tS=cV+1+tT+1)
  (aO:k2 cV ca v0 mo=oi) (aX:k2 cV ca v1 oi=oj) (cY:k2 cV ca aC oj=pb) (lQ:k2 cV ca v3 pb=Bu)
  (hi:∀v:Int,0<=v->v<4->∀k:Int,0<=k->k<cV->(kJ (l3 v k)).2=0)
  (cJ:(mI (max v1 1) ca (m1 v1 cV 0 (pA oi)).ts).2=0) (cE:(mI (max aC 1) ca (m1 aC cV 0 (pA oj)).ts).2=0) (ey:(mI (max v3 1) ca (m1 v3 cV 0 (pA pb)).ts).2=0)
  (hZ:cl mP tab jD 0 K tT ma (rz v4 cV ca Bu)) :
  cl mP tab jD 0 K yP ma (rz v0 cV ca mo):=by
 obtain⟨MV,MW,z3,z4⟩:=zy;obtain⟨ei,eU,a3,a4⟩:=HZ cV ca v0 mo;obtain⟨iQ,jY,nD,kc⟩:=HZ cV ca v1 oi;obtain⟨bA,bb,cr,du⟩:=HZ cV ca aC oj;rw[aO]at ei eU a3 a4;rw[aX]at iQ jY nD kc;rw[cY]at bA bb cr du;have i0:=hi v0 (by omega) (by omega);have i1:=hi v1 (by omega) (by omega);have i2:=hi aC (by omega) (by omega);have i3:=hi v3 (by omega) (by omega);have al:mo.b.length<=100/\mo.first.length<=100/\mo.l.length<=100/\mo.offers.length<=100:=by omega
 have M:oi.b.length<=100/\oi.first.length<=100/\oi.l.length<=100/\oi.offers.length<=100:=by omega
 have ae:oj.b.length<=100/\oj.first.length<=100/\oj.l.length<=100/\oj.offers.length<=100:=by omega
 have ao:pb.b.length<=100/\pb.first.length<=100/\pb.l.length<=100/\pb.offers.length<=100:=by omega
 have mn:0<=v0/\v0<=3:=by omega
 have cC:0<=v1/\v1<=3:=by omega
 have cI:0<=aC/\aC<=3:=by omega
 have dA:0<=v3/\v3<=3:=by omega
 clear ei eU a3 a4 iQ jY nD kc bA bb cr du MV MW z3 z4 hi;have gr:cl mP tab jD 0 K tS ma (rz v3 cV ca pb):=by
  rw[hm];exact CF K cV ca v3 pb tT dA.1 dA.2 h6 ao.1 ao.2.1 ao.2.2.1 ao.2.2.2 i3 (fun _=>ey) (by rw[lQ,<- aV];exact hZ)
 have dL:cl mP tab jD 0 K tR ma (rz aC cV ca oj):=by
  rw[gU];exact CF K cV ca aC oj tS cI.1 cI.2 h6 ae.1 ae.2.1 ae.2.2.1 ae.2.2.2 i2 (fun _=>cE) (by rw[cY,<- ab];exact gr)
 have em:cl mP tab jD 0 K tQ ma (rz v1 cV ca oi):=by
  rw[e8];exact CF K cV ca v1 oi tR cC.1 cC.2 h6 M.1 M.2.1 M.2.2.1 M.2.2.2 i1 (fun _=>cJ) (by rw[aX,<- G];exact dL)
 rw[m0];exact CF K cV ca v0 mo tQ mn.1 mn.2 h6 al.1 al.2.1 al.2.2.1 al.2.2.2 i0 (fun h=>(h a6).elim) (by rw[aO,<- I];exact em)
theorem ago(ag:1<=aL/\aL<=4/\HX aL.toNat ha=true)(K:aW)(D:K (.an [.agg (mv (qx aL.toNat ha).1),.one (.E (.list .offer) (HW aL.toNat ha)),.one (ay true)]) []):pf mP jD 0 K [.one (A aL),.one (A ha)] []:=by
 obtain⟨fg,ft,hx⟩:=ag;obtain⟨cV,h6⟩:∃cV:Nat,aL=cV:=⟨aL.toNat,by omega⟩
 subst h6;have Y8:((cV:Int)).toNat=cV:=by omega
 have Z1:cV<=4:=by omega
 rw[Y8]at hx D;unfold HX at hx;simp only[Bool.and_eq_true,CE,au,decide_eq_true_eq]at hx;obtain⟨mH,cJ,cE,ey,gw,np⟩:=hx;have hi:∀v:Int,0<=v->v<4->∀k:Int,0<=k->k<cV->(kJ (l3 v k)).2=0:=fun v b0 aQ k a6 I=>by
  unfold Ry at mH;have:=List.all_eq_true.1 (List.all_eq_true.1 mH v.toNat (List.mem_range.2 (by omega))) k.toNat (List.mem_range.2 (by omega));rw[show((k.toNat:Nat):Int)=k by omega,show((v.toNat:Nat):Int)=v by omega]at this;exact of_decide_eq_true this
 obtain⟨tT,tg⟩:∃gx,gx=1:=⟨1,rfl⟩
 obtain⟨tS,hm⟩:∃gx,gx=cV+1+tT+1:=⟨_,rfl⟩
 obtain⟨tR,gU⟩:∃gx,gx=cV+1+tS+1:=⟨_,rfl⟩
 obtain⟨tQ,e8⟩:∃gx,gx=cV+1+tR+1:=⟨_,rfl⟩
 obtain⟨yP,m0⟩:∃gx,gx=cV+1+tQ+1:=⟨_,rfl⟩
 obtain⟨mo,zy⟩:∃hd:kU,hd=⟨[],[],[],[]⟩:=⟨_,rfl⟩
 have a1:zn cV ha=k2 cV ha 0 mo:=by rw[zy];rfl
 have bf:zo cV ha=k2 cV ha 1 (zn cV ha):=rfl;have cj:zp cV ha=k2 cV ha 2 (zo cV ha):=rfl;have eR:nL cV ha=k2 cV ha 3 (zp cV ha):=rfl;have aj1:qx cV ha=u6 (nL cV ha).b (nL cV ha).l P1 (nL cV ha).first:=rfl
 have hZ:=Zs K cV ha 4 tT rfl tg gw np D;generalize nL cV ha=Bu at eR hZ;generalize zp cV ha=pb at cj eR ey;generalize zo cV ha=oj at bf cj cE;generalize zn cV ha=oi at a1 bf cJ;have lK:=Zr K cV ha Z1 mo oi oj pb Bu 0 1 2 3 4 yP tQ tR tS tT (by rw[zy];exact⟨rfl,rfl,rfl,rfl⟩) rfl rfl rfl rfl rfl m0 e8 gU hm a1.symm bf.symm cj.symm eR.symm hi cJ cE ey hZ;refine⟨yP+1,?_⟩;rw[eO,afh _ _ _ _];rw[zy]at lK;exact lK
theorem aie:bw 20 GD:=hN adB Tryz.func20 (by kernel_rfl) (by
 intro vs ar p v dB h ag;unfold GD at h;split at h
 ·cases h;exact⟨by kernel_rfl,rfl,.inl (ago _ _ ag.1 _ ⟨rfl,rfl⟩)⟩
 ·cases h)

def FN:bd
 |[.agg [.E (.list .int) ws,.E .int fu,.E .bool up,.E .int bu,.E .int bx]],[]=>some (none,.an [.one (af (D9 ⟨⟨ws,fu⟩,up,bu,bx⟩).1),.one (A (D9 ⟨⟨ws,fu⟩,up,bu,bx⟩).2.1),.one (A (D9 ⟨⟨ws,fu⟩,up,bu,bx⟩).2.2)],[])
 |_,_=>none

theorem ahh:bw 21 FN:=b2 0 (((bv.f WM).f Eh).f AV) Tryz.func21 (by kernel_rfl) fun vs ar=>by
 unfold FN;split;rotate_left;trivial;rename_i ws fu up bu bx;refine⟨by kernel_rfl,fun K D=>?_⟩;refine⟨1,?_⟩;obtain⟨aC,cR⟩:∃aC,aC=lu ⟨ws,fu⟩ (c2 ⟨ws,fu⟩).slot:=⟨_,rfl⟩
 refine ck (fun rec=>(by subst cR;kernel_rfl:_=(
  J (!(au (eZ ⟨⟨ws,fu⟩,up,bu,bx⟩) 0))
  (K (.an [.one (af []),.one (A 0),.one (A (eZ ⟨⟨ws,fu⟩,up,bu,bx⟩))]) [])
  (K (.an [.one (af aC.fst),.one (A aC.snd.fst),.one (A aC.snd.snd)]) [])))) ?_
 subst cR;unfold D9 at D;refine bN (fun h=>?_) (fun h=>?_)
 ·rw[if_neg h]at D;exact D
 ·rw[if_pos h]at D;exact D

def GG:bd
 |[],[]=>some (none,.one (ay true),[])
 |_,_=>none
def XE:Ctx:=[(20,GD),(4,B8),(21,FN),(22,FX),(23,BM)]

theorem aif:bw 6 GG:=b2 (Γ:=XE) 0 (((((bv.f vt).f Wp).f ahh).f WB).f aie) Tryz.func6 (by kernel_rfl) fun vs ar=>by
 unfold GG;split;rotate_left;trivial;refine⟨by kernel_rfl,fun K D=>?_⟩;refine⟨40,?_⟩;have e:cl XE tab Tryz.f6 0 K 40 [.code (bF Tryz.f6)] (df [] [])=((((1:Int)<=(1:Int))/\(((1:Int)<=(4:Int))/\(true=true)))/\(((0:Int)<=(2:Int))/\((2:Int)<(3:Int)))/\(((0:Int)<=(0:Int))/\((0:Int)<(3:Int)))/\(640<=140737488355328)/\(800<=140737488355328)/\(960<=140737488355328)/\(1120<=140737488355328)/\(1600<=140737488355328)/\(((0:Int)<=(0:Int))/\((0:Int)<(10:Int)))/\(((0:Int)<=(1:Int))/\((1:Int)<(10:Int)))/\(((0:Int)<=(0:Int))/\((0:Int)<(1:Int)))/\(((0:Int)<=(0:Int))/\((0:Int)<(3:Int)))/\(((0:Int)<=(0:Int))/\((0:Int)<(1:Int)))/\(4<=140737488355328)/\K (.one (ay true)) []):=by kernel_rfl
 rw[e];exact⟨⟨by decide,by decide,rfl⟩,⟨by decide,by decide⟩,⟨by decide,by decide⟩,by decide,by decide,by decide,by decide,by decide,⟨by decide,by decide⟩,⟨by decide,by decide⟩,⟨by decide,by decide⟩,⟨by decide,by decide⟩,⟨by decide,by decide⟩,by decide,D⟩

def OX:bd
 |[.one (.E (.list .str) a),.one (.E (.list .str) b)],[]=>some (some (a.length<=140737488355328),.one (ay (fr eqs a b)),[])
 |_,_=>none
def Nn:Ctx:=[]
def xK:List cw:=[.inLoop [13,12,4,0,1] (Code.sub (bF Tryz.f24) [1,1,0,1,0,0]),.inBlock 0,.code (Code.sub (bF Tryz.f24) [1,1,1])]
def KT(F al:Int)(M:Bool)(ae ao:cB):bP:=⟨[(13,.one (A F)),(12,.one (A al)),(4,.one (ay M)),(0,.one (.E (z.list z.str) ae)),(1,.one (.E (z.list z.str) ao))],[],0⟩
theorem UB{F:Int}{rec:bZ}{K:aW}{al M ae ao}{v0}(b0:v0=fun a=>KT a al M ae ao):b7 Nn tab Tryz.f24 0 K rec (cQ xK) (v0 F)=(
 J (aN F al)
 (((0:Int)<=F/\F<(len ae:Int)) /\
 ((0:Int)<=F/\F<(len ao:Int)) /\
 J (!(eqs (nth ae (Int.toNat F) (z.H z.str)) (nth ao (Int.toNat F) (z.H z.str))))
 (K fi [])
 (rec xK (v0 (W (F+1)))))
 (K og [])):=by subst_vars;kernel_rfl

theorem SN(a b:cB)(ax:a.length=b.length)(av:a.length<=140737488355328)(K:aW):∀(d k:Nat),k+d=a.length->K (.one (ay (fr eqs (a.drop k) (b.drop k)))) [] ->
  cl Nn tab Tryz.f24 0 K (d+1) xK (KT (k:Int) (((len a):Nat):Int) false a b)
 |0,k,ad,D=>by
  rw[bW (L:=xK),UB rfl];refine co (by simp only[len];omega) ?_;rw[List.drop_of_length_le (by omega),List.drop_of_length_le (by omega)]at D;exact D
 |d+1,k,ad,D=>by
  rw[bW (L:=xK),UB rfl,cM];rw[ep (l:=a) (by omega) (z.H .str),ep (l:=b) (by omega) (z.H .str)]at D;simp only[fr]at D;refine cS (by simp only[len];omega) ⟨⟨by omega,by simp only[len];omega⟩,⟨by omega,by simp only[len];omega⟩,eF (fun dz=>?_) (fun heq=>?_)⟩
  ·rw[show eqs (nth a k (z.H .str)) (nth b k (z.H .str))=false from dz]at D;exact D
  ·rw[di (by omega)];rw[show eqs (nth a k (z.H .str)) (nth b k (z.H .str))=true from heq,Bool.true_and]at D;exact SN a b ax av K d (k+1) (by omega) D
theorem ah5:bw 24 OX:=b2 (Γ:=Nn) 0 bv Tryz.func24 (by kernel_rfl) fun vs ar=>by
 unfold OX;split;rotate_left;trivial;rename_i a b;refine⟨by kernel_rfl,fun ag K D=>?_⟩;refine⟨a.length+2,?_⟩;refine ck (fun rec=>(by kernel_rfl:_=(
  J (!(au (len a:Int) (len b:Int)))
  (K fi [])
  (rec xK (KT 0 (len a:Int) false a b))))) ?_
 refine bN (fun h=>?_) (fun h=>?_)
 ·rw[wy eqs a b (by simp only[len]at h;omega)]at D;exact D
 ·exact SN a b (by simp only[len]at h;omega) ag K a.length 0 (by omega) D

def OW:bd
 |[.one (.E (.list .signed) a),.one (.E (.list .signed) b)],[]=>some (some (a.length<=140737488355328),.one (ay (fr nK a b)),[])
 |_,_=>none
def Nm:Ctx:=[]
def xJ:List cw:=[.inLoop [13,12,4,0,1] (Code.sub (bF Tryz.f25) [1,1,0,1,0,0]),.inBlock 0,.code (Code.sub (bF Tryz.f25) [1,1,1])]
def KS(F al:Int)(M:Bool)(ae ao:cD):bP:=⟨[(13,.one (A F)),(12,.one (A al)),(4,.one (ay M)),(0,.one (.E (z.list z.signed) ae)),(1,.one (.E (z.list z.signed) ao))],[],0⟩
theorem UA{F:Int}{rec:bZ}{K:aW}{al M ae ao}{v0}(b0:v0=fun a=>KS a al M ae ao):b7 Nm tab Tryz.f25 0 K rec (cQ xJ) (v0 F)=(
 J (aN F al)
 (((0:Int)<=F/\F<(len ae:Int)) /\
 ((0:Int)<=F/\F<(len ao:Int)) /\
 J (!((au (nth ae (Int.toNat F) (z.H z.signed)).key (nth ao (Int.toNat F) (z.H z.signed)).key)&&((au (nth ae (Int.toNat F) (z.H z.signed)).name (nth ao (Int.toNat F) (z.H z.signed)).name)&&true)))
 (K fi [])
 (rec xJ (v0 (W (F+1)))))
 (K og [])):=by subst_vars;kernel_rfl

theorem SM(a b:cD)(ax:a.length=b.length)(av:a.length<=140737488355328)(K:aW):∀(d k:Nat),k+d=a.length->K (.one (ay (fr nK (a.drop k) (b.drop k)))) [] ->
  cl Nm tab Tryz.f25 0 K (d+1) xJ (KS (k:Int) (((len a):Nat):Int) false a b)
 |0,k,ad,D=>by
  rw[bW (L:=xJ),UA rfl];refine co (by simp only[len];omega) ?_;rw[List.drop_of_length_le (by omega),List.drop_of_length_le (by omega)]at D;exact D
 |d+1,k,ad,D=>by
  rw[bW (L:=xJ),UA rfl,cM];rw[ep (l:=a) (by omega) (z.H .signed),ep (l:=b) (by omega) (z.H .signed)]at D;simp only[fr]at D;refine cS (by simp only[len];omega) ⟨⟨by omega,by simp only[len];omega⟩,⟨by omega,by simp only[len];omega⟩,eF (fun dz=>?_) (fun heq=>?_)⟩
  ·rw[show nK (nth a k (z.H .signed)) (nth b k (z.H .signed))=false from by simpa[nK]using dz]at D;exact D
  ·rw[di (by omega)];rw[show nK (nth a k (z.H .signed)) (nth b k (z.H .signed))=true from by simpa[nK]using heq,Bool.true_and]at D;exact SM a b ax av K d (k+1) (by omega) D
theorem ah4:bw 25 OW:=b2 (Γ:=Nm) 0 bv Tryz.func25 (by kernel_rfl) fun vs ar=>by
 unfold OW;split;rotate_left;trivial;rename_i a b;refine⟨by kernel_rfl,fun ag K D=>?_⟩;refine⟨a.length+2,?_⟩;refine ck (fun rec=>(by kernel_rfl:_=(
  J (!(au (len a:Int) (len b:Int)))
  (K fi [])
  (rec xJ (KS 0 (len a:Int) false a b))))) ?_
 refine bN (fun h=>?_) (fun h=>?_)
 ·rw[wy nK a b (by simp only[len]at h;omega)]at D;exact D
 ·exact SM a b (by simp only[len]at h;omega) ag K a.length 0 (by omega) D

def O5:bd
 |[.agg [.E (.list .int) ws,.E .int fu],.agg [.E (.list .int) us,.E .int rF]],[]=>some (some (eQ ws),.one (ay (n9 ⟨ws,fu⟩ ⟨us,rF⟩)),[])
 |_,_=>none

theorem WG:bw 80 O5:=b2 0 (bv.f vt) Tryz.func80 (by kernel_rfl) fun vs ar=>by
 unfold O5;split;rotate_left;trivial;rename_i ws fu us rF;refine⟨by kernel_rfl,fun ag K D=>?_⟩;refine⟨1,?_⟩;refine ck (fun rec=>(by kernel_rfl:_=(
  J (au fu rF)
  (List.length ws<=140737488355328 /\
  K (.one (ay (gj ws us))) [])
  (K fi [])))) ?_
 refine cz (fun h=>⟨ag,?_⟩) (fun h=>?_)
 ·rw[show n9 ⟨ws,fu⟩ ⟨us,rF⟩=gj ws us from by simp[n9,h]]at D;exact D
 ·rw[show n9 ⟨ws,fu⟩ ⟨us,rF⟩=false from by simp[n9,h]]at D;exact D

def Oh:bd
 |[.agg [.E .int v,.E (.list .int) aF,.E .int t,.E .int n],.agg [.E .int aC,.E (.list .int) Jp,.E .int t2,.E .int iX]],[]=>some (some (eQ aF),.one (ay (AO ⟨⟨v,aF,t⟩,n⟩ ⟨⟨aC,Jp,t2⟩,iX⟩)),[])
 |_,_=>none

theorem ag6:bw 81 Oh:=b2 0 (bv.f vt) Tryz.func81 (by kernel_rfl) fun vs ar=>by
 unfold Oh;split;rotate_left;trivial;rename_i v aF t n aC Jp t2 iX;refine⟨by kernel_rfl,fun ag K D=>?_⟩;refine⟨1,?_⟩;refine ck (fun rec=>(by kernel_rfl:_=(
  J (au n iX)
  (J (au v aC)
  (J (au t t2)
  (List.length aF<=140737488355328 /\
  K (.one (ay (gj aF Jp))) [])
  (K fi []))
  (K fi []))
  (K fi [])))) ?_
 unfold AO at D;simp only at D;refine cn (fun h=>cn (fun G=>cn (fun ab=>⟨ag,?_⟩) (fun ab=>?_)) (fun G=>?_)) (fun h=>?_)
 ·rw[h,G,ab]at D;exact D
 ·rw[h,G,ab]at D;exact D
 ·rw[h,G]at D;exact D
 ·rw[h]at D;exact D

def Oy:bd
 |[.one (.E (.list .bool) a),.one (.E (.list .bool) b)],[]=>some (some (len a<=140737488355328),.one (ay (mY a b)),[])
 |_,_=>none
def Na:Ctx:=[]
def xr:List cw:=[.inLoop [13,12,4,0,1] (Code.sub (bF Tryz.f82) [1,1,0,1,0,0]),.inBlock 0,.code (Code.sub (bF Tryz.f82) [1,1,1])]
def Kv(F al:Int)(M:Bool)(ae ao:c9):bP:=⟨[(13,.one (A F)),(12,.one (A al)),(4,.one (ay M)),(0,.one (bj ae)),(1,.one (bj ao))],[],0⟩
theorem Ub{F:Int}{rec:bZ}{K:aW}{al M ae ao}{v0}(b0:v0=fun a=>Kv a al M ae ao):b7 Na tab Tryz.f82 0 K rec (cQ xr) (v0 F)=(
 J (aN F al)
 (((0:Int)<=F/\F<(len ae:Int)) /\
 ((0:Int)<=F/\F<(len ao:Int)) /\
 J (!(jC (nth ae (Int.toNat F) (z.H z.bool)) (nth ao (Int.toNat F) (z.H z.bool))))
 (K fi [])
 (rec xr (v0 (W (F+1)))))
 (K og [])):=by subst_vars;kernel_rfl

theorem SC(a b:c9)(ax:a.length=b.length)(av:a.length<=140737488355328)(K:aW)(D:K (.one (ay (mY a b))) []):∀(d k:Nat),k+d=a.length->a.take k=b.take k ->
  cl Na tab Tryz.f82 0 K (d+1) xr (Kv (k:Int) (((len a):Nat):Int) false a b)
 |0,k,ad,bp=>by
  rw[bW (L:=xr),Ub rfl];refine co (by simp only[len];omega) ?_;rw[List.take_of_length_le (by omega),List.take_of_length_le (by omega)]at bp;rw[show mY a b=true from decide_eq_true bp]at D;exact D
 |d+1,k,ad,bp=>by
  rw[bW (L:=xr),Ub rfl];refine cS (by simp only[len];omega) ⟨⟨by omega,by simp only[len];omega⟩,⟨by omega,by simp only[len];omega⟩,eF (fun dz=>?_) (fun heq=>?_)⟩
  ·have dz:=of_decide_eq_false dz;rw[show mY a b=false from decide_eq_false (by rintro rfl;exact dz rfl)]at D;exact D
  ·have heq:=of_decide_eq_true heq;rw[di (by omega)];refine SC a b ax av K D d (k+1) (by omega) ?_;rw[ie (by omega) (z.H z.bool),ie (by omega) (z.H z.bool),bp];rw[cM]at heq;rw[heq]
theorem ahn:bw 82 Oy:=b2 (Γ:=Na) 0 bv Tryz.func82 (by kernel_rfl) fun vs ar=>by
 unfold Oy;split;rotate_left;trivial;rename_i a b;refine⟨by kernel_rfl,fun ag K D=>?_⟩;refine⟨a.length+2,?_⟩;refine ck (fun rec=>(by kernel_rfl:_=(
  J (!(au (len a:Int) (len b:Int)))
  (K fi [])
  (rec xr (Kv 0 (len a:Int) false a b))))) ?_
 refine bN (fun h=>?_) (fun h=>?_)
 ·rw[show mY a b=false from decide_eq_false (by rintro rfl;exact h rfl)]at D;exact D
 ·exact SC a b (by simp only[len]at h;omega) ag K D a.length 0 (by omega) rfl

def OI:bd
 |[.agg [.E (.list .int) ws,.E .int fu,.E .bool up,.E .int ak,.E (.list .int) ah,.E .int aj,.E .int ai,.E (.list .bool) Y,.E (.list .bool) aa],.agg [.E (.list .int) qe,.E .int pB,.E .bool qc,.E .int vC,.E (.list .int) vy,.E .int vB,.E .int vA,.E (.list .bool) vG,.E (.list .bool) um]],[]=>some (some (eQ ws/\eQ ah/\len Y<=140737488355328/\len aa<=140737488355328),.one (ay (AN ⟨⟨ws,fu⟩,up,⟨⟨ak,ah,aj⟩,ai⟩,Y,aa⟩ ⟨⟨qe,pB⟩,qc,⟨⟨vC,vy,vB⟩,vA⟩,vG,um⟩)),[])
 |_,_=>none

theorem ahw:bw 26 OI:=b2 0 (((bv.f ahn).f ag6).f WG) Tryz.func26 (by kernel_rfl) fun vs ar=>by
 unfold OI;split;rotate_left;trivial;rename_i ws fu up ak ah aj ai Y aa qe pB qc vC vy vB vA vG um;refine⟨by kernel_rfl,fun ag K D=>?_⟩;refine⟨1,?_⟩;refine ck (fun rec=>(by kernel_rfl:_=(
  List.length ws<=140737488355328 /\
  J (n9 ⟨ws,fu⟩ ⟨qe,pB⟩)
  (J (jC up qc)
  (List.length ah<=140737488355328 /\
  J (AO ⟨⟨ak,ah,aj⟩,ai⟩ ⟨⟨vC,vy,vB⟩,vA⟩)
  (len Y<=140737488355328 /\
  J (mY Y vG)
  (len aa<=140737488355328 /\
  K (.one (ay (mY aa um))) [])
  (K fi []))
  (K fi []))
  (K fi []))
  (K fi [])))) ?_
 unfold AN at D;simp only at D;refine⟨ag.1,cn (fun I=>cn (fun G=>⟨ag.2.1,cn (fun ab=>⟨ag.2.2.1,cn (fun aV=>⟨ag.2.2.2,?_⟩) (fun aV=>?_)⟩) (fun ab=>?_)⟩) (fun G=>?_)) (fun I=>?_)⟩
 ·rw[I,G,ab,aV]at D;exact D
 ·rw[I,G,ab,aV]at D;exact D
 ·rw[I,G,ab]at D;exact D
 ·rw[I,G]at D;exact D
 ·rw[I]at D;exact D

def FQ:bd
 |[.agg [.E (.list .int) ws,.E .int fu,.E .bool up,.E .int bu,.E .int bx],.agg [.E (.list .int) qe,.E .int pB,.E .bool qc,.E .int MI,.E .int MH]],[]=>some (some (eQ ws),.one (ay (mL ⟨⟨ws,fu⟩,up,bu,bx⟩ ⟨⟨qe,pB⟩,qc,MI,MH⟩)),[])
 |_,_=>none

theorem Wj:bw 28 FQ:=b2 0 (bv.f WG) Tryz.func28 (by kernel_rfl) fun vs ar=>by
 unfold FQ;split;rotate_left;trivial;rename_i ws fu up bu bx qe pB qc MI MH;refine⟨by kernel_rfl,fun ag K D=>?_⟩;refine⟨1,?_⟩;refine ck (fun rec=>(by kernel_rfl:_=(
  List.length ws<=140737488355328 /\
  J (n9 ⟨ws,fu⟩ ⟨qe,pB⟩)
  (J (jC up qc)
  (J (au bu MI)
  (K (.one (ay (au bx MH))) [])
  (K fi []))
  (K fi []))
  (K fi [])))) ?_
 unfold mL at D;simp only at D;refine⟨ag,cn (fun I=>cn (fun G=>cn (fun ab=>?_) (fun ab=>?_)) (fun G=>?_)) (fun I=>?_)⟩
 ·rw[I,G,ab]at D;exact D
 ·rw[I,G,ab]at D;exact D
 ·rw[I,G]at D;exact D
 ·rw[I]at D;exact D

def OY:bd
 |[.one (.E (.list .aT) a),.one (.E (.list .aT) b),.one (.fn f [])],[]=>(match Nat.beq f 28 with|true=>some (some (a.length<=140737488355328/\tC a=true),.one (ay (fr mL a b)),[])|false=>none)
 |_,_=>none
def Bm:Ctx:=[(28,FQ)]
theorem adw:fz Tryz.prog tab Bm:=(bv.f Wj)
def xL:List cw:=[.inLoop [17,16,15,6,1,2] (Code.sub (bF Tryz.f27) [1,1,0,1,0,0]),.inBlock 0,.code (Code.sub (bF Tryz.f27) [1,1,1])]
def KU(F al:Int)(M:c3)(ae:Bool)(ao:c3):bP:=⟨[(17,.one (A F)),(16,.one (A al)),(15,.one (.E (z.list z.aT) M)),(6,.one (ay ae)),(1,.one (.E (z.list z.aT) ao)),(2,.one (.fn 28 []))],[],0⟩
theorem afc(a b:c3)(rec:bZ)(K:aW):b7 Bm tab Tryz.f27 0 K rec [.code (bF Tryz.f27)] (df [.one (.E (z.list z.aT) a),.one (.E (z.list z.aT) b),.one (.fn 28 [])] [])=(
 J (!(au (len a:Int) (len b:Int)))
 (K fi [])
 (rec xL (KU 0 (len a:Int) a false b))):=by kernel_rfl
theorem UC{F:Int}{rec:bZ}{K:aW}{al M ae ao}{v1 v0}(cd:v1=fun a=>KU a al M ae ao)(b0:v0=mL ⟨⟨((nth M (Int.toNat F) (z.H z.aT)).f).words,((nth M (Int.toNat F) (z.H z.aT)).f).fuel⟩,(nth M (Int.toNat F) (z.H z.aT)).up,(nth M (Int.toNat F) (z.H z.aT)).n,(nth M (Int.toNat F) (z.H z.aT)).eE⟩ ⟨⟨((nth ao (Int.toNat F) (z.H z.aT)).f).words,((nth ao (Int.toNat F) (z.H z.aT)).f).fuel⟩,(nth ao (Int.toNat F) (z.H z.aT)).up,(nth ao (Int.toNat F) (z.H z.aT)).n,(nth ao (Int.toNat F) (z.H z.aT)).eE⟩):b7 Bm tab Tryz.f27 0 K rec (cQ xL) (v1 F)=(
 J (aN F al)
 (((0:Int)<=F/\F<(len M:Int)) /\
 ((0:Int)<=F/\F<(len ao:Int)) /\
 List.length ((nth M (Int.toNat F) (z.H z.aT)).f).words<=140737488355328 /\
 J (!v0)
 (K fi [])
 (rec xL (v1 (W (F+1)))))
 (K og [])):=by subst_vars;kernel_rfl

theorem SO(a b:c3)(ax:a.length=b.length)(av:a.length<=140737488355328)(aw:tC a=true)(K:aW):∀(d k:Nat),k+d=a.length->K (.one (ay (fr mL (a.drop k) (b.drop k)))) [] ->
  cl Bm tab Tryz.f27 0 K (d+1) xL (KU (k:Int) (((len a):Nat):Int) a false b)
 |0,k,ad,D=>by
  rw[bW (L:=xL),UC rfl rfl];refine co (by simp only[len];omega) ?_;rw[List.drop_of_length_le (by omega),List.drop_of_length_le (by omega)]at D;exact D
 |d+1,k,ad,D=>by
  rw[bW (L:=xL),UC rfl rfl,cM];have aB:nth a k (z.H .aT)∈a:=by
   have:k<a.length:=by omega
   simp[nth,List.getD_eq_getElem?_getD,this]
  rw[ep (l:=a) (by omega) (z.H .aT),ep (l:=b) (by omega) (z.H .aT)]at D;simp only[fr]at D;refine cS (by simp only[len];omega) ⟨⟨by omega,by simp only[len];omega⟩,⟨by omega,by simp only[len];omega⟩,V5 aw aB,eF (fun dz=>?_) (fun heq=>?_)⟩
  ·rw[show mL (nth a k (z.H .aT)) (nth b k (z.H .aT))=false from dz]at D;exact D
  ·rw[di (by omega)];rw[show mL (nth a k (z.H .aT)) (nth b k (z.H .aT))=true from heq,Bool.true_and]at D;exact SO a b ax av aw K d (k+1) (by omega) D
theorem agj(ag:a.length<=140737488355328/\tC a=true)(K:aW)(D:K (.one (ay (fr mL a b))) []):∃m,cl Bm tab Tryz.f27 0 K m [.code (bF Tryz.f27)] (df [.one (.E (z.list z.aT) a),.one (.E (z.list z.aT) b),.one (.fn 28 [])] []):=by
 refine⟨a.length+2,?_⟩;rw[eO,afc _ _ _ _];refine bN (fun h=>?_) (fun h=>?_)
 ·rw[wy mL a b (by simp only[len]at h;omega)]at D;exact D
 ·exact SO a b (by simp only[len]at h;omega) ag.1 ag.2 K a.length 0 (by omega) D
theorem ah6:bw 27 OY:=hN adw Tryz.func27 (by kernel_rfl) (by
 intro vs ar p v dB h ag;unfold OY at h;split at h
 ·split at h
  ·rename_i eP;have eP:=Nat.eq_of_beq_eq_true eP;subst eP;cases h;exact⟨by kernel_rfl,rfl,.inl (agj _ _ ag.1 _ ⟨rfl,rfl⟩)⟩
  ·cases h
 ·cases h)

def FO:bd
 |[.agg [.E .int mk,.E .int a8,.E .int ba,.E .int bD,.E .int cg,.E (.list .int) bT,.E .bool cy],.agg [.E .int Ly,.E .int LA,.E .int Lz,.E .int Lw,.E .int Lx,.E (.list .int) LB,.E .bool LC]],[]=>some (some (eQ bT),.one (ay (tA ⟨mk,a8,ba,bD,cg,bT,cy⟩ ⟨Ly,LA,Lz,Lw,Lx,LB,LC⟩)),[])
 |_,_=>none

theorem Wi:bw 84 FO:=b2 0 (bv.f vt) Tryz.func84 (by kernel_rfl) fun vs ar=>by
 unfold FO;split;rotate_left;trivial;rename_i mk a8 ba bD cg bT cy Ly LA Lz Lw Lx LB LC;refine⟨by kernel_rfl,fun ag K D=>?_⟩;refine⟨1,?_⟩;refine ck (fun rec=>(by kernel_rfl:_=(
  J (au mk Ly)
  (J (au a8 LA)
  (J (au ba Lz)
  (J (au bD Lw)
  (J (au cg Lx)
  (J (jC cy LC)
  (List.length bT<=140737488355328 /\
  K (.one (ay (gj bT LB))) [])
  (K fi []))
  (K fi []))
  (K fi []))
  (K fi []))
  (K fi []))
  (K fi [])))) ?_
 unfold tA at D;simp only at D;refine cn (fun I=>cn (fun G=>cn (fun ab=>cn (fun aV=>cn (fun br=>cn (fun bV=>⟨ag,?_⟩) (fun bV=>?_)) (fun br=>?_)) (fun aV=>?_)) (fun ab=>?_)) (fun G=>?_)) (fun I=>?_)
 ·rw[I,G,ab,aV,br,bV]at D;exact D
 ·rw[I,G,ab,aV,br,bV]at D;exact D
 ·rw[I,G,ab,aV,br]at D;exact D
 ·rw[I,G,ab,aV]at D;exact D
 ·rw[I,G,ab]at D;exact D
 ·rw[I,G]at D;exact D
 ·rw[I]at D;exact D

def Ot:bd
 |[.one (.E (.list .message) a),.one (.E (.list .message) b),.one (.fn f [])],[]=>(match Nat.beq f 84 with|true=>some (some (a.length<=140737488355328/\mj a=true),.one (ay (mK a b)),[])|false=>none)
 |_,_=>none
def Bh:Ctx:=[(84,FO)]
theorem adn:fz Tryz.prog tab Bh:=(bv.f Wi)
def xm:List cw:=[.inLoop [17,16,15,6,1,2] (Code.sub (bF Tryz.f83) [1,1,0,1,0,0]),.inBlock 0,.code (Code.sub (bF Tryz.f83) [1,1,1])]
def Kq(F al:Int)(M:cG)(ae:Bool)(ao:cG):bP:=⟨[(17,.one (A F)),(16,.one (A al)),(15,.one (bB M)),(6,.one (ay ae)),(1,.one (bB ao)),(2,.one (.fn 84 []))],[],0⟩
theorem aeR(a b:cG)(rec:bZ)(K:aW):b7 Bh tab Tryz.f83 0 K rec [.code (bF Tryz.f83)] (df [.one (bB a),.one (bB b),.one (.fn 84 [])] [])=(
 J (!(au (len a:Int) (len b:Int)))
 (K fi [])
 (rec xm (Kq 0 (len a:Int) a false b))):=by kernel_rfl
theorem T6{F:Int}{rec:bZ}{K:aW}{al M ae ao}{v1 v0}(cd:v1=fun a=>Kq a al M ae ao)(b0:v0=tA ⟨(nth M (Int.toNat F) (z.H z.message)).kind,(nth M (Int.toNat F) (z.H z.message)).unit,(nth M (Int.toNat F) (z.H z.message)).n,(nth M (Int.toNat F) (z.H z.message)).at_,(nth M (Int.toNat F) (z.H z.message)).image,(nth M (Int.toNat F) (z.H z.message)).words,(nth M (Int.toNat F) (z.H z.message)).yes⟩ ⟨(nth ao (Int.toNat F) (z.H z.message)).kind,(nth ao (Int.toNat F) (z.H z.message)).unit,(nth ao (Int.toNat F) (z.H z.message)).n,(nth ao (Int.toNat F) (z.H z.message)).at_,(nth ao (Int.toNat F) (z.H z.message)).image,(nth ao (Int.toNat F) (z.H z.message)).words,(nth ao (Int.toNat F) (z.H z.message)).yes⟩):b7 Bh tab Tryz.f83 0 K rec (cQ xm) (v1 F)=(
 J (aN F al)
 (((0:Int)<=F/\F<(len M:Int)) /\
 ((0:Int)<=F/\F<(len ao:Int)) /\
 List.length (nth M (Int.toNat F) (z.H z.message)).words<=140737488355328 /\
 J (!v0)
 (K fi [])
 (rec xm (v1 (W (F+1)))))
 (K og [])):=by subst_vars;kernel_rfl

theorem Sx(a b:cG)(ax:a.length=b.length)(av:a.length<=140737488355328)(aw:mj a=true)(K:aW):∀(d k:Nat),k+d=a.length->K (.one (ay (mK (a.drop k) (b.drop k)))) [] ->
  cl Bh tab Tryz.f83 0 K (d+1) xm (Kq (k:Int) (((len a):Nat):Int) a false b)
 |0,k,ad,D=>by
  rw[bW (L:=xm),T6 rfl rfl];refine co (by simp only[len];omega) ?_;rw[List.drop_of_length_le (by omega),List.drop_of_length_le (by omega)]at D;exact D
 |d+1,k,ad,D=>by
  rw[bW (L:=xm),T6 rfl rfl,cM];have aB:nth a k (z.H .message)∈a:=by
   have:k<a.length:=by omega
   simp[nth,List.getD_eq_getElem?_getD,this]
  rw[ep (l:=a) (by omega) (z.H .message),ep (l:=b) (by omega) (z.H .message)]at D;simp only[mK]at D;refine cS (by simp only[len];omega) ⟨⟨by omega,by simp only[len];omega⟩,⟨by omega,by simp only[len];omega⟩,by simpa using List.all_eq_true.1 aw _ aB,eF (fun dz=>?_) (fun heq=>?_)⟩
  ·rw[show tA (nth a k (z.H .message)) (nth b k (z.H .message))=false from dz]at D;exact D
  ·rw[di (by omega)];rw[show tA (nth a k (z.H .message)) (nth b k (z.H .message))=true from heq,Bool.true_and]at D;exact Sx a b ax av aw K d (k+1) (by omega) D
theorem af4(a b:cG)(ag:a.length<=140737488355328/\mj a=true)(K:aW)(D:K (.one (ay (mK a b))) []):∃m,cl Bh tab Tryz.f83 0 K m [.code (bF Tryz.f83)] (df [.one (bB a),.one (bB b),.one (.fn 84 [])] []):=by
 refine⟨a.length+2,?_⟩;rw[eO,aeR _ _ _ _];refine bN (fun h=>?_) (fun h=>?_)
 ·rw[VJ a b (by simp only[len]at h;omega)]at D;exact D
 ·exact Sx a b (by simp only[len]at h;omega) ag.1 ag.2 K a.length 0 (by omega) D
theorem ahj:bw 83 Ot:=hN adn Tryz.func83 (by kernel_rfl) (by
 intro vs ar p v dB h ag;unfold Ot at h;split at h
 ·split at h
  ·rename_i eP;have eP:=Nat.eq_of_beq_eq_true eP;subst eP;cases h;exact⟨by kernel_rfl,rfl,.inl (af4 _ _ ag.1 _ ⟨rfl,rfl⟩)⟩
  ·cases h
 ·cases h)

def Ou:bd
 |[.one (.E (.list .message) a),.one (.E (.list .message) b)],[]=>some (some (a.length<=140737488355328/\mj a=true),.one (ay (mK a b)),[])
 |_,_=>none

theorem ahk:bw 29 Ou:=b2 0 ((bv.f Wi).f ahj) Tryz.func29 (by kernel_rfl) fun vs ar=>by
 unfold Ou;split;rotate_left;trivial;rename_i a b;refine⟨by kernel_rfl,fun ag K D=>?_⟩;refine⟨1,?_⟩;refine ck (fun rec=>(by kernel_rfl:_=(
  (List.length a<=140737488355328/\mj a=true) /\
  K (.one (ay (mK a b))) []))) ?_
 exact⟨ag,D⟩

def OV:bd
 |[.one (.E (.list .target) a),.one (.E (.list .target) b)],[]=>some (some (a.length<=140737488355328),.one (ay (fr mz a b)),[])
 |_,_=>none
def Nl:Ctx:=[]
def xI:List cw:=[.inLoop [13,12,4,0,1] (Code.sub (bF Tryz.f85) [1,1,0,1,0,0]),.inBlock 0,.code (Code.sub (bF Tryz.f85) [1,1,1])]
def KR(F al:Int)(M:Bool)(ae ao:LT):bP:=⟨[(13,.one (A F)),(12,.one (A al)),(4,.one (ay M)),(0,.one (.E (z.list z.target) ae)),(1,.one (.E (z.list z.target) ao))],[],0⟩
theorem Uz{F:Int}{rec:bZ}{K:aW}{al M ae ao}{v0}(b0:v0=fun a=>KR a al M ae ao):b7 Nl tab Tryz.f85 0 K rec (cQ xI) (v0 F)=(
 J (aN F al)
 (((0:Int)<=F/\F<(len ae:Int)) /\
 ((0:Int)<=F/\F<(len ao:Int)) /\
 J (!((au (nth ae (Int.toNat F) (z.H z.target)).unit (nth ao (Int.toNat F) (z.H z.target)).unit)&&((au (nth ae (Int.toNat F) (z.H z.target)).image (nth ao (Int.toNat F) (z.H z.target)).image)&&((au (nth ae (Int.toNat F) (z.H z.target)).dp (nth ao (Int.toNat F) (z.H z.target)).dp)&&true))))
 (K fi [])
 (rec xI (v0 (W (F+1)))))
 (K og [])):=by subst_vars;kernel_rfl

theorem SL(a b:LT)(ax:a.length=b.length)(av:a.length<=140737488355328)(K:aW):∀(d k:Nat),k+d=a.length->K (.one (ay (fr mz (a.drop k) (b.drop k)))) [] ->
  cl Nl tab Tryz.f85 0 K (d+1) xI (KR (k:Int) (((len a):Nat):Int) false a b)
 |0,k,ad,D=>by
  rw[bW (L:=xI),Uz rfl];refine co (by simp only[len];omega) ?_;rw[List.drop_of_length_le (by omega),List.drop_of_length_le (by omega)]at D;exact D
 |d+1,k,ad,D=>by
  rw[bW (L:=xI),Uz rfl,cM];rw[ep (l:=a) (by omega) (z.H .target),ep (l:=b) (by omega) (z.H .target)]at D;simp only[fr]at D;refine cS (by simp only[len];omega) ⟨⟨by omega,by simp only[len];omega⟩,⟨by omega,by simp only[len];omega⟩,eF (fun dz=>?_) (fun heq=>?_)⟩
  ·rw[show mz (nth a k (z.H .target)) (nth b k (z.H .target))=false from by simpa[mz]using dz]at D;exact D
  ·rw[di (by omega)];rw[show mz (nth a k (z.H .target)) (nth b k (z.H .target))=true from by simpa[mz]using heq,Bool.true_and]at D;exact SL a b ax av K d (k+1) (by omega) D
theorem ah3:bw 85 OV:=b2 (Γ:=Nl) 0 bv Tryz.func85 (by kernel_rfl) fun vs ar=>by
 unfold OV;split;rotate_left;trivial;rename_i a b;refine⟨by kernel_rfl,fun ag K D=>?_⟩;refine⟨a.length+2,?_⟩;refine ck (fun rec=>(by kernel_rfl:_=(
  J (!(au (len a:Int) (len b:Int)))
  (K fi [])
  (rec xI (KR 0 (len a:Int) false a b))))) ?_
 refine bN (fun h=>?_) (fun h=>?_)
 ·rw[wy mz a b (by simp only[len]at h;omega)]at D;exact D
 ·exact SL a b (by simp only[len]at h;omega) ag K a.length 0 (by omega) D

def O3:bd
 |[.agg [.E .int Fk,.E .int Fj,.E (.list .target) at_],.agg [.E .int ug,.E .int Fw,.E (.list .target) wa]],[]=>some (some (at_.length<=140737488355328),.one (ay (au Fk ug&&au Fj Fw&&fr mz at_ wa)),[])
 |_,_=>none

theorem aii:bw 32 O3:=b2 0 (bv.f ah3) Tryz.func32 (by kernel_rfl) fun vs ar=>by
 unfold O3;split;rotate_left;trivial;rename_i Fk Fj at_ ug Fw wa;refine⟨by kernel_rfl,fun ag K D=>?_⟩;refine⟨1,?_⟩;refine ck (fun rec=>(by kernel_rfl:_=(
  J (au Fk ug)
  (J (au Fj Fw)
  (List.length at_<=140737488355328 /\
  K (.one (ay (fr mz at_ wa))) [])
  (K fi []))
  (K fi [])))) ?_
 refine cn (fun h=>cn (fun k=>⟨ag,?_⟩) (fun k=>?_)) (fun h=>?_)
 ·rw[h,k]at D;exact D
 ·rw[h,k]at D;exact D
 ·rw[h]at D;exact D

def GH:bd
 |[.one (.E (.list .int) a),.one (.E (.list .int) b)],[]=>some (some (eQ a),.one (ay (gj a b)),[])
 |_,_=>none

theorem WD:bw 34 GH:=b2 0 (bv.f vt) Tryz.func34 (by kernel_rfl) fun vs ar=>by
 unfold GH;split;rotate_left;trivial;rename_i a b;refine⟨by kernel_rfl,fun ag K D=>?_⟩;refine⟨1,?_⟩;refine ck (fun rec=>(by kernel_rfl:_=(
  List.length a<=140737488355328 /\
  K (.one (ay (gj a b))) []))) ?_
 exact⟨ag,D⟩

def OZ:bd
 |[.one (.E (.list (.list .int)) a),.one (.E (.list (.list .int)) b),.one (.fn f [])],[]=>(match Nat.beq f 34 with|true=>some (some (a.length<=140737488355328/\iJ a=true),.one (ay (oa a b)),[])|false=>none)
 |_,_=>none
def Bn:Ctx:=[(34,GH)]
theorem adx:fz Tryz.prog tab Bn:=(bv.f WD)
def xM:List cw:=[.inLoop [17,16,15,6,1,2] (Code.sub (bF Tryz.f33) [1,1,0,1,0,0]),.inBlock 0,.code (Code.sub (bF Tryz.f33) [1,1,1])]
def KV(F al:Int)(M:cu)(ae:Bool)(ao:cu):bP:=⟨[(17,.one (A F)),(16,.one (A al)),(15,.one (cH M)),(6,.one (ay ae)),(1,.one (cH ao)),(2,.one (.fn 34 []))],[],0⟩
theorem afd(a b:cu)(rec:bZ)(K:aW):b7 Bn tab Tryz.f33 0 K rec [.code (bF Tryz.f33)] (df [.one (cH a),.one (cH b),.one (.fn 34 [])] [])=(
 J (!(au (len a:Int) (len b:Int)))
 (K fi [])
 (rec xM (KV 0 (len a:Int) a false b))):=by kernel_rfl
theorem UD{F:Int}{rec:bZ}{K:aW}{al M ae ao}{v1 v0}(cd:v1=fun a=>KV a al M ae ao)(b0:v0=gj (nth M (Int.toNat F) (z.H (z.list z.int))) (nth ao (Int.toNat F) (z.H (z.list z.int)))):b7 Bn tab Tryz.f33 0 K rec (cQ xM) (v1 F)=(
 J (aN F al)
 (((0:Int)<=F/\F<(len M:Int)) /\
 ((0:Int)<=F/\F<(len ao:Int)) /\
 List.length (nth M (Int.toNat F) (z.H (z.list z.int)))<=140737488355328 /\
 J (!v0)
 (K fi [])
 (rec xM (v1 (W (F+1)))))
 (K og [])):=by subst_vars;kernel_rfl

theorem SP(a b:cu)(ax:a.length=b.length)(av:a.length<=140737488355328)(aw:iJ a=true)(K:aW)(D:K (.one (ay (oa a b))) []):∀(d k:Nat),k+d=a.length->a.take k=b.take k ->
  cl Bn tab Tryz.f33 0 K (d+1) xM (KV (k:Int) (((len a):Nat):Int) a false b)
 |0,k,ad,bp=>by
  rw[bW (L:=xM),UD rfl rfl];refine co (by simp only[len];omega) ?_;rw[List.take_of_length_le (by omega),List.take_of_length_le (by omega)]at bp;rw[show oa a b=true from by simp[oa,bp]]at D;exact D
 |d+1,k,ad,bp=>by
  rw[bW (L:=xM),UD rfl rfl,cM];have aB:nth a k (z.H (.list .int))∈a:=by
   have:k<a.length:=by omega
   simp[nth,List.getD_eq_getElem?_getD,this]
  refine cS (by simp only[len];omega) ⟨⟨by omega,by simp only[len];omega⟩,⟨by omega,by simp only[len];omega⟩,by simpa using List.all_eq_true.1 aw _ aB,eF (fun dz=>?_) (fun heq=>?_)⟩
  ·rw[show oa a b=false from by
    simp only[gj,decide_eq_false_iff_not]at dz;simp only[oa,decide_eq_false_iff_not];rintro rfl;exact dz rfl]at D
   exact D
  ·rw[di (by omega)];simp only[gj,decide_eq_true_eq]at heq;refine SP a b ax av aw K D d (k+1) (by omega) ?_;rw[ie (by omega) (z.H (.list .int)),ie (by omega) (z.H (.list .int)),bp,heq]
theorem agk(a b:cu)(ag:a.length<=140737488355328/\iJ a=true)(K:aW)(D:K (.one (ay (oa a b))) []):∃m,cl Bn tab Tryz.f33 0 K m [.code (bF Tryz.f33)] (df [.one (cH a),.one (cH b),.one (.fn 34 [])] []):=by
 refine⟨a.length+2,?_⟩;rw[eO,afd _ _ _ _];refine bN (fun h=>?_) (fun h=>?_)
 ·rw[show oa a b=false from by simp only[oa,decide_eq_false_iff_not];rintro rfl;exact h rfl]at D;exact D
 ·exact SP a b (by simp only[len]at h;omega) ag.1 ag.2 K D a.length 0 (by omega) rfl
theorem ah7:bw 33 OZ:=hN adx Tryz.func33 (by kernel_rfl) (by
 intro vs ar p v dB h ag;unfold OZ at h;split at h
 ·split at h
  ·rename_i eP;have eP:=Nat.eq_of_beq_eq_true eP;subst eP;cases h;exact⟨by kernel_rfl,rfl,.inl (agk _ _ ag.1 _ ⟨rfl,rfl⟩)⟩
  ·cases h
 ·cases h)

def GI:bd
 |[.agg [.E .int eJ,.E .int e4,.E .int eo,.E (.list .target) dT,.E (.list (.list .int)) cU],.agg [.E .int HD,.E .int zh,.E .int zg,.E (.list .target) zf,.E (.list (.list .int)) Cs]],[]=>some (some (dT.length<=140737488355328/\cU.length<=140737488355328/\iJ cU=true),.one (ay (mJ ⟨eJ,⟨e4,eo,dT⟩,cU⟩ ⟨HD,⟨zh,zg,zf⟩,Cs⟩)),[])
 |_,_=>none

theorem WE:bw 31 GI:=b2 0 (((bv.f WD).f ah7).f aii) Tryz.func31 (by kernel_rfl) fun vs ar=>by
 unfold GI;split;rotate_left;trivial;rename_i eJ e4 eo dT cU HD zh zg zf Cs;refine⟨by kernel_rfl,fun ag K D=>?_⟩;obtain⟨fg,ft,hx⟩:=ag;refine⟨1,?_⟩;refine ck (fun rec=>(by kernel_rfl:_=(
  J (au eJ HD)
  (List.length dT<=140737488355328 /\
  J (((au e4 zh)&&(au eo zg))&&(fr mz dT zf))
  ((List.length cU<=140737488355328/\iJ cU=true) /\
  K (.one (ay (oa cU Cs))) [])
  (K fi []))
  (K fi [])))) ?_
 unfold mJ at D;simp only at D;refine cn (fun I=>⟨fg,cn (fun G=>⟨⟨ft,hx⟩,?_⟩) (fun G=>?_)⟩) (fun I=>?_)
 ·simp only[Bool.and_eq_true]at G;rw[I,G.1.1,G.1.2,G.2]at D;exact D
 ·have e:(au e4 zh&&(au eo zg&&(fr mz dT zf&&oa cU Cs)))=false:=by
   cases a:au e4 zh<;>cases b:au eo zg<;>cases c:fr mz dT zf<;>simp_all
  rw[I,e]at D;exact D
 ·rw[I]at D;exact D

def O0:bd
 |[.one (.E (.list .aU) a),.one (.E (.list .aU) b),.one (.fn f [])],[]=>(match Nat.beq f 31 with|true=>some (some (a.length<=140737488355328/\vx a=true),.one (ay (fr mJ a b)),[])|false=>none)
 |_,_=>none
def Bp:Ctx:=[(31,GI)]
theorem adz:fz Tryz.prog tab Bp:=(bv.f WE)
def xN:List cw:=[.inLoop [17,16,15,6,1,2] (Code.sub (bF Tryz.f30) [1,1,0,1,0,0]),.inBlock 0,.code (Code.sub (bF Tryz.f30) [1,1,1])]
def KW(F al:Int)(M:db)(ae:Bool)(ao:db):bP:=⟨[(17,.one (A F)),(16,.one (A al)),(15,.one (.E (z.list z.aU) M)),(6,.one (ay ae)),(1,.one (.E (z.list z.aU) ao)),(2,.one (.fn 31 []))],[],0⟩
theorem afe(a b:db)(rec:bZ)(K:aW):b7 Bp tab Tryz.f30 0 K rec [.code (bF Tryz.f30)] (df [.one (.E (z.list z.aU) a),.one (.E (z.list z.aU) b),.one (.fn 31 [])] [])=(
 J (!(au (len a:Int) (len b:Int)))
 (K fi [])
 (rec xN (KW 0 (len a:Int) a false b))):=by kernel_rfl
theorem UE{F:Int}{rec:bZ}{K:aW}{al M ae ao}{aC v0 v1}(cR:aC=fun a=>KW a al M ae ao)(b0:v0=iJ (nth M (Int.toNat F) (z.H z.aU)).cL)(cd:v1=mJ ⟨(nth M (Int.toNat F) (z.H z.aU)).n,⟨((nth M (Int.toNat F) (z.H z.aU)).r).version,((nth M (Int.toNat F) (z.H z.aU)).r).ca,((nth M (Int.toNat F) (z.H z.aU)).r).targets⟩,(nth M (Int.toNat F) (z.H z.aU)).cL⟩ ⟨(nth ao (Int.toNat F) (z.H z.aU)).n,⟨((nth ao (Int.toNat F) (z.H z.aU)).r).version,((nth ao (Int.toNat F) (z.H z.aU)).r).ca,((nth ao (Int.toNat F) (z.H z.aU)).r).targets⟩,(nth ao (Int.toNat F) (z.H z.aU)).cL⟩):b7 Bp tab Tryz.f30 0 K rec (cQ xN) (aC F)=(
 J (aN F al)
 (((0:Int)<=F/\F<(len M:Int)) /\
 ((0:Int)<=F/\F<(len ao:Int)) /\
 (List.length ((nth M (Int.toNat F) (z.H z.aU)).r).targets<=140737488355328/\List.length (nth M (Int.toNat F) (z.H z.aU)).cL<=140737488355328/\v0=true) /\
 J (!v1)
 (K fi [])
 (rec xN (aC (W (F+1)))))
 (K og [])):=by subst_vars;kernel_rfl

theorem SR(a b:db)(ax:a.length=b.length)(av:a.length<=140737488355328)(aw:vx a=true)(K:aW):∀(d k:Nat),k+d=a.length->K (.one (ay (fr mJ (a.drop k) (b.drop k)))) [] ->
  cl Bp tab Tryz.f30 0 K (d+1) xN (KW (k:Int) (((len a):Nat):Int) a false b)
 |0,k,ad,D=>by
  rw[bW (L:=xN),UE rfl rfl rfl];refine co (by simp only[len];omega) ?_;rw[List.drop_of_length_le (by omega),List.drop_of_length_le (by omega)]at D;exact D
 |d+1,k,ad,D=>by
  rw[bW (L:=xN),UE rfl rfl rfl,cM];have aB:nth a k (z.H .aU)∈a:=by
   have:k<a.length:=by omega
   simp[nth,List.getD_eq_getElem?_getD,this]
  rw[ep (l:=a) (by omega) (z.H .aU),ep (l:=b) (by omega) (z.H .aU)]at D;simp only[fr]at D;refine cS (by simp only[len];omega) ⟨⟨by omega,by simp only[len];omega⟩,⟨by omega,by simp only[len];omega⟩,aiX aw aB,eF (fun dz=>?_) (fun heq=>?_)⟩
  ·rw[show mJ (nth a k (z.H .aU)) (nth b k (z.H .aU))=false from dz]at D;exact D
  ·rw[di (by omega)];rw[show mJ (nth a k (z.H .aU)) (nth b k (z.H .aU))=true from heq,Bool.true_and]at D;exact SR a b ax av aw K d (k+1) (by omega) D
theorem agm(a b:db)(ag:a.length<=140737488355328/\vx a=true)(K:aW)(D:K (.one (ay (fr mJ a b))) []):∃m,cl Bp tab Tryz.f30 0 K m [.code (bF Tryz.f30)] (df [.one (.E (z.list z.aU) a),.one (.E (z.list z.aU) b),.one (.fn 31 [])] []):=by
 refine⟨a.length+2,?_⟩;rw[eO,afe _ _ _ _];refine bN (fun h=>?_) (fun h=>?_)
 ·rw[wy mJ a b (by simp only[len]at h;omega)]at D;exact D
 ·exact SR a b (by simp only[len]at h;omega) ag.1 ag.2 K a.length 0 (by omega) D
theorem ah8:bw 30 O0:=hN adz Tryz.func30 (by kernel_rfl) (by
 intro vs ar p v dB h ag;unfold O0 at h;split at h
 ·split at h
  ·rename_i eP;have eP:=Nat.eq_of_beq_eq_true eP;subst eP;cases h;exact⟨by kernel_rfl,rfl,.inl (agm _ _ ag.1 _ ⟨rfl,rfl⟩)⟩
  ·cases h
 ·cases h)

def GJ:bd
 |[.agg [.E (.list .str) aM,.E (.list .signed) vs,.E (.list .int) ws,.E .int fu,.E .bool up,.E .int ak,.E (.list .int) ah,.E .int aj,.E .int ai,.E (.list .bool) Y,.E (.list .bool) aa,.E (.list .aT) us,.E (.list .aU) cs,.E (.list .message) U,.E .int now],.agg [.E (.list .str) MN,.E (.list .signed) MP,.E (.list .int) qe,.E .int pB,.E .bool qc,.E .int vC,.E (.list .int) vy,.E .int vB,.E .int vA,.E (.list .bool) vG,.E (.list .bool) um,.E (.list .aT) ML,.E (.list .aU) Hz,.E (.list .message) JP,.E .int JT]],[]=>some (some (qa ⟨aM,vs,⟨⟨ws,fu⟩,up,⟨⟨ak,ah,aj⟩,ai⟩,Y,aa⟩,us,cs,U,now⟩=true),.one (ay (sd ⟨aM,vs,⟨⟨ws,fu⟩,up,⟨⟨ak,ah,aj⟩,ai⟩,Y,aa⟩,us,cs,U,now⟩ ⟨MN,MP,⟨⟨qe,pB⟩,qc,⟨⟨vC,vy,vB⟩,vA⟩,vG,um⟩,ML,Hz,JP,JT⟩)),[])
 |_,_=>none

theorem aij:bw 7 GJ:=b2 0 ((((((((bv.f WE).f ah8).f ahk).f Wj).f ah6).f ahw).f ah4).f ah5) Tryz.func7 (by kernel_rfl) fun vs ar=>by
 unfold GJ;split;rotate_left;trivial;rename_i aM vs ws fu up ak ah aj ai Y aa us cs U now MN MP qe pB qc vC vy vB vA vG um ML Hz JP JT;refine⟨by kernel_rfl,fun ag K D=>?_⟩;have S:=MC.1 ag;refine⟨1,?_⟩;refine ck (fun rec=>(by kernel_rfl:_=(
  List.length aM<=140737488355328 /\
  J (fr eqs aM MN)
  (List.length vs<=140737488355328 /\
  J (fr nK vs MP)
  ((List.length ws<=140737488355328/\List.length ah<=140737488355328/\len Y<=140737488355328/\len aa<=140737488355328) /\
  J (AN ⟨⟨ws,fu⟩,up,⟨⟨ak,ah,aj⟩,ai⟩,Y,aa⟩ ⟨⟨qe,pB⟩,qc,⟨⟨vC,vy,vB⟩,vA⟩,vG,um⟩)
  ((List.length us<=140737488355328/\tC us=true) /\
  J (fr mL us ML)
  (J (au now JT)
  ((List.length U<=140737488355328/\mj U=true) /\
  J (mK U JP)
  ((List.length cs<=140737488355328/\vx cs=true) /\
  K (.one (ay (fr mJ cs Hz))) [])
  (K fi []))
  (K fi []))
  (K fi []))
  (K fi []))
  (K fi []))
  (K fi [])))) ?_
 rw[agB]at D;simp only at D;refine⟨S.b,cn (fun a6=>⟨S.s,cn (fun I=>⟨⟨S.ws,S.aF,S.Y,S.aa⟩,cn (fun G=>⟨⟨S.us,S.u⟩,cn (fun ab=>cn (fun aV=>⟨⟨S.ns,S.m⟩,cn (fun br=>⟨⟨S.cs,S.c⟩,?_⟩) (fun br=>?_)⟩) (fun aV=>?_)) (fun ab=>?_)⟩) (fun G=>?_)⟩) (fun I=>?_)⟩) (fun a6=>?_)⟩
 ·rw[a6,I,G,ab,aV,br]at D;exact D
 ·rw[a6,I,G,ab,aV,br]at D;exact D
 ·rw[a6,I,G,ab,aV]at D;exact D
 ·rw[a6,I,G,ab]at D;exact D
 ·rw[a6,I,G]at D;exact D
 ·rw[a6,I]at D;exact D
 ·rw[a6]at D;exact D

def F5:bd
 |[.agg [.E (.list .int) ws,.E .int fu]],[]=>some (some (len ws*8<=140737488355328),.agg [af ws,A fu],[])
 |_,_=>none

theorem Ek:bw 87 F5:=b2 0 bv Tryz.func87 (by kernel_rfl) fun vs ar=>by
 unfold F5;split;rotate_left;trivial;rename_i ws fu;refine⟨by kernel_rfl,fun ag K D=>?_⟩;refine⟨1,?_⟩;refine ck (fun rec=>(by kernel_rfl:_=(
  (0+len ws)*8<=140737488355328 /\
  K (.agg [af (cat [] ws),A fu]) []))) ?_
 exact⟨by simp only[len]at ag |-; omega,D⟩

def Ge:bd
 |[.agg [.E (.list .int) ws,.E .int fu,.E .bool up,.E .int ak,.E (.list .int) ah,.E .int aj,.E .int ai,.E (.list .bool) Y,.E (.list .bool) aa]],[]=>some (some (len ws*8<=140737488355328/\len ah*8<=140737488355328/\len Y<=140737488355328/\len aa<=140737488355328),.agg [af ws,A fu,ay up,A ak,af ah,A aj,A ai,bj Y,bj aa],[])
 |_,_=>none

theorem ahG:bw 86 Ge:=b2 0 (bv.f Ek) Tryz.func86 (by kernel_rfl) fun vs ar=>by
 unfold Ge;split;rotate_left;trivial;rename_i ws fu up ak ah aj ai Y aa;refine⟨by kernel_rfl,fun ag K D=>?_⟩;refine⟨1,?_⟩;refine ck (fun rec=>(by kernel_rfl:_=(
  len ws*8<=140737488355328 /\
  (0+len ah)*8<=140737488355328 /\
  (0+len Y)*1<=140737488355328 /\
  (0+len aa)*1<=140737488355328 /\
  K (.agg [af ws,A fu,ay up,A ak,af (cat [] ah),A aj,A ai,bj (cat [] Y),bj (cat [] aa)]) []))) ?_
 exact⟨ag.1,by omega,by omega,by omega,D⟩

def GK:bd
 |[.agg [.E .int eJ,.E .int e4,.E .int eo,.E (.list .target) dT,.E (.list (.list .int)) cU]],[]=>some (some (vw ⟨eJ,⟨e4,eo,dT⟩,cU⟩=true),.agg [A eJ,A e4,A eo,.E (.list .target) dT,cH cU],[])
 |_,_=>none
def Nr:Ctx:=[]
def xS:List cw:=[.inLoop [16,15,14,3,2,1] (Code.sub (bF Tryz.f88) [1,1,1,0,1,0,0]),.inBlock 0,.code (Code.sub (bF Tryz.f88) [1,1,1,1])]
def K1(F al:Int)(M ae:cu)(ao aE aH aS aZ bc:Int)(bn:cu)(bo:LT)(bm:cu)(bC:LT):bP:=⟨[(16,.one (A F)),(15,.one (A al)),(14,.one (cH M)),(3,.one (.own 0)),(2,.one (.ptr 1 0)),(1,.one (.ptr 2 0))],[(0,.arr (z.list z.int) ae),(1,.box [A ao,A aE,A aH,.own 3,.own 4]),(2,.box [A aS,A aZ,A bc,.own 5,cH bn]),(3,.arr z.target bo),(4,.arr (z.list z.int) bm),(5,.arr z.target bC)],6⟩
theorem UM{F:Int}{ae:cu}{rec:bZ}{K:aW}{al M ao aE aH aS aZ bc bn bo bm bC}{v0}(b0:v0=fun a b=>K1 a al M b ao aE aH aS aZ bc bn bo bm bC):b7 Nr tab Tryz.f88 0 K rec (cQ xS) (v0 F ae)=(
 J (aN F al)
 (((0:Int)<=F/\F<(len M:Int)) /\
 (0+len (nth M (Int.toNat F) (z.H (z.list z.int))))*8<=140737488355328 /\
 (len ae+len (cat [] (nth M (Int.toNat F) (z.H (z.list z.int)))::[]))*24<=140737488355328 /\
 rec xS (v0 (W (F+1)) (cat ae (cat [] (nth M (Int.toNat F) (z.H (z.list z.int)))::[]))))
 (K (.agg [A aS,A aZ,A bc,.E (z.list z.target) bC,cH ae]) [])):=by subst_vars;kernel_rfl

theorem SV(eJ e4 eo:Int)(dT:LT)(cU:cu)(ag:vw ⟨eJ,⟨e4,eo,dT⟩,cU⟩=true)(K:aW)(D:K (.agg [A eJ,A e4,A eo,.E (z.list z.target) dT,cH cU]) []):∀(d k:Nat),k+d=cU.length ->
  cl Nr tab Tryz.f88 0 K (d+1) xS (K1 (k:Int) (((len cU):Nat):Int) cU (cU.take k) 0 0 0 eJ e4 eo cU [] [] (cat [] dT))
 |0,k,ad=>by
  rw[bW (L:=xS),UM rfl,show k=cU.length by omega,List.take_length];exact co (by simp only[len];omega) D
 |d+1,k,ad=>by
  obtain⟨_,G,ab⟩:=A1.1 ag;have I:=ab _ (h9 (l:=cU) (k:=k) (by omega) (z.H (z.list z.int)));simp only at I G;rw[bW (L:=xS),UM rfl,cM,di (by omega)];have e:cat (cU.take k) [cat [] (nth cU k (z.H (z.list z.int)))]=cU.take (k+1):=(ie (by omega) _).symm;rw[e];exact cS (by simp only[len];omega) ⟨⟨by omega,by simp only[len];omega⟩,by simp only[len];omega,by simp only[len,List.length_take,List.length_cons,List.length_nil];omega,SV eJ e4 eo dT cU ag K D d (k+1) (by omega)⟩
theorem aik:bw 88 GK:=b2 (Γ:=Nr) 0 bv Tryz.func88 (by kernel_rfl) fun vs ar=>by
 unfold GK;split;rotate_left;trivial;rename_i eJ e4 eo dT cU;refine⟨by kernel_rfl,fun ag K D=>?_⟩;refine⟨cU.length+2,?_⟩;refine ck (fun rec=>(by kernel_rfl:_=(
  (0+len dT)*24<=140737488355328 /\
  rec xS (K1 0 (len cU:Int) cU [] 0 0 0 eJ e4 eo cU [] [] (cat [] dT))))) ?_
 have I:=(A1.1 ag).1;simp only at I;exact⟨by simp only[len];omega,SV eJ e4 eo dT cU ag K D cU.length 0 (by omega)⟩

def GL:bd
 |[.agg [.E (.list .str) aM,.E (.list .signed) vs,.E (.list .int) ws,.E .int fu,.E .bool up,.E .int ak,.E (.list .int) ah,.E .int aj,.E .int ai,.E (.list .bool) Y,.E (.list .bool) aa,.E (.list .aT) us,.E (.list .aU) cs,.E (.list .message) U,.E .int now]],[]=>some (some (kt ⟨aM,vs,⟨⟨ws,fu⟩,up,⟨⟨ak,ah,aj⟩,ai⟩,Y,aa⟩,us,cs,U,now⟩=true),.agg (en aM vs ws fu up ak ah aj ai Y aa (.own 0) (.own 1) (.own 2) now),[.arr .aT us,.arr .aU cs,.arr .message U])
 |_,_=>none
def vT:Ctx:=[(86,Ge),(87,F5),(88,GK)]
def xT:List cw:=[.inLoop [29,28,27,3,2,1] (cZ oE [1,1,0,1,0,0]),.inBlock 0,.code (cZ oE [1,1,1])]
def K2(F al:Int)(M:c3)(ae:aJ)(ao:Int)(aE:Bool)(aH:Int)(aS:aJ)(aZ bc:Int)(bn bo:c9)(bm bC:Int)(bJ:Bool)(bI bM bz bS:Int)(bY:cB)(cq:cD)(cv:aJ)(cN:Int)(c0:Bool)(c5:Int)(dq:aJ)(dt dH:Int)(dI dr:c9)(dD:c3)(dx:db)(ea:cG)(dW:Int)(eb:cB)(ek:cD)(fj:c3)(fN:db)(gp:cG)(hc:cB)(gq:cD)(gM ig:aJ)(jR jS:c9)(jT:c3)(lI:db)(lJ:cG):bP:=⟨[(29,.one (A F)),(28,.one (A al)),(27,.one (.E (z.list z.aT) M)),(3,.one (.ptr 0 0)),(2,.one (.ptr 1 0)),(1,.one (.ptr 2 0))],[(0,.box [.own 3,.own 4,af ae,A ao,ay aE,A aH,af aS,A aZ,A bc,bj bn,bj bo,.own 5,.own 6,.own 7,A bm]),(1,.box [.own 8,.own 9,.own 10,A bC,ay bJ,A bI,.own 11,A bM,A bz,.own 12,.own 13,.own 14,.own 15,.own 16,A bS]),(2,.box [.E (z.list z.str) bY,.E (z.list z.signed) cq,af cv,A cN,ay c0,A c5,af dq,A dt,A dH,bj dI,bj dr,.E (z.list z.aT) dD,.E (z.list z.aU) dx,bB ea,A dW]),(3,.arr z.str eb),(4,.arr z.signed ek),(5,.arr z.aT fj),(6,.arr z.aU fN),(7,.arr z.message gp),(8,.arr z.str hc),(9,.arr z.signed gq),(10,.arr z.int gM),(11,.arr z.int ig),(12,.arr z.bool jR),(13,.arr z.bool jS),(14,.arr z.aT jT),(15,.arr z.aU lI),(16,.arr z.message lJ)],17⟩
def xU:List cw:=[.inLoop [47,46,45,3,2,1] (cZ oE [1,1,1,0,1,0,0]),.inBlock 2,.code (cZ oE [1,1,1,1])]
def K3(F al:Int)(M:db)(ae:aJ)(ao:Int)(aE:Bool)(aH:Int)(aS:aJ)(aZ bc:Int)(bn bo:c9)(bm bC:Int)(bJ:Bool)(bI bM bz bS:Int)(bY:cB)(cq:cD)(cv:aJ)(cN:Int)(c0:Bool)(c5:Int)(dq:aJ)(dt dH:Int)(dI dr:c9)(dD:c3)(dx:db)(ea:cG)(dW:Int)(eb:cB)(ek:cD)(fj:c3)(fN:db)(gp:cG)(hc:cB)(gq:cD)(gM ig:aJ)(jR jS:c9)(jT:c3)(lI:db)(lJ:cG):bP:=⟨[(47,.one (A F)),(46,.one (A al)),(45,.one (.E (z.list z.aU) M)),(3,.one (.ptr 0 0)),(2,.one (.ptr 1 0)),(1,.one (.ptr 2 0))],[(0,.box [.own 3,.own 4,af ae,A ao,ay aE,A aH,af aS,A aZ,A bc,bj bn,bj bo,.own 5,.own 6,.own 7,A bm]),(1,.box [.own 8,.own 9,.own 10,A bC,ay bJ,A bI,.own 11,A bM,A bz,.own 12,.own 13,.own 14,.own 15,.own 16,A bS]),(2,.box [.E (z.list z.str) bY,.E (z.list z.signed) cq,af cv,A cN,ay c0,A c5,af dq,A dt,A dH,bj dI,bj dr,.E (z.list z.aT) dD,.E (z.list z.aU) dx,bB ea,A dW]),(3,.arr z.str eb),(4,.arr z.signed ek),(5,.arr z.aT fj),(6,.arr z.aU fN),(7,.arr z.message gp),(8,.arr z.str hc),(9,.arr z.signed gq),(10,.arr z.int gM),(11,.arr z.int ig),(12,.arr z.bool jR),(13,.arr z.bool jS),(14,.arr z.aT jT),(15,.arr z.aU lI),(16,.arr z.message lJ)],17⟩
def xV:List cw:=[.inLoop [62,61,60,3,2] (cZ oE [1,1,1,1,0,1,0,0]),.inBlock 4,.code (cZ oE [1,1,1,1,1])]
def K4(F al:Int)(M:cG)(ae:aJ)(ao:Int)(aE:Bool)(aH:Int)(aS:aJ)(aZ bc:Int)(bn bo:c9)(bm bC:Int)(bJ:Bool)(bI bM bz bS:Int)(bY:cB)(cq:cD)(cv:c3)(cN:db)(c0:cG)(c5:cB)(dq:cD)(dt dH:aJ)(dI dr:c9)(dD:c3)(dx:db)(ea:cG):bP:=⟨[(62,.one (A F)),(61,.one (A al)),(60,.one (bB M)),(3,.one (.ptr 0 0)),(2,.one (.ptr 1 0))],[(0,.box [.own 2,.own 3,af ae,A ao,ay aE,A aH,af aS,A aZ,A bc,bj bn,bj bo,.own 4,.own 5,.own 6,A bm]),(1,.box [.own 7,.own 8,.own 9,A bC,ay bJ,A bI,.own 10,A bM,A bz,.own 11,.own 12,.own 13,.own 14,.own 15,A bS]),(2,.arr z.str bY),(3,.arr z.signed cq),(4,.arr z.aT cv),(5,.arr z.aU cN),(6,.arr z.message c0),(7,.arr z.str c5),(8,.arr z.signed dq),(9,.arr z.int dt),(10,.arr z.int dH),(11,.arr z.bool dI),(12,.arr z.bool dr),(13,.arr z.aT dD),(14,.arr z.aU dx),(15,.arr z.message ea)],16⟩
theorem UN{F:Int}{fj:c3}{rec:bZ}{K:aW}{al M ae ao aE aH aS aZ bc bn bo bm bC bJ bI bM bz bS bY cq cv cN c0 c5 dq dt dH dI dr dD dx ea dW eb ek fN gp hc gq gM ig jR jS jT lI lJ}{v0}(b0:v0=fun a b=>K2 a al M ae ao aE aH aS aZ bc bn bo bm bC bJ bI bM bz bS bY cq cv cN c0 c5 dq dt dH dI dr dD dx ea dW eb ek b fN gp hc gq gM ig jR jS jT lI lJ):ym vT tab oE 0 K rec (cQ xT) (v0 F fj)=(
 J (aN F al)
 (((0:Int)<=F/\F<(len M:Int)) /\
 len ((nth M (Int.toNat F) (z.H z.aT)).f).words*8<=140737488355328 /\
 (len fj+len ((⟨(nth M (Int.toNat F) (z.H z.aT)).f,(nth M (Int.toNat F) (z.H z.aT)).up,(nth M (Int.toNat F) (z.H z.aT)).n,(nth M (Int.toNat F) (z.H z.aT)).eE⟩:po)::[]))*56<=140737488355328 /\
 rec xT (v0 (W (F+1)) (cat fj ((⟨(nth M (Int.toNat F) (z.H z.aT)).f,(nth M (Int.toNat F) (z.H z.aT)).up,(nth M (Int.toNat F) (z.H z.aT)).n,(nth M (Int.toNat F) (z.H z.aT)).eE⟩:po)::[]))))
 (rec xU (K3 0 (len dx:Int) dx ae ao aE aH aS aZ bc bn bo bm bC bJ bI bM bz bS bY cq cv cN c0 c5 dq dt dH dI dr dD dx ea dW eb ek fj fN gp hc gq gM ig jR jS jT lI lJ))):=by subst_vars;kernel_rfl
theorem UO{F:Int}{fN:db}{rec:bZ}{K:aW}{al M ae ao aE aH aS aZ bc bn bo bm bC bJ bI bM bz bS bY cq cv cN c0 c5 dq dt dH dI dr dD dx ea dW eb ek fj gp hc gq gM ig jR jS jT lI lJ}{v1 v0}(cd:v1=fun a b=>K3 a al M ae ao aE aH aS aZ bc bn bo bm bC bJ bI bM bz bS bY cq cv cN c0 c5 dq dt dH dI dr dD dx ea dW eb ek fj b gp hc gq gM ig jR jS jT lI lJ)(b0:v0=vw ⟨(nth M (Int.toNat F) (z.H z.aU)).n,(nth M (Int.toNat F) (z.H z.aU)).r,(nth M (Int.toNat F) (z.H z.aU)).cL⟩):ym vT tab oE 0 K rec (cQ xU) (v1 F fN)=(
 J (aN F al)
 (((0:Int)<=F/\F<(len M:Int)) /\
 v0=true /\
 (len fN+len ((⟨(nth M (Int.toNat F) (z.H z.aU)).n,(nth M (Int.toNat F) (z.H z.aU)).r,(nth M (Int.toNat F) (z.H z.aU)).cL⟩:nx)::[]))*72<=140737488355328 /\
 rec xU (v1 (W (F+1)) (cat fN ((⟨(nth M (Int.toNat F) (z.H z.aU)).n,(nth M (Int.toNat F) (z.H z.aU)).r,(nth M (Int.toNat F) (z.H z.aU)).cL⟩:nx)::[]))))
 (rec xV (K4 0 (len ea:Int) ea ae ao aE aH aS aZ bc bn bo bm bC bJ bI bM bz bS eb ek fj fN gp hc gq gM ig jR jS jT lI lJ))):=by subst_vars;kernel_rfl
theorem UP{F:Int}{c0:cG}{rec:bZ}{K:aW}{al M ae ao aE aH aS aZ bc bn bo bm bC bJ bI bM bz bS bY cq cv cN c5 dq dt dH dI dr dD dx ea}{v0}(b0:v0=fun a b=>K4 a al M ae ao aE aH aS aZ bc bn bo bm bC bJ bI bM bz bS bY cq cv cN b c5 dq dt dH dI dr dD dx ea):ym vT tab oE 0 K rec (cQ xV) (v0 F c0)=(
 J (aN F al)
 (((0:Int)<=F/\F<(len M:Int)) /\
 (0+len (nth M (Int.toNat F) (z.H z.message)).words)*8<=140737488355328 /\
 (len c0+len ((⟨(nth M (Int.toNat F) (z.H z.message)).kind,(nth M (Int.toNat F) (z.H z.message)).unit,(nth M (Int.toNat F) (z.H z.message)).n,(nth M (Int.toNat F) (z.H z.message)).at_,(nth M (Int.toNat F) (z.H z.message)).image,cat [] (nth M (Int.toNat F) (z.H z.message)).words,(nth M (Int.toNat F) (z.H z.message)).yes⟩:fC)::[]))*72<=140737488355328 /\
 rec xV (v0 (W (F+1)) (cat c0 ((⟨(nth M (Int.toNat F) (z.H z.message)).kind,(nth M (Int.toNat F) (z.H z.message)).unit,(nth M (Int.toNat F) (z.H z.message)).n,(nth M (Int.toNat F) (z.H z.message)).at_,(nth M (Int.toNat F) (z.H z.message)).image,cat [] (nth M (Int.toNat F) (z.H z.message)).words,(nth M (Int.toNat F) (z.H z.message)).yes⟩:fC)::[]))))
 (K (.agg [.E (z.list z.str) bY,.E (z.list z.signed) cq,af ae,A ao,ay aE,A aH,af aS,A aZ,A bc,bj bn,bj bo,.own 0,.own 1,.own 2,A bm]) [.arr z.aT cv,.arr z.aU cN,.arr z.message c0])):=by subst_vars;kernel_rfl

theorem Si(aM:cB)(vs:cD)(ws:aJ)(fu:Int)(up:Bool)(ak:Int)(ah:aJ)(aj ai:Int)(Y aa:c9)(us:c3)(cs:db)(U:cG)(now:Int)(aP:yR ⟨aM,vs,⟨⟨ws,fu⟩,up,⟨⟨ak,ah,aj⟩,ai⟩,Y,aa⟩,us,cs,U,now⟩)(K:aW)(D:K (.agg (en aM vs ws fu up ak ah aj ai Y aa (.own 0) (.own 1) (.own 2) now)) [.arr z.aT us,.arr z.aU cs,.arr z.message U]):∀(d k:Nat),k+d=U.length ->
  pD vT tab oE 0 K (d+1) xV (K4 (k:Int) (((len U):Nat):Int) U ws fu up ak ah aj ai Y aa now 0 false 0 0 0 0 (cat [] aM) (cat [] vs) us cs (U.take k) [] [] [] [] [] [] [] [] [])
 |0,k,ad=>by
  rw[wG (L:=xV),UP rfl,show k=U.length by omega,List.take_length];exact co (by simp only[len];omega) D
 |d+1,k,ad=>by
  have I:=aP.m _ (h9 (l:=U) (k:=k) (by omega) (z.H z.message));have G:=aP.ns;simp only at I G;rw[wG (L:=xV),UP rfl,cM,di (by omega)];have e:cat (U.take k) [(⟨(nth U k (z.H z.message)).kind,(nth U k (z.H z.message)).unit,(nth U k (z.H z.message)).n,(nth U k (z.H z.message)).at_,(nth U k (z.H z.message)).image,cat [] (nth U k (z.H z.message)).words,(nth U k (z.H z.message)).yes⟩:fC)]=U.take (k+1):=(ie (by omega) _).symm;rw[e];exact cS (by simp only[len];omega) ⟨⟨by omega,by simp only[len];omega⟩,by simp only[len];omega,by simp only[len,List.length_take,List.length_cons,List.length_nil];omega,Si aM vs ws fu up ak ah aj ai Y aa us cs U now aP K D d (k+1) (by omega)⟩
theorem Sc(aM:cB)(vs:cD)(ws:aJ)(fu:Int)(up:Bool)(ak:Int)(ah:aJ)(aj ai:Int)(Y aa:c9)(us:c3)(cs:db)(U:cG)(now:Int)(aP:yR ⟨aM,vs,⟨⟨ws,fu⟩,up,⟨⟨ak,ah,aj⟩,ai⟩,Y,aa⟩,us,cs,U,now⟩)(K:aW)(D:K (.agg (en aM vs ws fu up ak ah aj ai Y aa (.own 0) (.own 1) (.own 2) now)) [.arr z.aT us,.arr z.aU cs,.arr z.message U]):∀(d k:Nat),k+d=cs.length ->
  pD vT tab oE 0 K (U.length+1+d+1) xU (K3 (k:Int) (((len cs):Nat):Int) cs ws fu up ak ah aj ai Y aa now 0 false 0 0 0 0 aM vs ws fu up ak ah aj ai Y aa us cs U now (cat [] aM) (cat [] vs) us (cs.take k) [] [] [] [] [] [] [] [] [] [])
 |0,k,ad=>by
  rw[wG (L:=xU),UO rfl rfl,show k=cs.length by omega,List.take_length];exact co (by simp only[len];omega) (Si aM vs ws fu up ak ah aj ai Y aa us cs U now aP K D U.length 0 (by omega))
 |d+1,k,ad=>by
  have I:=aP.c _ (h9 (l:=cs) (k:=k) (by omega) (z.H z.aU));have G:=aP.cs;simp only at I G;rw[show U.length+1+(d+1)+1=(U.length+1+d+1)+1 by omega,wG (L:=xU),UO rfl rfl,cM,di (by omega)];have e:cat (cs.take k) [(⟨(nth cs k (z.H z.aU)).n,⟨(nth cs k (z.H z.aU)).r.version,(nth cs k (z.H z.aU)).r.ca,(nth cs k (z.H z.aU)).r.targets⟩,(nth cs k (z.H z.aU)).cL⟩:nx)]=cs.take (k+1):=(ie (by omega) _).symm;rw[e];exact cS (by simp only[len];omega) ⟨⟨by omega,by simp only[len];omega⟩,I,by simp only[len,List.length_take,List.length_cons,List.length_nil];omega,Sc aM vs ws fu up ak ah aj ai Y aa us cs U now aP K D d (k+1) (by omega)⟩
theorem R4(aM:cB)(vs:cD)(ws:aJ)(fu:Int)(up:Bool)(ak:Int)(ah:aJ)(aj ai:Int)(Y aa:c9)(us:c3)(cs:db)(U:cG)(now:Int)(aP:yR ⟨aM,vs,⟨⟨ws,fu⟩,up,⟨⟨ak,ah,aj⟩,ai⟩,Y,aa⟩,us,cs,U,now⟩)(K:aW)(D:K (.agg (en aM vs ws fu up ak ah aj ai Y aa (.own 0) (.own 1) (.own 2) now)) [.arr z.aT us,.arr z.aU cs,.arr z.message U]):∀(d k:Nat),k+d=us.length ->
  pD vT tab oE 0 K (U.length+1+cs.length+1+d+1) xT (K2 (k:Int) (((len us):Nat):Int) us ws fu up ak ah aj ai Y aa now 0 false 0 0 0 0 aM vs ws fu up ak ah aj ai Y aa us cs U now (cat [] aM) (cat [] vs) (us.take k) [] [] [] [] [] [] [] [] [] [] [])
 |0,k,ad=>by
  rw[wG (L:=xT),UN rfl,show k=us.length by omega,List.take_length];exact co (by simp only[len];omega) (Sc aM vs ws fu up ak ah aj ai Y aa us cs U now aP K D cs.length 0 (by omega))
 |d+1,k,ad=>by
  have I:=aP.u _ (h9 (l:=us) (k:=k) (by omega) (z.H z.aT));have G:=aP.us;simp only at I G;rw[show U.length+1+cs.length+1+(d+1)+1=(U.length+1+cs.length+1+d+1)+1 by omega,wG (L:=xT),UN rfl,cM,di (by omega)];have e:cat (us.take k) [(⟨⟨(nth us k (z.H z.aT)).f.words,(nth us k (z.H z.aT)).f.fuel⟩,(nth us k (z.H z.aT)).up,(nth us k (z.H z.aT)).n,(nth us k (z.H z.aT)).eE⟩:po)]=us.take (k+1):=(ie (by omega) _).symm;rw[e];exact cS (by simp only[len];omega) ⟨⟨by omega,by simp only[len];omega⟩,by simp only[len];omega,by simp only[len,List.length_take,List.length_cons,List.length_nil];omega,R4 aM vs ws fu up ak ah aj ai Y aa us cs U now aP K D d (k+1) (by omega)⟩
theorem ail:bw 35 GL:=agw (Γ:=vT) 0 (((bv.f aik).f Ek).f ahG) Tryz.func35 (by kernel_rfl) fun vs ar=>by
 unfold GL;split;rotate_left;trivial;rename_i aM vs ws fu up ak ah aj ai Y aa us cs U now;refine⟨by kernel_rfl,fun ag K D=>?_⟩;have aP:=A2.1 ag;refine⟨U.length+1+cs.length+1+us.length+2,?_⟩;refine ZI (fun rec=>(by kernel_rfl:_=(
  (0+len aM)*16<=140737488355328 /\
  (0+len vs)*16<=140737488355328 /\
  (len ws*8<=140737488355328/\len ah*8<=140737488355328/\len Y<=140737488355328/\len aa<=140737488355328) /\
  rec xT (K2 0 (len us:Int) us ws fu up ak ah aj ai Y aa now 0 false 0 0 0 0 aM vs ws fu up ak ah aj ai Y aa us cs U now (cat [] aM) (cat [] vs) [] [] [] [] [] [] [] [] [] [] [] [])))) ?_
 have I:=aP.b;have G:=aP.s;have ab:=aP.ws;have aV:=aP.aF;have br:=aP.Y;have bV:=aP.aa;simp only at I G ab aV br bV;exact⟨by simp only[len];omega,by simp only[len];omega,⟨by simp only[len];omega,by simp only[len];omega,by simp only[len];omega,by simp only[len];omega⟩,R4 aM vs ws fu up ak ah aj ai Y aa us cs U now aP K D us.length 0 (by omega)⟩

def GN:bd
 |[.one (.E .int e)],[]=>some (none,.an [.agg (mv iI),.one (A e)],[])
 |_,_=>none

theorem ain:bw 36 GN:=b2 0 bv Tryz.func36 (by kernel_rfl) fun vs ar=>by
 unfold GN;split;rotate_left;trivial;rename_i e;refine⟨by kernel_rfl,fun K D=>?_⟩;refine⟨1,?_⟩;refine ck (fun rec=>(by kernel_rfl:_=(
  K (.an [.agg fU,.one (A e)]) []))) ?_
 exact D

def GO:bd
 |[.one (.E (.list .message) l),.one (.ptr 0 0)],[.box [.E (.list .str) aM,.E (.list .signed) vs,.E (.list .int) ws,.E .int fu,.E .bool up,.E .int ak,.E (.list .int) ah,.E .int aj,.E .int ai,.E (.list .bool) Y,.E (.list .bool) aa,.own 1,.own 2,.own 3,.E .int now],.arr .aT us,.arr .aU cs,.arr .message U]=>some (some (U.length<=1000/\l.length<=1000),.an [],[.box (kX (kO ⟨aM,vs,⟨⟨ws,fu⟩,up,⟨⟨ak,ah,aj⟩,ai⟩,Y,aa⟩,us,cs,U,now⟩ l) (.own 4) (.own 5) (.own 6)),.dead,.dead,.dead,.arr .aT (kO ⟨aM,vs,⟨⟨ws,fu⟩,up,⟨⟨ak,ah,aj⟩,ai⟩,Y,aa⟩,us,cs,U,now⟩ l).aL,.arr .aU (kO ⟨aM,vs,⟨⟨ws,fu⟩,up,⟨⟨ak,ah,aj⟩,ai⟩,Y,aa⟩,us,cs,U,now⟩ l).cp,.arr .message (kO ⟨aM,vs,⟨⟨ws,fu⟩,up,⟨⟨ak,ah,aj⟩,ai⟩,Y,aa⟩,us,cs,U,now⟩ l).U])
 |_,_=>none
def ES:Ctx:=[]
def vm:List cw:=[.inLoop [7,6,5,1] (Code.sub (bF Tryz.f37) [1,0,0]),.inBlock 0]
def K9(F al:Int)(M:cG)(ae:cB)(ao:cD)(aE:aJ)(aH:Int)(aS:Bool)(aZ:Int)(bc:aJ)(bn bo:Int)(bm bC:c9)(bJ:Int)(bI:c3)(bM:db)(bz:cG):bP:=⟨[(7,.one (A F)),(6,.one (A al)),(5,.one (bB M)),(1,.one (.ptr 0 0))],[(0,.box [.E (z.list z.str) ae,.E (z.list z.signed) ao,af aE,A aH,ay aS,A aZ,af bc,A bn,A bo,bj bm,bj bC,.own 4,.own 5,.own 6,A bJ]),(1,.dead),(2,.dead),(3,.dead),(4,.arr z.aT bI),(5,.arr z.aU bM),(6,.arr z.message bz)],7⟩
theorem afj(aM:cB)(vs:cD)(ws:aJ)(fu:Int)(up:Bool)(ak:Int)(ah:aJ)(aj ai:Int)(Y aa:c9)(us:c3)(cs:db)(U:cG)(now:Int)(l:cG)(rec:bZ)(K:aW):jP ES tab Tryz.f37 4 K rec [.code (bF Tryz.f37)] (qQ [.one (bB l),.one (.ptr 0 0)] [.box (en aM vs ws fu up ak ah aj ai Y aa (.own 1) (.own 2) (.own 3) now),.arr z.aT us,.arr z.aU cs,.arr z.message U])=(
 rec vm (K9 0 (len l:Int) l aM vs ws fu up ak ah aj ai Y aa now us cs U)):=by kernel_rfl
theorem UT{F:Int}{bz:cG}{rec:bZ}{K:aW}{al M ae ao aE aH aS aZ bc bn bo bm bC bJ bI bM}{v0}(b0:v0=fun a b=>K9 a al M ae ao aE aH aS aZ bc bn bo bm bC bJ bI bM b):jP ES tab Tryz.f37 4 K rec (cQ vm) (v0 F bz)=(
 J (aN F al)
 (((0:Int)<=F/\F<(len M:Int)) /\
 J (aN (len bz:Int) 24)
 ((len bz+len (((nth M (Int.toNat F) (z.H z.message)):fC)::[]))*72<=140737488355328 /\
 rec vm (v0 (W (F+1)) (cat bz (((nth M (Int.toNat F) (z.H z.message)):fC)::[]))))
 (rec vm (v0 (W (F+1)) bz)))
 (K (.an []) [.box [.E (z.list z.str) ae,.E (z.list z.signed) ao,af aE,A aH,ay aS,A aZ,af bc,A bn,A bo,bj bm,bj bC,.own 4,.own 5,.own 6,A bJ],.dead,.dead,.dead,.arr z.aT bI,.arr z.aU bM,.arr z.message bz])):=by subst_vars;kernel_rfl

theorem JD(l:cG)(ax:l.length<=1000)(aM:cB)(vs:cD)(ws:aJ)(fu:Int)(up:Bool)(ak:Int)(ah:aJ)(aj ai:Int)(Y aa:c9)(now:Int)(us:c3)(cs:db)(K:aW):∀(d k:Nat) (U:cG),k+d=l.length->U.length<=1000 ->
  K (.an []) [.box (en aM vs ws fu up ak ah aj ai Y aa (.own 4) (.own 5) (.own 6) now),.dead,.dead,.dead,.arr z.aT us,.arr z.aU cs,.arr z.message (hz U (l.drop k))] ->
  h5 ES tab Tryz.f37 4 K (d+1) vm (K9 (k:Int) (((len l):Nat):Int) l aM vs ws fu up ak ah aj ai Y aa now us cs U)
 |0,k,U,ad,aq,D=>by
  rw[kh (L:=vm),UT rfl];rw[List.drop_of_length_le (by omega),VX]at D;exact co (by simp only[len];omega) D
 |d+1,k,U,ad,aq,D=>by
  rw[kh (L:=vm),UT rfl,cM,di (by omega)];rw[ep (by omega) (z.H z.message),VW]at D;obtain⟨m,fe⟩:∃m,nth l k (z.H z.message)=m:=⟨_,rfl⟩
  rw[fe]at D |-;refine cS (by simp only[len];omega) ⟨⟨by omega,by simp only[len];omega⟩,bq (fun h=>⟨by simp only[len,List.length_cons,List.length_nil];omega,?_⟩) (fun h=>?_)⟩
  ·rw[if_pos (by simp only[len]at h;omega)]at D;exact JD l ax aM vs ws fu up ak ah aj ai Y aa now us cs K d (k+1) _ (by omega) (by simp only[cat,List.length_append,List.length_cons,List.length_nil];simp only[len]at h;omega) D
  ·rw[if_neg (by simp only[len]at h;omega)]at D;exact JD l ax aM vs ws fu up ak ah aj ai Y aa now us cs K d (k+1) _ (by omega) aq D
theorem aio:bw 37 GO:=sc (Γ:=ES) 4 bv Tryz.func37 (by kernel_rfl) fun vs ar=>by
 unfold GO;split;rotate_left;trivial;rename_i l aM vs ws fu up ak ah aj ai Y aa now us cs U;refine⟨by kernel_rfl,fun ag K D=>?_⟩;obtain⟨fg,ft⟩:=ag;refine⟨l.length+2,?_⟩;rw[qF,afj _ _ _ _ _ _ _ _ _ _ _ _ _ _ _ _ _ _];exact JD l ft aM vs ws fu up ak ah aj ai Y aa now us cs K l.length 0 U (by omega) fg D

def y8:bd
 |[.agg [.E (.list .int) ws,.E .int _]],[]=>some (some (64<=len ws/\len ws<=192/\cK ws=true),.an [.one (cH (fy ws)),.one (A (n5 (ed ws) (iy ws (ed ws)).2))],[])
 |_,_=>none
def vU:Ctx:=[(123,Cc)]
def x8:List cw:=[.inLoop [8,7,6,3,2,1] (cZ qC [1,1,1,1,0,0,0]),.inBlock 0,.code (cZ qC [1,1,1,1,1])]
def Lm(F al M:Int)(ae ao:cu)(aE:aJ)(aH:Int):bP:=⟨[(8,.one (A F)),(7,.one (A al)),(6,.one (.own 0)),(3,.one (A M)),(2,.one (.own 1)),(1,.one (.ptr 2 0))],[(0,.arr (z.list z.int) ae),(1,.arr (z.list z.int) ao),(2,.box [af aE,A aH])],3⟩
def p5:List cw:=[.inLoop [84,83,82,7,6,3,2] (cZ qC [1,1,1,1,1,0,1,0,0]),.inBlock 2,.code (cZ qC [1,1,1,1,1,1])]
def AD(F al:Int)(M:aJ)(ae ao:Int)(aE aH:cu):bP:=⟨[(84,.one (A F)),(83,.one (A al)),(82,.one (af M)),(7,.one (A ae)),(6,.one (.own 0)),(3,.one (A ao)),(2,.one (.own 1))],[(0,.arr (z.list z.int) aE),(1,.arr (z.list z.int) aH)],2⟩
theorem U7{al:Int}{ae:cu}{rec:bZ}{K:aW}{F M ao aE aH}{v0 v1}(b0:v0=fun a b=>Lm F a M b ao aE aH)(cd:v1=AD 0 (len (a2 aE (Int.toNat al) (Int.toNat F)):Int) (a2 aE (Int.toNat al) (Int.toNat F)) al M ae ao):b7 vU tab qC 0 K rec (cQ x8) (v0 al ae)=(
 J (aN al F)
 (((0:Int)<=al/\al<(len aE:Int)) /\
 J (dc 42241 (nth aE (Int.toNat al) (z.H z.int)))
 (((0:Int)<=al/\al<(len aE:Int)) /\
 J (dc (nth aE (Int.toNat al) (z.H z.int)) 42244)
 (((0:Int)<=al/\al<(len aE:Int)) /\
 J (aN (W (W (al+nth aE (Int.toNat al) (z.H z.int))-42240)) F)
 (((0:Int)<=al/\al<(len aE:Int)) /\
 ((0:Int)<=W (al+1)/\W (al+1)<=W (W (al+1)+W (nth aE (Int.toNat al) (z.H z.int)-42240))/\W (W (al+1)+W (nth aE (Int.toNat al) (z.H z.int)-42240))<=(len aE:Int)) /\
 (0+len (a2 aE (Int.toNat (W (al+1))) (Int.toNat (W (W (al+1)+W (nth aE (Int.toNat al) (z.H z.int)-42240))))))*8<=140737488355328 /\
 (len ae+len (cat [] (a2 aE (Int.toNat (W (al+1))) (Int.toNat (W (W (al+1)+W (nth aE (Int.toNat al) (z.H z.int)-42240)))))::[]))*24<=140737488355328 /\
 rec x8 (v0 (W (al+W ((1:Int)+W (nth aE (Int.toNat al) (z.H z.int)-42240)))) (cat ae (cat [] (a2 aE (Int.toNat (W (al+1))) (Int.toNat (W (W (al+1)+W (nth aE (Int.toNat al) (z.H z.int)-42240)))))::[]))))
 (((0:Int)<=al/\al<=F/\F<=(len aE:Int)) /\
 rec p5 v1))
 (((0:Int)<=al/\al<=F/\F<=(len aE:Int)) /\
 rec p5 v1))
 (((0:Int)<=al/\al<=F/\F<=(len aE:Int)) /\
 rec p5 v1))
 (((0:Int)<=al/\al<=F/\F<=(len aE:Int)) /\
 rec p5 v1)):=by subst_vars;kernel_rfl
theorem U8{F:Int}{rec:bZ}{K:aW}{al M ae ao aE aH}{v0}(b0:v0=fun a=>AD a al M ae ao aE aH):b7 vU tab qC 0 K rec (cQ p5) (v0 F)=(
 J (aN F al)
 (((0:Int)<=F/\F<(len M:Int)) /\
 J (!(au (nth M (Int.toNat F) (z.H z.int)) 65535))
 (K (.an [.one (cH aE),.one (A (-1))]) [])
 (rec p5 (v0 (W (F+1)))))
 (K (.an [.one (cH aE),.one (A ae)]) [])):=by subst_vars;kernel_rfl

theorem Py(ae ao:Int)(aE aH:cu)(K:aW)(t:aJ)(bl:t.length<=32)
  (D:K (.an [.one (cH aE),.one (A (if hg t then ae else -1))]) []):∀(d k:Nat),t.length<=k+d->k<=t.length->hg (t.take k)=true ->
  cl vU tab qC 0 K (d+1) p5 (AD (k:Int) (((len t):Nat):Int) t ae ao aE aH)
 |0,k,ad,jH,bp=>by
  rw[bW (L:=p5),U8 rfl];rw[List.take_of_length_le (by omega)]at bp;rw[if_pos bp]at D;exact co (by simp only[len];omega) D
 |d+1,k,ad,jH,bp=>by
  rw[bW (L:=p5),U8 rfl,cM]
  by_cases c:k=t.length
  ·rw[List.take_of_length_le (by omega)]at bp;rw[if_pos bp]at D;exact co (by simp only[len];omega) D
  refine cS (by simp only[len];omega) ⟨⟨by omega,by simp only[len];omega⟩,bN (fun dz=>?_) (fun heq=>?_)⟩
  ·rw[if_neg (by rw[show hg t=false from all_false (k:=k) (by omega) (z.H z.int) (by simpa using dz)];simp)]at D;exact D
  ·rw[di (by omega)];exact Py ae ao aE aH K t bl D d (k+1) (by omega) (by omega) (BC (by omega) (z.H z.int) bp (by simpa using heq))
theorem HV(ws:aJ)(sec:Nat)(pS:sec<=1)(ax:32*sec+32<=ws.length)(K:aW)(k:Nat)(ad:k<=31)(acc:cu)(M:Int)(ao:cu)(gx:Nat)
  (D:K (.an [.one (cH acc),.one (A (if hg ((fR ws sec).drop k)then 32*(sec:Int)+1+k else -1))]) []) :
  cl vU tab qC 0 K (gx+33) p5 (AD (0:Int) (((len (a2 ws (32*sec+1+k) (32*sec+32))):Nat):Int) (a2 ws (32*sec+1+k) (32*sec+32)) (((32*sec+1+k:Nat):Int)) M acc ao):=by
 have e:a2 ws (32*sec+1+k) (32*sec+32)=(fR ws sec).drop k:=by
  unfold fR p8 a2;rw[List.drop_drop,List.drop_drop];congr 1;omega
 rw[e];have iw:((fR ws sec).drop k).length<=32:=by rw[List.length_drop,tE ax];omega
 refine Py _ _ _ _ K _ iw ?_ (gx+32) 0 (by omega) (by omega) rfl;rw[show((32*sec+1+k:Nat):Int)=32*(sec:Int)+1+k by omega];exact D
theorem S4(ws:aJ)(fu:Int)(sec:Nat)(pS:sec<=1)(ax:32*sec+32<=ws.length)(gg:cK ws=true)(M:Int)(ao:cu)(K:aW):∀(m k:Nat) (acc:cu),k<=31->31<=m+k->acc.length<=k ->
  K (.an [.one (cH (acc++(e6 m ((fR ws sec).drop k)).1)),.one (A (match (e6 m ((fR ws sec).drop k)).2 with|some n=>32*(sec:Int)+1+k+n|none=>-1))]) [] ->
  cl vU tab qC 0 K (m+34) x8 (Lm (((32*sec+32:Nat):Int)) (((32*sec+1+k:Nat):Int)) M acc ao ws fu)
 |0,k,acc,ad,aB,bh,D=>by
  have:k=31:=by omega
  subst this;rw[show 0+34=33+1 by omega,bW (L:=x8),U7 rfl rfl,cM];try rw[cM]
  simp only[e6,List.append_nil]at D;refine co (by omega) ⟨⟨by omega,by omega,by simp only[len];omega⟩,HV ws sec pS ax K 31 (by omega) acc M ao 0 ?_⟩;rw[List.drop_of_length_le (by rw[tE ax];omega)];simpa[hg]using D
 |m+1,k,acc,ad,aB,bh,D=>by
  rw[show m+1+34=(m+34)+1 by omega,bW (L:=x8),U7 rfl rfl,cM];try rw[cM]
  by_cases c:k=31
  ·subst c;rw[List.drop_of_length_le (by rw[tE ax];omega)]at D;simp only[e6,List.append_nil]at D;refine co (by omega) ⟨⟨by omega,by omega,by simp only[len];omega⟩,HV ws sec pS ax K 31 (by omega) acc M ao (m+1) ?_⟩;rw[List.drop_of_length_le (by rw[tE ax];omega)];simpa[hg]using D
  have Xb:=tE ax;have CW:=ep (l:=fR ws sec) (k:=k) (by omega) (z.H z.int);have aa7:nth (fR ws sec) k (z.H z.int)=nth ws (32*sec+1+k) (z.H z.int):=yu ws sec k (by omega);rw[aa7]at CW;rw[CW]at D;obtain⟨x,aG⟩:∃x,nth ws (32*sec+1+k) (z.H z.int)=x:=⟨_,rfl⟩
  have Jg:=zx gg (32*sec+1+k);have rX:ws.getD (32*sec+1+k) 0=x:=aG;rw[rX]at Jg;rw[aG]at D CW |-;simp only[e6]at D;have out:gQ x=0\/¬gQ x<=((fR ws sec).drop (k+1)).length->(((0:Int)<=((32*sec+1+k:Nat):Int))/\((((32*sec+1+k:Nat):Int)<=((32*sec+32:Nat):Int))/\(((32*sec+32:Nat):Int)<=(((len ws):Nat):Int)))) /\
    cl vU tab qC 0 K (m+34) p5 (AD (0:Int) (((len (a2 ws (32*sec+1+k) (32*sec+32))):Nat):Int) (a2 ws (32*sec+1+k) (32*sec+32)) (((32*sec+1+k:Nat):Int)) M acc ao):=fun dn=>by
   refine⟨⟨by omega,by omega,by simp only[len];omega⟩,HV ws sec pS ax K k ad acc M ao (m+1) ?_⟩;rw[CW]
   by_cases bb:x=65535
   ·rw[if_pos bb]at D;have e:hg (x::(fR ws sec).drop (k+1))=hg ((fR ws sec).drop (k+1)):=by simp[hg,bb]
    rw[e];cases az:hg ((fR ws sec).drop (k+1))
    ·simpa[az]using D
    ·simpa[az]using D
   ·rw[if_neg bb]at D;have e:hg (x::(fR ws sec).drop (k+1))=false:=by simp[hg,bb]
    rw[e]
    by_cases cr:gQ x=0
    ·rw[if_pos cr]at D;simpa using D
    ·rw[if_neg cr,if_neg (dn.resolve_left cr)]at D;simpa using D
  have D6:((0:Int)<=((32*sec+1+k:Nat):Int))/\(((32*sec+1+k:Nat):Int)<(((len ws):Nat):Int)):=⟨by omega,by simp only[len];omega⟩
  refine cS (by omega) ⟨D6,cn (fun a1=>⟨D6,cn (fun bf=>⟨D6,?_⟩) (fun bf=>?_)⟩) (fun a1=>?_)⟩
  case refine_2=>exact out (.inl (by rw[eC]at bf;unfold gQ;rw[if_neg (by omega)]))
  case refine_3=>exact out (.inl (by rw[eC]at a1;unfold gQ;rw[if_neg (by omega)]))
  rw[fV]at a1 bf;obtain⟨n,aq⟩:∃n,gQ x=n:=⟨_,rfl⟩
  have Rs:x=42240+(n:Int)/\1<=n/\n<=4:=by unfold gQ at aq;rw[if_pos ⟨a1,bf⟩]at aq;omega
  obtain⟨Rs,ho,n4⟩:=Rs;have nZ:((fR ws sec).drop (k+1)).length=30-k:=by rw[List.length_drop,Xb];omega
  rw[cc (n:=((32*sec+1+k:Nat):Int)+x) (by omega) (by omega),cc (n:=((32*sec+1+k:Nat):Int)+x-42240) (by omega) (by omega)];refine bq (fun cj=>?_) (fun cj=>out (.inr (by rw[nZ,aq];omega)));rw[aq]at D;rw[if_neg (by omega),if_neg (by omega),if_pos (by rw[nZ];omega)]at D;rw[cc (n:=x-42240) (by omega) (by omega),show x-42240=(n:Int)by omega,cc (n:=((32*sec+1+k:Nat):Int)+1) (by omega) (by omega),cc (n:=((32*sec+1+k:Nat):Int)+1+(n:Int)) (by omega) (by omega),cc (n:=(1:Int)+(n:Int)) (by omega) (by omega),cc (n:=((32*sec+1+k:Nat):Int)+(1+(n:Int))) (by omega) (by omega)];rw[show Int.toNat (((32*sec+1+k:Nat):Int)+1)=32*sec+1+(k+1)by omega,show Int.toNat (((32*sec+1+k:Nat):Int)+1+(n:Int))=32*sec+1+(k+1)+n by omega,show((32*sec+1+k:Nat):Int)+(1+(n:Int))=((32*sec+1+(k+1+n):Nat):Int)by omega];have es:a2 ws (32*sec+1+(k+1)) (32*sec+1+(k+1)+n)=((fR ws sec).drop (k+1)).take n:=by
   refine zm (by rw[o5 _ _ _ (by omega),List.length_take,nZ];omega) fun i hi=>?_
   rw[o5 _ _ _ (by omega)]at hi;rw[o4 _ _ _ _ (by omega)];have aX:∀l:List Int,(l.take n).getD i 0=l.getD i 0:=fun l=>by simp only[List.getD_eq_getElem?_getD];rw[List.getElem?_take_of_lt hi]
   rw[aX,sA,yu _ _ _ (by omega),show 32*sec+1+(k+1+i)=32*sec+1+(k+1)+i by omega]
  rw[es];have mx:cat ([]:List Int) (((fR ws sec).drop (k+1)).take n)=((fR ws sec).drop (k+1)).take n:=rfl;rw[mx];refine⟨D6,⟨by omega,by omega,by simp only[len];omega⟩,by simp only[len,List.length_take];omega,by simp only[len,List.length_cons,List.length_nil];omega,?_⟩;refine S4 ws fu sec pS ax gg M ao K m (k+1+n) _ (by omega) (by omega) (by simp only[cat,List.length_append,List.length_cons,List.length_nil];omega) ?_;rw[List.drop_drop]at D;have gK:=D;simp only[cat,List.append_assoc,List.cons_append,List.nil_append]at gK |-;cases h7:(e6 m ((fR ws sec).drop (k+1+n))).2 with
  |none=>simpa[h7]using gK
  |some p =>
   simp only[h7,Option.map]at gK;rw[show 32*(sec:Int)+1+(k:Int)+((p+n+1:Nat):Int)=32*(sec:Int)+1+((k+1+n:Nat):Int)+(p:Int)by omega]at gK;exact gK
theorem Mo:bw 91 y8:=b2 (Γ:=vU) 0 (bv.f Mm) Tryz.func91 (by kernel_rfl) fun vs ar=>by
 unfold y8;split;rotate_left;trivial;rename_i ws fu;refine⟨by kernel_rfl,fun ag K D=>?_⟩;obtain⟨I,G,gg⟩:=ag;have av:=td ws;refine⟨32+34+1,?_⟩;refine ck (fun rec=>(by kernel_rfl:_=(
  64<=len ws /\
  rec x8 (Lm (W (W ((32:Int)*(((ed ws):Nat):Int))+32)) (W (W ((32:Int)*(((ed ws):Nat):Int))+1)) 0 [] [] ws fu)))) ?_
 unfold fy at D;obtain⟨s,nW⟩:∃s,ed ws=s:=⟨_,rfl⟩
 rw[nW]at D av |-;simp only[len]at I G;rw[cc (n:=32*(s:Int)) (by omega) (by omega),cc (n:=32*(s:Int)+32) (by omega) (by omega),cc (n:=32*(s:Int)+1) (by omega) (by omega)];refine⟨I,?_⟩;rw[show 32*(s:Int)+32=((32*s+32:Nat):Int)by omega,show 32*(s:Int)+1=((32*s+1+0:Nat):Int)by omega];refine S4 ws fu s av (by omega) gg 0 [] K 32 0 [] (by omega) (by omega) (by simp) ?_;rw[List.nil_append,List.drop_zero];rw[ai2 (by omega)]at D;cases h7:(e6 32 (fR ws s)).2 with
 |none =>
  simp only[h7,n5]at D;exact D
 |some p =>
  simp only[h7,n5]at D;simpa using D

def wc:bd
 |[.agg [.E (.list .int) ws,.E .int fu,.E .bool _,.E .int _,.E (.list .int) _,.E .int _,.E .int _,.E (.list .bool) _,.E (.list .bool) _]],[]=>some (some (dE ⟨ws,fu⟩=0),.agg [A (bL ⟨ws,fu⟩).n,A (bL ⟨ws,fu⟩).version,ay (bL ⟨ws,fu⟩).dv,ay (bL ⟨ws,fu⟩).abort,ay (bL ⟨ws,fu⟩).ended],[])
 |_,_=>none
def vQ:Ctx:=[(91,y8)]
def p3:List cw:=[.inLoop [19,18,17,5,3,2] (cZ qz [1,1,1,0,1,0,0]),.inBlock 0,.code (cZ qz [1,1,1,1])]
def DN(F al:Int)(M:cu)(ae:Int)(ao:cu)(aE aH:Int)(aS aZ bc:Bool):bP:=⟨[(19,.one (A F)),(18,.one (A al)),(17,.one (cH M)),(5,.one (A ae)),(3,.one (cH ao)),(2,.one (.ptr 0 0))],[(0,.box [A aE,A aH,ay aS,ay aZ,ay bc])],1⟩
def ib:List cw:=[.inLoop [73,72,71,8,2] (cZ qz [1,1,1,1,1,1,1,1,0,1,0,0]),.inBlock 2,.code (cZ qz [1,1,1,1,1,1,1,1,1])]
def DO(F al:Int)(M:cu)(ae ao:Int)(aE aH aS:Bool)(aZ bc:Int)(bn bo bm:Bool):bP:=⟨[(73,.one (A F)),(72,.one (A al)),(71,.one (cH M)),(8,.one (.ptr 0 0)),(2,.one (.ptr 1 0))],[(0,.box [A ae,A ao,ay aE,ay aH,ay aS]),(1,.box [A aZ,A bc,ay bn,ay bo,ay bm])],2⟩
theorem Um{F ae:Int}{rec:bZ}{K:aW}{al M ao aE aH aS aZ bc}{v0}(b0:v0=fun a b=>DN a al M b ao aE aH aS aZ bc):b7 vQ tab qz 0 K rec (cQ p3) (v0 F ae)=(
 J (aN F al)
 (((0:Int)<=F/\F<(len M:Int)) /\
 J (au (((len (nth M (Int.toNat F) (z.H (z.list z.int)))):Nat):Int) 3)
 (((0:Int)<=(0:Int)/\(0:Int)<(((len (nth M (Int.toNat F) (z.H (z.list z.int)))):Nat):Int)) /\
 J (au (nth (nth M (Int.toNat F) (z.H (z.list z.int))) (Int.toNat 0) (z.H z.int)) 1)
 (((0:Int)<=(1:Int)/\(1:Int)<(((len (nth M (Int.toNat F) (z.H (z.list z.int)))):Nat):Int)) /\
 J (dc 1 (nth (nth M (Int.toNat F) (z.H (z.list z.int))) (Int.toNat 1) (z.H z.int)))
 (((0:Int)<=(1:Int)/\(1:Int)<(((len (nth M (Int.toNat F) (z.H (z.list z.int)))):Nat):Int)) /\
 J (dc (nth (nth M (Int.toNat F) (z.H (z.list z.int))) (Int.toNat 1) (z.H z.int)) 8)
 (rec p3 (v0 (W (F+1)) F))
 (rec p3 (v0 (W (F+1)) ae)))
 (rec p3 (v0 (W (F+1)) ae)))
 (rec p3 (v0 (W (F+1)) ae)))
 (rec p3 (v0 (W (F+1)) ae)))
 (J (aN ae 0)
 (K (.agg [A (0:Int),A (0:Int),ay false,ay false,ay false]) [])
 (((0:Int)<=ae/\ae<(len ao:Int)) /\
 ((0:Int)<=(1:Int)/\(1:Int)<(((len (nth ao (Int.toNat ae) (z.H (z.list z.int)))):Nat):Int)) /\
 ((0:Int)<=ae/\ae<(len ao:Int)) /\
 ((0:Int)<=(2:Int)/\(2:Int)<(((len (nth ao (Int.toNat ae) (z.H (z.list z.int)))):Nat):Int)) /\
 J (au (nth (nth ao (Int.toNat ae) (z.H (z.list z.int))) (Int.toNat 1) (z.H z.int)) 0)
 (K (.agg [A (nth (nth ao (Int.toNat ae) (z.H (z.list z.int))) (Int.toNat 1) (z.H z.int)),A (nth (nth ao (Int.toNat ae) (z.H (z.list z.int))) (Int.toNat 2) (z.H z.int)),ay false,ay false,ay false]) [])
 (((0:Int)<=W (ae+1)/\W (ae+1)<=(len ao:Int)/\(len ao:Int)<=(len ao:Int)) /\
 rec ib (DO 0 (((len (a2 ao (Int.toNat (W (ae+1))) (Int.toNat (len ao:Int)))):Nat):Int) (a2 ao (Int.toNat (W (ae+1))) (Int.toNat (len ao:Int))) (nth (nth ao (Int.toNat ae) (z.H (z.list z.int))) (Int.toNat 1) (z.H z.int)) (nth (nth ao (Int.toNat ae) (z.H (z.list z.int))) (Int.toNat 2) (z.H z.int)) false false false aE aH aS aZ bc))))):=by subst_vars;kernel_rfl
theorem Un{F:Int}{aE aH aS:Bool}{rec:bZ}{K:aW}{al M ae ao aZ bc bn bo bm}{v0 v1 aC v3 v4 cf dK dF eG v9 v10}(b0:v0=fun a b c d=>DO a al M ae ao b c d aZ bc bn bo bm)(cd:v1=rec ib (v0 (W (F+1)) (!aH) (!(!aH)) true))(cR:aC=rec ib (v0 (W (F+1)) true (!true) true))(ef:v3=rec ib (v0 (W (F+1)) false false false))(e1:v4=rec ib (v0 (W (F+1)) (!aH) false false))(g5:cf=rec ib (v0 (W (F+1)) (!aH) false true))(km:dK=rec ib (v0 (W (F+1)) true false true))(iG:dF=rec ib (v0 (W (F+1)) false true true))(kI:eG=rec ib (v0 (W (F+1)) (!aH) true true))(j3:v9=rec ib (v0 (W (F+1)) true true true))(m9:v10=rec ib (v0 (W (F+1)) aE aH aS)):b7 vQ tab qz 0 K rec (cQ ib) (v0 F aE aH aS)=(
 J (aN F al)
 (((0:Int)<=F/\F<(len M:Int)) /\
 J (au (((len (nth M (Int.toNat F) (z.H (z.list z.int)))):Nat):Int) 2)
 (((0:Int)<=(1:Int)/\(1:Int)<(((len (nth M (Int.toNat F) (z.H (z.list z.int)))):Nat):Int)) /\
 J (au (nth (nth M (Int.toNat F) (z.H (z.list z.int))) (Int.toNat 1) (z.H z.int)) ae)
 (J aE
 (J aH
 (J aS
 v9
 (((0:Int)<=(0:Int)/\(0:Int)<(((len (nth M (Int.toNat F) (z.H (z.list z.int)))):Nat):Int)) /\
 J (au (nth (nth M (Int.toNat F) (z.H (z.list z.int))) (Int.toNat 0) (z.H z.int)) 4)
 v9
 (rec ib (v0 (W (F+1)) true true false))))
 (((0:Int)<=(0:Int)/\(0:Int)<(((len (nth M (Int.toNat F) (z.H (z.list z.int)))):Nat):Int)) /\
 J (au (nth (nth M (Int.toNat F) (z.H (z.list z.int))) (Int.toNat 0) (z.H z.int)) 3)
 (J aS
 aC
 (((0:Int)<=(0:Int)/\(0:Int)<(((len (nth M (Int.toNat F) (z.H (z.list z.int)))):Nat):Int)) /\
 J (au (nth (nth M (Int.toNat F) (z.H (z.list z.int))) (Int.toNat 0) (z.H z.int)) 4)
 aC
 (rec ib (v0 (W (F+1)) true (!true) false))))
 (J aS
 dK
 (((0:Int)<=(0:Int)/\(0:Int)<(((len (nth M (Int.toNat F) (z.H (z.list z.int)))):Nat):Int)) /\
 J (au (nth (nth M (Int.toNat F) (z.H (z.list z.int))) (Int.toNat 0) (z.H z.int)) 4)
 dK
 (rec ib (v0 (W (F+1)) true false false))))))
 (((0:Int)<=(0:Int)/\(0:Int)<(((len (nth M (Int.toNat F) (z.H (z.list z.int)))):Nat):Int)) /\
 J (au (nth (nth M (Int.toNat F) (z.H (z.list z.int))) (Int.toNat 0) (z.H z.int)) 2)
 (J aH
 (J aS
 eG
 (((0:Int)<=(0:Int)/\(0:Int)<(((len (nth M (Int.toNat F) (z.H (z.list z.int)))):Nat):Int)) /\
 J (au (nth (nth M (Int.toNat F) (z.H (z.list z.int))) (Int.toNat 0) (z.H z.int)) 4)
 (J (!aH)
 eG
 eG)
 (rec ib (v0 (W (F+1)) (!aH) true false))))
 (((0:Int)<=(0:Int)/\(0:Int)<(((len (nth M (Int.toNat F) (z.H (z.list z.int)))):Nat):Int)) /\
 J (au (nth (nth M (Int.toNat F) (z.H (z.list z.int))) (Int.toNat 0) (z.H z.int)) 3)
 (J aS
 v1
 (((0:Int)<=(0:Int)/\(0:Int)<(((len (nth M (Int.toNat F) (z.H (z.list z.int)))):Nat):Int)) /\
 J (au (nth (nth M (Int.toNat F) (z.H (z.list z.int))) (Int.toNat 0) (z.H z.int)) 4)
 (J (!aH)
 v1
 (rec ib (v0 (W (F+1)) (!aH) (!(!aH)) (!(!aH)))))
 (rec ib (v0 (W (F+1)) (!aH) (!(!aH)) false))))
 (J aS
 cf
 (((0:Int)<=(0:Int)/\(0:Int)<(((len (nth M (Int.toNat F) (z.H (z.list z.int)))):Nat):Int)) /\
 J (au (nth (nth M (Int.toNat F) (z.H (z.list z.int))) (Int.toNat 0) (z.H z.int)) 4)
 (J (!aH)
 cf
 v4)
 v4))))
 (J aH
 (J aS
 dF
 (((0:Int)<=(0:Int)/\(0:Int)<(((len (nth M (Int.toNat F) (z.H (z.list z.int)))):Nat):Int)) /\
 J (au (nth (nth M (Int.toNat F) (z.H (z.list z.int))) (Int.toNat 0) (z.H z.int)) 4)
 dF
 (rec ib (v0 (W (F+1)) false true false))))
 (((0:Int)<=(0:Int)/\(0:Int)<(((len (nth M (Int.toNat F) (z.H (z.list z.int)))):Nat):Int)) /\
 J (au (nth (nth M (Int.toNat F) (z.H (z.list z.int))) (Int.toNat 0) (z.H z.int)) 3)
 (J aS
 (rec ib (v0 (W (F+1)) false (!false) true))
 (((0:Int)<=(0:Int)/\(0:Int)<(((len (nth M (Int.toNat F) (z.H (z.list z.int)))):Nat):Int)) /\
 J (au (nth (nth M (Int.toNat F) (z.H (z.list z.int))) (Int.toNat 0) (z.H z.int)) 4)
 (rec ib (v0 (W (F+1)) false (!false) (!false)))
 (rec ib (v0 (W (F+1)) false (!false) false))))
 (J aS
 (rec ib (v0 (W (F+1)) false false true))
 (((0:Int)<=(0:Int)/\(0:Int)<(((len (nth M (Int.toNat F) (z.H (z.list z.int)))):Nat):Int)) /\
 J (au (nth (nth M (Int.toNat F) (z.H (z.list z.int))) (Int.toNat 0) (z.H z.int)) 4)
 v3
 v3))))))
 v10)
 v10)
 (K (.agg [A ae,A ao,ay aE,ay aH,ay aS]) [])):=by subst_vars;kernel_rfl

theorem Sa(p:cu)(ag:p.length<=1000)(aA:∀r∈p,¬pT r)(N pn:Int)(jF:N≠0)(K:aW)(aZ bc:Int)(bn bo bm:Bool)(q:Nat):∀(d k:Nat) (c a e:Bool),k+d=p.length ->
  K (.agg [A ((p.drop k).foldl gn ⟨N,pn,c,a,e⟩).n,A ((p.drop k).foldl gn ⟨N,pn,c,a,e⟩).version,ay ((p.drop k).foldl gn ⟨N,pn,c,a,e⟩).dv,ay ((p.drop k).foldl gn ⟨N,pn,c,a,e⟩).abort,ay ((p.drop k).foldl gn ⟨N,pn,c,a,e⟩).ended]) [] ->
  cl vQ tab qz 0 K (q+d+1) ib (DO (k:Int) (((len p):Nat):Int) p N pn c a e aZ bc bn bo bm)
 |0,k,c,a,e,ad,D=>by
  rw[bW (L:=ib),Un rfl rfl rfl rfl rfl rfl rfl rfl rfl rfl rfl];rw[List.drop_of_length_le (by omega)]at D;exact co (by simp only[len];omega) D
 |d+1,k,c,a,e,ad,D=>by
  rw[show q+(d+1)+1=(q+d+1)+1 by omega,bW (L:=ib),Un rfl rfl rfl rfl rfl rfl rfl rfl rfl rfl rfl,cM];have hbk:¬pT (nth p k (z.H (z.list z.int))):=aA _ (by
   have:nth p k (z.H (z.list z.int))=p[k]'(by omega):=by simp[nth,List.getD_eq_getElem?_getD,show k<p.length by omega]
   rw[this];exact List.getElem_mem _)
  rw[ep (by omega) (z.H (z.list z.int)),List.foldl_cons]at D;obtain⟨r,aw⟩:∃r,nth p k (z.H (z.list z.int))=r:=⟨_,rfl⟩
  rw[aw]at D hbk |-;rw[di (by omega),show Int.toNat (0:Int)=0 from rfl,show Int.toNat (1:Int)=1 from rfl,show nth r 0 (z.H z.int)=r.getD 0 0 from rfl,show nth r 1 (z.H z.int)=r.getD 1 0 from rfl];have go:∀fK et b8,gn ⟨N,pn,c,a,e⟩ r=⟨N,pn,fK,et,b8⟩->cl vQ tab qz 0 K (q+d+1) ib (DO ((k+1:Nat):Int) (((len p):Nat):Int) p N pn fK et b8 aZ bc bn bo bm):=fun fK et b8 h=>by
   rw[h]at D;exact Sa p ag aA N pn jF K aZ bc bn bo bm q d (k+1) fK et b8 (by omega) D
  refine cS (by simp only[len];omega) ⟨⟨by omega,by simp only[len];omega⟩,cz (fun I=>⟨⟨by omega,by omega⟩,cz (fun G=>?_) (fun G=>go _ _ _ (W2 hbk (.inr G)))⟩) (fun I=>go _ _ _ (W2 hbk (.inl (by simp only[len]at I;omega))))⟩;have XQ:r.length=2:=by simp only[len]at I;omega
  have gO:((0:Int)<=0)/\((0:Int)<(((len r):Nat):Int)):=⟨by omega,by omega⟩
  have st:=fun c a e=>aiU (N:=N) (V:=pn) (c:=c) (a:=a) (e:=e) XQ G jF
  clear D;obtain⟨hd,kE⟩:∃hd,r.getD 0 0=hd:=⟨_,rfl⟩
  simp only[kE]at st |-;cases c<;>cases a<;>cases e<;>simp only[J,Bool.not_true,Bool.not_false]
  all_goals
   repeat' first
    |(exfalso;omega)
    |exact go _ _ _ (by rw[st];simp[*])
    |(refine And.intro gO ?_)
    |(refine cz (fun _=>?_) (fun _=>?_))
theorem Jw(l:cu)(ax:l.length<=1000)(K:aW)(D:K (.agg [A (iK l).n,A (iK l).version,ay (iK l).dv,ay (iK l).abort,ay (iK l).ended]) []):∀(d k:Nat) (ae:Int),k+d=l.length ->
  ((ae=-1/\∀j,j<k->¬pT (l.getD j []))\/∃f:Nat,ae=f/\f<k/\pT (l.getD f [])/\∀j,f<j->j<k->¬pT (l.getD j [])) ->
  cl vQ tab qz 0 K (l.length+1+d+1) p3 (DN (k:Int) (((len l):Nat):Int) l ae l 0 0 false false false)
 |0,k,ae,ad,hi=>by
  rw[bW (L:=p3),Um rfl];have zO:k=l.length:=by omega
  subst zO;refine co (by simp only[len];omega) ?_;rcases hi with⟨I,G⟩|⟨f,I,G,ab,aV⟩
  ·subst I;refine cS (by omega) ?_;have:iK l=l8:=Qh l fun r aw=>by
    obtain⟨j,aR,rfl⟩:=List.getElem_of_mem aw;have:=G j aR;simpa[List.getD_eq_getElem?_getD,aR]using this
   rw[this]at D;exact D
  ·subst I;have e:nth l (Int.toNat (f:Int)) (z.H (z.list z.int))=l.getD f []:=rfl;rw[e];have aam:l=l.take f++l.getD f []::l.drop (f+1):=by
    conv=>lhs;rw[<- List.take_append_drop f l,ep G []]
    rfl
   have fJ:=aiL (l.take f) (l.drop (f+1)) ab;rw[<- aam]at fJ;rw[fJ]at D;obtain⟨b,aA⟩:∃b,l.getD f []=b:=⟨_,rfl⟩
   rw[aA]at ab D |-;obtain⟨iQ,jY,nD,kc⟩:=ab;have aaW:((len b:Nat):Int)=3:=by simp only[len];omega
   rw[aaW,show Int.toNat (1:Int)=1 from rfl,show Int.toNat (2:Int)=2 from rfl,show nth b 1 (z.H z.int)=b.getD 1 0 from rfl,show nth b 2 (z.H z.int)=b.getD 2 0 from rfl,di (by omega),cM,show Int.toNat ((len l:Nat):Int)=l.length from rfl,V1];refine co (by omega) ⟨⟨by omega,by simp only[len];omega⟩,⟨by omega,by omega⟩,⟨by omega,by simp only[len];omega⟩,⟨by omega,by omega⟩,iC (by omega) ⟨⟨by omega,by simp only[len];omega,by omega⟩,?_⟩⟩;have uE:(l.drop (f+1)).length<=l.length:=by simp
   have:=Sa (l.drop (f+1)) (by omega) (fun r aw=>by
    obtain⟨j,aR,rfl⟩:=List.getElem_of_mem aw;have:=aV (f+1+j) (by omega) (by simp at aR;omega);have CZ:f+1+j<l.length:=by simp at aR;omega
    simpa[List.getD_eq_getElem?_getD,CZ]using this) (b.getD 1 0) (b.getD 2 0) (by omega) K 0 0 false false false (l.length-(l.drop (f+1)).length) (l.drop (f+1)).length 0 false false false (by omega) D
   rw[show l.length-(l.drop (f+1)).length+(l.drop (f+1)).length+1=l.length+1 by omega]at this;exact this
 |d+1,k,ae,ad,hi=>by
  rw[show l.length+1+(d+1)+1=(l.length+1+d+1)+1 by omega,bW (L:=p3),Um rfl,cM];rw[di (by omega)];have e:nth l k (z.H (z.list z.int))=l.getD k []:=rfl;rw[e];obtain⟨r,aw⟩:∃r,l.getD k []=r:=⟨_,rfl⟩
  rw[aw,show Int.toNat (0:Int)=0 from rfl,show Int.toNat (1:Int)=1 from rfl,show nth r 0 (z.H z.int)=r.getD 0 0 from rfl,show nth r 1 (z.H z.int)=r.getD 1 0 from rfl];have no:¬pT r->cl vQ tab qz 0 K (l.length+1+d+1) p3 (DN ((k+1:Nat):Int) (((len l):Nat):Int) l ae l 0 0 false false false):=fun h=>by
   refine Jw l ax K D d (k+1) ae (by omega) ?_;have nP:∀j,j<k+1->(j<k->¬pT (l.getD j []))->¬pT (l.getD j []):=fun j aR g=>by
    by_cases c:j<k
    ·exact g c
    ·rw[show j=k by omega,aw];exact h
   rcases hi with⟨I,G⟩|⟨f,I,G,ab,aV⟩
   ·exact .inl ⟨I,fun j aR=>nP j aR (G j)⟩
   ·exact .inr ⟨f,I,by omega,ab,fun j a1 bf=>nP j bf (aV j a1)⟩
  refine cS (by simp only[len];omega) ⟨⟨by omega,by simp only[len];omega⟩,cz (fun I=>⟨⟨by omega,by omega⟩,cz (fun G=>⟨⟨by omega,by omega⟩,cn (fun ab=>⟨⟨by omega,by omega⟩,cn (fun aV=>?_) (fun aV=>no (fun g=>?_))⟩) (fun ab=>no (fun g=>?_))⟩) (fun G=>no (fun g=>G g.1))⟩) (fun I=>no (fun g=>I (by simp only[len];have:=g.2.1;omega)))⟩
  ·rw[fV]at ab aV;exact Jw l ax K D d (k+1) k (by omega) (.inr ⟨k,rfl,by omega,by rw[aw];exact⟨G,by simp only[len]at I;omega,ab,aV⟩,fun j a1 bf=>by omega⟩)
  ·rw[eC]at aV;have:=g.2.2.2;omega
  ·rw[eC]at ab;have:=g.2.2.1;omega
theorem yr:bw 39 wc:=b2 (Γ:=vQ) 0 (bv.f Mo) Tryz.func39 (by kernel_rfl) fun vs ar=>by
 unfold wc;split;rotate_left;trivial;rename_i ws fu up ak ah aj ai Y aa;refine⟨by kernel_rfl,fun ag K D=>?_⟩;obtain⟨bK,bX,_⟩:=nG ag;obtain⟨bA,_,_,du⟩:=jh bK;simp only at bX bA du;have aB:=(LF ws).2;refine⟨(fy ws).length+1+(fy ws).length+2,?_⟩;refine ck (fun rec=>(by kernel_rfl:_=(
  (64<=len ws/\len ws<=192/\cK ws=true) /\
  rec p3 (DN 0 (len (fy ws):Int) (fy ws) (-1) (fy ws) 0 0 false false false)))) ?_
 refine⟨⟨by simp only[len];omega,by have:=q1 bA;simp only[len];omega,du⟩,?_⟩;rw[Dz ag]at D;exact Jw (fy ws) (by omega) K D (fy ws).length 0 (-1) (by omega) (.inl ⟨rfl,fun j aR=>by omega⟩)

def Gb:bd
 |[.one (.E .int e)],[]=>some (none,.an [.agg [A 0,af [],A 0,A 0],.one (A e)],[])
 |_,_=>none

theorem ahD:bw 139 Gb:=b2 0 bv Tryz.func139 (by kernel_rfl) fun vs ar=>by
 unfold Gb;split;rotate_left;trivial;rename_i e;refine⟨by kernel_rfl,fun K D=>?_⟩;refine⟨1,?_⟩;refine ck (fun rec=>(by kernel_rfl:_=(
  K (.an [.agg [A (0:Int),af [],A (0:Int),A (0:Int)],.one (A e)]) []))) ?_
 exact D

def Ga:bd
 |[.one (.E .int e)],[]=>some (none,.an [.agg [A 0,af [],A 0,A 0],.one (A e)],[])
 |_,_=>none

theorem ahC:bw 172 Ga:=b2 0 bv Tryz.func172 (by kernel_rfl) fun vs ar=>by
 unfold Ga;split;rotate_left;trivial;rename_i e;refine⟨by kernel_rfl,fun K D=>?_⟩;refine⟨1,?_⟩;refine ck (fun rec=>(by kernel_rfl:_=(
  K (.an [.agg [A (0:Int),af [],A (0:Int),A (0:Int)],.one (A e)]) []))) ?_
 exact D

def Fy:bd
 |[.one (.E (.list .int) l)],[]=>some (some (len l<=1000/\jL l=true),.one (.E .str (fL l)),[])
 |_,_=>none
def EL:Ctx:=[(129,y9)]
def ve:List cw:=[.inLoop [8,7,6,3,2] (Code.sub (bF Tryz.f148) [1,1,0,1,0,0]),.inBlock 0,.code (Code.sub (bF Tryz.f148) [1,1,1])]
def Kg(F al:Int)(M:aJ)(ae ao:jx):bP:=⟨[(8,.one (A F)),(7,.one (A al)),(6,.one (af M)),(3,.one (.E z.str ae)),(2,.one (.E z.str ao))],[],0⟩
theorem aeE(l:aJ)(rec:bZ)(K:aW):b7 EL tab Tryz.f148 0 K rec [.code (bF Tryz.f148)] (df [.one (af l)] [])=(
 rec ve (Kg 0 (len l:Int) l [] [])):=by kernel_rfl
theorem TW{F:Int}{ae:jx}{rec:bZ}{K:aW}{al M ao}{v1 v0}(cd:v1=fun a b=>Kg a al M b ao)(b0:v0=fW (nth M (Int.toNat F) (z.H z.int))):b7 EL tab Tryz.f148 0 K rec (cQ ve) (v1 F ae)=(
 J (aN F al)
 (((0:Int)<=F/\F<(len M:Int)) /\
 J (aN 0 F)
 (len ae+len ((32:UInt8)::[])<=140737488355328 /\
 ((0:Int)<=nth M (Int.toNat F) (z.H z.int)/\nth M (Int.toNat F) (z.H z.int)<=9223372036854775807) /\
 len (cat ae ((32:UInt8)::[]))+len v0<=140737488355328 /\
 rec ve (v1 (W (F+1)) (cat (cat ae ((32:UInt8)::[])) v0)))
 (((0:Int)<=nth M (Int.toNat F) (z.H z.int)/\nth M (Int.toNat F) (z.H z.int)<=9223372036854775807) /\
 len ae+len v0<=140737488355328 /\
 rec ve (v1 (W (F+1)) (cat ae v0))))
 (K (.one (.E z.str ae)) [])):=by subst_vars;kernel_rfl

theorem Jz(l:aJ)(ax:l.length<=1000)(aq:jL l=true)(K:aW)(D:K (.one (.E .str (fL l))) [])(y:jx):∀(d k:Nat),k+d=l.length ->
  cl EL tab Tryz.f148 0 K (d+1) ve (Kg (k:Int) (((len l):Nat):Int) l (fL (l.take k)) y)
 |0,k,ad=>by
  rw[bW (L:=ve),TW rfl rfl,List.take_of_length_le (by omega)];exact co (by simp only[len];omega) D
 |d+1,k,ad=>by
  rw[bW (L:=ve),TW rfl rfl,cM];have aB:nth l k (z.H z.int)∈l:=by
   have:k<l.length:=by omega
   simp[nth,List.getD_eq_getElem?_getD,this]
  have bl:=ie (l:=l) (k:=k) (by omega) (z.H z.int);have a6:=rZ (l.take k);have lq:(l.take k).length=k:=by rw[List.length_take];omega
  obtain⟨x,aG⟩:∃x,nth l k (z.H z.int)=x:=⟨_,rfl⟩
  rw[aG]at aB bl |-;have I:=List.all_eq_true.1 aq _ aB;have G:=tm x;simp only[Bool.and_eq_true,decide_eq_true_eq]at I;have hv:W ((k:Int)+1)=((k+1:Nat):Int):=di (by omega);rw[hv];refine cS (by simp only[len];omega) ⟨⟨by omega,by simp only[len];omega⟩,bq (fun ab=>?_) (fun ab=>?_)⟩
  ·refine⟨by simp only[len,List.length_cons,List.length_nil];omega,I,by simp only[len,cat,List.length_append,List.length_cons,List.length_nil];omega,?_⟩;rw[show cat (cat (fL (l.take k)) [32]) (fW x)=fL (l.take (k+1))from by rw[bl,acx (by intro e;rw[e]at lq;simp at lq;omega)];rfl];exact Jz l ax aq K D y d (k+1) (by omega)
  ·have:k=0:=by omega
   subst this;refine⟨I,by simp only[len];omega,?_⟩;rw[show cat (fL (l.take 0)) (fW x)=fL (l.take (0+1))from by rw[bl];rfl];exact Jz l ax aq K D y d (0+1) (by omega)
theorem L1:bw 148 Fy:=b2 (Γ:=EL) 0 (bv.f ⟨⟨_,Tryz.func129,(by kernel_rfl)⟩,Eo⟩) Tryz.func148 (by kernel_rfl) fun vs ar=>by
 unfold Fy;split;rotate_left;trivial;rename_i l;refine⟨by kernel_rfl,fun ag K D=>?_⟩;refine⟨l.length+2,?_⟩;rw[eO,aeE _ _ _];exact Jz l ag.1 ag.2 K D [] l.length 0 (by omega)

def Fz:bd
 |[.agg [.E .int v,.E (.list .int) aF,.E .int t]],[]=>some (some (ht v aF t=0),.one (.E .str (jO v aF t)),[])
 |_,_=>none

theorem agW:bw 173 Fz:=b2 0 (bv.f L1) Tryz.func173 (by kernel_rfl) fun vs ar=>by
 unfold Fz;split;rotate_left;trivial;rename_i v aF t;refine⟨by kernel_rfl,fun ag K D=>?_⟩;refine⟨1,?_⟩;obtain⟨v1,cd⟩:∃v1,v1=fL (v::t::[]):=⟨_,rfl⟩
 refine ck (fun rec=>(by subst cd;kernel_rfl:_=(
  (len (v::t::[])<=1000/\jL (v::t::[])=true) /\
  len ((114:UInt8)::(111:UInt8)::(111:UInt8)::(116:UInt8)::(32:UInt8)::[])+len v1<=140737488355328 /\
  len (cat ((114:UInt8)::(111:UInt8)::(111:UInt8)::(116:UInt8)::(32:UInt8)::[]) v1)+len ((32:UInt8)::(111:UInt8)::(102:UInt8)::(32:UInt8)::[])<=140737488355328 /\
  (len aF<=1000/\jL aF=true) /\
  len (cat (cat ((114:UInt8)::(111:UInt8)::(111:UInt8)::(116:UInt8)::(32:UInt8)::[]) v1) ((32:UInt8)::(111:UInt8)::(102:UInt8)::(32:UInt8)::[]))+len (fL aF)<=140737488355328 /\
  K (.one (.E z.str (cat (cat (cat ((114:UInt8)::(111:UInt8)::(111:UInt8)::(116:UInt8)::(32:UInt8)::[]) v1) ((32:UInt8)::(111:UInt8)::(102:UInt8)::(32:UInt8)::[])) (fL aF)))) []))) ?_
 subst cd;obtain⟨I,G,ab,aV,br,bV⟩:=qq ag;have ho:=rZ [v,t];have iY:=rZ aF;simp only[List.length_cons,List.length_nil]at ho;refine⟨⟨by simp only[len,List.length_cons,List.length_nil];omega,by simp only[jL,List.all_cons,List.all_nil,Bool.and_true,Bool.and_eq_true,decide_eq_true_eq];omega⟩,by simp only[len,List.length_cons,List.length_nil];omega,by simp only[len,cat,List.length_append,List.length_cons,List.length_nil];omega,⟨by simp only[len];omega,bV⟩,by simp only[len,cat,List.length_append,List.length_cons,List.length_nil];omega,?_⟩;rw[acy];simpa[cat,jO]using D

def BN:bd
 |[.agg [.E (.list .str) l],.one (.E .str s)],[]=>some (some (l.length<=60),.one (A (fk s l+1)),[])
 |_,_=>none
def EK:Ctx:=[]
def xc:List cw:=[.inLoop [10,9,8,4,1] (Code.sub (bF Tryz.f97) [1,0,1,0,0]),.inBlock 0,.code (Code.sub (bF Tryz.f97) [1,1])]
def Kd(F al:Int)(M:cB)(ae:Int)(ao:jx):bP:=⟨[(10,.one (A F)),(9,.one (A al)),(8,.one (.E (z.list z.str) M)),(4,.one (A ae)),(1,.one (.E z.str ao))],[],0⟩
theorem aeD(l:cB)(s:jx)(rec:bZ)(K:aW):b7 EK tab Tryz.f97 0 K rec [.code (bF Tryz.f97)] (df [.agg [.E (z.list z.str) l],.one (.E z.str s)] [])=(
 rec xc (Kd 0 (len l:Int) l 0 s)):=by kernel_rfl
theorem TT{F:Int}{rec:bZ}{K:aW}{al M ae ao}{v0}(b0:v0=fun a=>Kd a al M ae ao):b7 EK tab Tryz.f97 0 K rec (cQ xc) (v0 F)=(
 J (aN F al)
 (((0:Int)<=F/\F<(len M:Int)) /\
 J (eqs (nth M (Int.toNat F) (z.H z.str)) ao)
 (K (.one (A (W (F+1)))) [])
 (rec xc (v0 (W (F+1)))))
 (K (.one (A 0)) [])):=by subst_vars;kernel_rfl

theorem Sp(l:cB)(s:jx)(ax:l.length<=60)(K:aW):∀(d k:Nat),k+d=l.length->K (.one (A (iH k s (l.drop k)+1))) [] ->
  cl EK tab Tryz.f97 0 K (d+1) xc (Kd (k:Int) (((len l):Nat):Int) l 0 s)
 |0,k,ad,D=>by
  rw[bW (L:=xc),TT rfl];rw[List.drop_of_length_le (by omega)]at D;exact co (by simp only[len];omega) D
 |d+1,k,ad,D=>by
  rw[bW (L:=xc),TT rfl,cM,di (by omega)];rw[ep (by omega) (z.H z.str)]at D;simp only[iH]at D;refine cS (by simp only[len];omega) ⟨⟨by omega,by simp only[len];omega⟩,cn (fun h=>?_) (fun h=>?_)⟩
  ·rw[HQ]at h;rw[if_pos h]at D;exact D
  ·rw[HP]at h;rw[if_neg h]at D;exact Sp l s ax K d (k+1) (by omega) D
theorem LZ:bw 97 BN:=b2 (Γ:=EK) 0 bv Tryz.func97 (by kernel_rfl) fun vs ar=>by
 unfold BN;split;rotate_left;trivial;rename_i l s;refine⟨by kernel_rfl,fun ag K D=>?_⟩;refine⟨l.length+2,?_⟩;rw[eO,aeD _ _ _ _];exact Sp l s ag K l.length 0 (by omega) D

def B2:bd
 |[.one (.E (.list .signed) l),.agg [.E .int v,.E (.list .int) aF,.E .int t],.one (.E (.list .int) a7),.one (.E .int n)],[]=>some (none,.an [.one (A (ir l ⟨v,aF,t⟩ a7 n).1),.one (A (ir l ⟨v,aF,t⟩ a7 n).2)],[])
 |_,_=>none
def vP:Ctx:=[(14,B0),(124,BO)]
def vf:List cw:=[.inLoop [37,36,35,12,9,8,5,2,3] (cZ oB [1,1,1,1,1,0,1,0,0]),.inBlock 0,.code (cZ oB [1,1,1,1,1,1])]
def Kz(F al:Int)(M:cD)(ae ao:Int)(aE:aJ)(aH:Int)(aS:aJ)(aZ:Int)(bc:aJ)(bn:Int):bP:=⟨[(37,.one (A F)),(36,.one (A al)),(35,.one (.E (z.list z.signed) M)),(12,.one (.mp 0)),(9,.one (A ae)),(8,.one (A ao)),(5,.one (.ptr 1 0)),(2,.one (af aE)),(3,.one (A aH))],[(0,.set aS),(1,.box [A aZ,af bc,A bn])],2⟩
def xx:List cw:=[.inLoop [52,51,50,15,12,9,8,5] (cZ oB [1,1,1,1,1,1,1,0,1,0,0]),.inBlock 2,.code (cZ oB [1,1,1,1,1,1,1,1])]
def KA(F al:Int)(M:aJ)(ae ao:Int)(aE aH:aJ)(aS:Int)(aZ:aJ)(bc:Int):bP:=⟨[(52,.one (A F)),(51,.one (A al)),(50,.one (af M)),(15,.one (.mp 0)),(12,.one (.mp 1)),(9,.one (A ae)),(8,.one (A ao)),(5,.one (.ptr 2 0))],[(0,.set aE),(1,.set aH),(2,.box [A aS,af aZ,A bc])],3⟩
def tu:List cw:=[.inLoop [62,61,60,18,15,12,9,8] (cZ oB [1,1,1,1,1,1,1,1,1,0,1,0,0]),.inBlock 4,.code (cZ oB [1,1,1,1,1,1,1,1,1,1])]
def KB(F al:Int)(M:aJ)(ae ao aE:Int)(aH aS:aJ):bP:=⟨[(62,.one (A F)),(61,.one (A al)),(60,.one (af M)),(18,.one (A ae)),(15,.one (.mp 0)),(12,.one (.mp 1)),(9,.one (A ao)),(8,.one (A aE))],[(0,.set aH),(1,.set aS)],2⟩
theorem Uh{F:Int}{aS:aJ}{rec:bZ}{K:aW}{al M ae ao aE aH aZ bc bn}{v1 v0}(cd:v1=fun a b=>Kz a al M ae ao aE aH b aZ bc bn)(b0:v0=nc (nth M (Int.toNat F) (z.H z.signed)).key aS):b7 vP tab oB 0 K rec (cQ vf) (v1 F aS)=(
 J (aN F al)
 (((0:Int)<=F/\F<(len M:Int)) /\
 J (au (nth M (Int.toNat F) (z.H z.signed)).name aH)
 (rec vf (v1 (W (F+1)) v0))
 (rec vf (v1 (W (F+1)) aS)))
 (rec xx (KA 0 (len aE:Int) aE ae ao [] aS aZ bc bn))):=by subst_vars;kernel_rfl
theorem Ui{F:Int}{aE:aJ}{rec:bZ}{K:aW}{al M ae ao aH aS aZ bc}{v1 v0}(cd:v1=fun a b=>KA a al M ae ao b aH aS aZ bc)(b0:v0=nc (nth M (Int.toNat F) (z.H z.int)) aE):b7 vP tab oB 0 K rec (cQ xx) (v1 F aE)=(
 J (aN F al)
 (((0:Int)<=F/\F<(len M:Int)) /\
 rec xx (v1 (W (F+1)) v0))
 (rec tu (KB 0 (len aZ:Int) aZ 0 ae ao aE aH))):=by subst_vars;kernel_rfl
theorem Uj{F ae:Int}{rec:bZ}{K:aW}{al M ao aE aH aS}{aC v0 v1}(cR:aC=fun a b=>KB a al M b ao aE aH aS)(b0:v0=ln (nth M (Int.toNat F) (z.H z.int)) aS)(cd:v1=ln (nth M (Int.toNat F) (z.H z.int)) aH):b7 vP tab oB 0 K rec (cQ tu) (aC F ae)=(
 J (aN F al)
 (((0:Int)<=F/\F<(len M:Int)) /\
 J v0
 (J v1
 (rec tu (aC (W (F+1)) (W (ae+1))))
 (rec tu (aC (W (F+1)) ae)))
 (rec tu (aC (W (F+1)) ae)))
 (K (.an [.one (A ae),.one (A 0)]) [])):=by subst_vars;kernel_rfl

theorem Qz(x k:Int)(aF:aJ):ln x (nc k aF)=(decide (k=x)||ln x aF):=by
 unfold nc
 by_cases h:ln k aF=true
 ·rw[h];simp only
  by_cases c:k=x
  ·subst c;rw[h];simp
  ·simp[c]
 ·rw[(Bool.not_eq_true _).mp h];simp only[ln]
  by_cases c:k=x
  ·subst c;simp
  ·simp[c];exact fun e=>absurd e.symm c
theorem Z8(x y:Int)(l:aJ):qJ x (l++[y])=(decide (y=x)||qJ x l):=by
 simp only[qJ,List.any_append,List.any_cons,List.any_nil,Bool.or_false];exact Bool.or_comm _ _
theorem Dr(l:cD)(aF a7:aJ)(n:Int)(m5:aF.length<=6)(S aP:aJ)(dw:∀x,ln x S=qJ x a7)(nN:∀x,ln x aP=mA x n l)(K:aW)(ao aE:Int):∀(d k c:Nat),k+d=aF.length->c<=k->K (.an [.one (A ((c+mW l a7 n (aF.drop k):Nat):Int)),.one (A 0)]) [] ->
  cl vP tab oB 0 K (d+1) tu (KB (k:Int) (((len aF):Nat):Int) aF (c:Int) ao aE S aP)
 |0,k,c,ad,az,D=>by
  rw[bW (L:=tu),Uj rfl rfl rfl];rw[List.drop_of_length_le (by omega)]at D;exact co (by simp only[len];omega) D
 |d+1,k,c,ad,az,D=>by
  rw[bW (L:=tu),Uj rfl rfl rfl,cM];rw[ep (by omega) (z.H z.int),PA]at D;obtain⟨x,aG⟩:∃x,nth aF k (z.H z.int)=x:=⟨_,rfl⟩
  rw[aG]at D |-;rw[di (k:=k) (by omega),di (k:=c) (by omega)];have no:oc l a7 n x=false->K (.an [.one (A ((c+mW l a7 n (aF.drop (k+1)):Nat):Int)),.one (A 0)]) []:=fun h=>by
   rw[if_neg (by rw[h];simp),Nat.zero_add]at D;exact D
  rw[nN x,dw x];refine cS (by simp only[len];omega) ⟨⟨by omega,by simp only[len];omega⟩,cn (fun h=>cn (fun G=>?_) (fun G=>?_)) (fun h=>?_)⟩
  ·rw[if_pos (show oc l a7 n x=true from by simp[oc,h,G])]at D;exact Dr l aF a7 n m5 S aP dw nN K ao aE d (k+1) (c+1) (by omega) (by omega) (by rw[show c+1+mW l a7 n (aF.drop (k+1))=c+(1+mW l a7 n (aF.drop (k+1)))by omega];exact D)
  ·exact Dr l aF a7 n m5 S aP dw nN K ao aE d (k+1) c (by omega) (by omega) (no (by simp[oc,G]))
  ·exact Dr l aF a7 n m5 S aP dw nN K ao aE d (k+1) c (by omega) (by omega) (no (by simp[oc,h]))
theorem R9(l:cD)(v:Int)(aF:aJ)(t:Int)(a7:aJ)(n:Int)(m5:aF.length<=6)(av:a7.length<=50)(aP:aJ)(nN:∀x,ln x aP=mA x n l)(K:aW)(ao aE:Int)(D:K (.an [.one (A ((mW l a7 n aF:Nat):Int)),.one (A 0)]) []):∀(d k:Nat) (S:aJ),k+d=a7.length->(∀x,ln x S=qJ x (a7.take k)) ->
  cl vP tab oB 0 K (aF.length+1+d+1) xx (KA (k:Int) (((len a7):Nat):Int) a7 ao aE S aP v aF t)
 |0,k,S,ad,dw=>by
  rw[bW (L:=xx),Ui rfl rfl];rw[List.take_of_length_le (by omega)]at dw;exact co (by simp only[len];omega) (Dr l aF a7 n m5 S aP dw nN K ao aE aF.length 0 0 (by omega) (by omega) (by rw[Nat.zero_add];exact D))
 |d+1,k,S,ad,dw=>by
  rw[show aF.length+1+(d+1)+1=(aF.length+1+d+1)+1 by omega,bW (L:=xx),Ui rfl rfl,cM];rw[di (k:=k) (by omega)];refine cS (by simp only[len];omega) ⟨⟨by omega,by simp only[len];omega⟩,?_⟩;exact R9 l v aF t a7 n m5 av aP nN K ao aE D d (k+1) _ (by omega) (fun x=>by rw[Qz,ie (by omega) (z.H z.int),Z8,dw x])
theorem JA(l:cD)(v:Int)(aF:aJ)(t:Int)(a7:aJ)(n:Int)(m5:aF.length<=6)(ax:l.length<=360)(av:a7.length<=50)(K:aW)(ao aE:Int)(D:K (.an [.one (A ((mW l a7 n aF:Nat):Int)),.one (A 0)]) []):∀(d k:Nat) (aP:aJ),k+d=l.length->(∀x,ln x aP=mA x n (l.take k)) ->
  cl vP tab oB 0 K (aF.length+1+a7.length+1+d+1) vf (Kz (k:Int) (((len l):Nat):Int) l ao aE a7 n aP v aF t)
 |0,k,aP,ad,nN=>by
  rw[bW (L:=vf),Uh rfl rfl];rw[List.take_of_length_le (by omega)]at nN;exact co (by simp only[len];omega) (R9 l v aF t a7 n m5 av aP nN K ao aE D a7.length 0 [] (by omega) (fun x=>rfl))
 |d+1,k,aP,ad,nN=>by
  rw[show aF.length+1+a7.length+1+(d+1)+1=(aF.length+1+a7.length+1+d+1)+1 by omega,bW (L:=vf),Uh rfl rfl,cM];rw[di (k:=k) (by omega)];have bl:∀x,mA x n (l.take (k+1))=(mA x n (l.take k)||qR x n (nth l k (z.H z.signed))):=fun x=>by
   rw[ie (by omega) (z.H z.signed),Z9];simp[mA]
  obtain⟨y,ct⟩:∃y,nth l k (z.H z.signed)=y:=⟨_,rfl⟩
  rw[ct]at bl |-;refine cS (by simp only[len];omega) ⟨⟨by omega,by simp only[len];omega⟩,cz (fun h=>?_) (fun h=>?_)⟩
  ·refine JA l v aF t a7 n m5 ax av K ao aE D d (k+1) _ (by omega) (fun x=>?_);rw[Qz,bl x,nN x,Bool.or_comm];congr 1;simp only[qR,au,h,Bool.and_true,decide_true]
   by_cases c:y.key=x
   ·simp[c]
   ·simp[c,Ne.symm c]
  ·refine JA l v aF t a7 n m5 ax av K ao aE D d (k+1) _ (by omega) (fun x=>?_);rw[bl x,nN x];have:qR x n y=false:=by
    simp only[qR,au,Bool.and_true,Bool.and_eq_false_iff,decide_eq_false_iff_not];exact .inr (fun e=>h e.symm)
   rw[this,Bool.or_false]
theorem Wt:bw 141 B2:=b2 (Γ:=vP) 0 ((bv.f L0).f Ws) Tryz.func141 (by kernel_rfl) fun vs ar=>by
 unfold B2;split;rotate_left;trivial;rename_i l v aF t a7 n;refine⟨by kernel_rfl,fun K D=>?_⟩;refine⟨aF.length+1+a7.length+1+l.length+2,?_⟩;refine ck (fun rec=>(by kernel_rfl:_=(
  J (!(au (iq l) 0))
  (K (.an [.one (A 0),.one (A (iq l))]) [])
  (J (!(au (ht v aF t) 0))
  (K (.an [.one (A 0),.one (A (ht v aF t))]) [])
  (J (aN 50 (len a7:Int))
  (K (.an [.one (A 0),.one (A 2)]) [])
  (rec vf (Kz 0 (len l:Int) l 0 0 a7 n [] v aF t))))))) ?_
 unfold ir at D;simp only at D;refine bN (fun h=>?_) (fun h=>bN (fun G=>?_) (fun G=>bq (fun ab=>?_) (fun ab=>?_)))
 ·rw[if_neg h]at D;exact D
 ·rw[if_pos h,if_neg G]at D;exact D
 ·rw[if_pos h,if_pos G,if_pos (by simp only[len]at ab;omega)]at D;exact D
 ·rw[if_pos h,if_pos G,if_neg (by simp only[len]at ab;omega)]at D;exact JA l v aF t a7 n (qq G).2.2.2.2.1 (Co h).1 (by simp only[len]at ab;omega) K 0 0 D l.length 0 [] (by omega) (fun x=>rfl)
end
end Go.Proofs.YtlbppjmekiemiaaGreatDoor
