/- What the functions of VehicleRuns compute (part 5 of 5). No condition. -/
import Derived.Test.YtlbppjmekiemiaaGreatDoorFVehicleRunsd
import Derived.KernelRfl
namespace Go.Proofs.YtlbppjmekiemiaaGreatDoor
noncomputable section
open bE
set_option maxHeartbeats 4000000
variable (up:Bool) (fu ad aq hu now b4 bR ai aj ak:Int) (bG rg:cu) (aM:cB) (aa Y:c9) (a7 ah ws:aJ) (cs:db) (ax:List rh) (U:cG) (rs:hE) (vs:cD) (ts:LT) (us:c3)
def GP:bd
 |[.agg [.E (.list .str) aM,.E (.list .signed) vs,.E (.list .int) ws,.E .int fu,.E .bool up,.E .int ak,.E (.list .int) ah,.E .int aj,.E .int ai,.E (.list .bool) Y,.E (.list .bool) aa,.E (.list .aT) us,.E (.list .aU) cs,.E (.list .message) U,.E .int now],.agg [.E .int ad,.E .int hu,.E .int aq,.E (.list .root) rs,.E (.list (.list .int)) rg,.E .int bR,.E .int b4,.E (.list .target) ts,.E (.list .int) a7,.E (.list (.list .int)) bG]],[]=>some (some (p1 ⟨aM,vs,⟨⟨ws,fu⟩,up,⟨⟨ak,ah,aj⟩,ai⟩,Y,aa⟩,us,cs,U,now⟩=true),.an [.agg (mv (kj ⟨aM,vs,⟨⟨ws,fu⟩,up,⟨⟨ak,ah,aj⟩,ai⟩,Y,aa⟩,us,cs,U,now⟩ ⟨ad,hu,aq,⟨rs,rg,⟨bR,b4,ts⟩,a7,bG⟩⟩).1),.one (A (kj ⟨aM,vs,⟨⟨ws,fu⟩,up,⟨⟨ak,ah,aj⟩,ai⟩,Y,aa⟩,us,cs,U,now⟩ ⟨ad,hu,aq,⟨rs,rg,⟨bR,b4,ts⟩,a7,bG⟩⟩).2)],[])
 |_,_=>none
def kv:Ctx:=[(35,GL),(36,GN),(37,GO),(38,Gj),(39,wc),(40,Gh),(41,F6),(42,Gi),(43,F9),(44,Gk)]
theorem adC:fz Tryz.prog tab kv:=((((((((((bv.f ahL).f ahB).f ahJ).f Md).f ahI).f yr).f ahK).f aio).f ain).f ail)
def DU:List cw:=[.inLoop [10,5,4,3,2] (cZ gk [1,1,1,1,1,0,1,0,1,0,1,1,1,1,0,0,0,0]),.inBlock 1,.code (cZ gk [1,1,1,1,1,0,1,0,1,0,1,1,1,1,0,1]),.inBlock 0,.code (cZ gk [1,1,1,1,1,1])]
def La(F al M:Int)(ae:Bool)(ao aE aH aS aZ bc bn:Int)(bo:hE)(bm:cu)(bC bJ:Int)(bI:LT)(bM:aJ)(bz:cu)(bS:cB)(bY:cD)(cq:aJ)(cv:Int)(cN:Bool)(c0:Int)(c5:aJ)(dq dt:Int)(dH dI:c9)(dr:Int)(dD:cB)(dx:cD)(ea dW:aJ)(eb ek:c9)(fj:c3)(fN:db)(gp:cG)(hc:c3)(gq:db)(gM:cG):bP:=⟨[(10,.one (A F)),(5,.one (A al)),(4,.one (.ptr 0 0)),(3,.one (.ptr 1 0)),(2,.one (.ptr 2 0))],[(0,.box [.own 3,.own 4,.own 5,A M,ay ae,A ao,.own 6,A aE,A aH,.own 7,.own 8,.own 9,.own 10,.own 11,A aS]),(1,.box [A aZ,A bc,A bn,.E (z.list z.root) bo,cH bm,A bC,A bJ,.E (z.list z.target) bI,af bM,cH bz]),(2,.box [.E (z.list z.str) bS,.E (z.list z.signed) bY,af cq,A cv,ay cN,A c0,af c5,A dq,A dt,bj dH,bj dI,.own 12,.own 13,.own 14,A dr]),(3,.arr z.str dD),(4,.arr z.signed dx),(5,.arr z.int ea),(6,.arr z.int dW),(7,.arr z.bool eb),(8,.arr z.bool ek),(9,.arr z.aT fj),(10,.arr z.aU fN),(11,.arr z.message gp),(12,.arr z.aT hc),(13,.arr z.aU gq),(14,.arr z.message gM)],15⟩
def xZ:List cw:=[.inLoop [10,5,4,3,2] (cZ gk [1,1,1,1,1,0,1,0,1,0,1,1,1,1,0,0,0,0]),.inBlock 1,.code (cZ gk [1,1,1,1,1,0,1,0,1,0,1,1,1,1,0,1]),.inBlock 0,.code (cZ gk [1,1,1,1,1,1])]
def Lb(F al M:Int)(ae:Bool)(ao aE aH aS aZ bc bn:Int)(bo:hE)(bm:cu)(bC bJ:Int)(bI:LT)(bM:aJ)(bz:cu)(bS:cB)(bY:cD)(cq:aJ)(cv:Int)(cN:Bool)(c0:Int)(c5:aJ)(dq dt:Int)(dH dI:c9)(dr:Nat)(dD:Int)(dx:cB)(ea:cD)(dW eb:aJ)(ek fj:c9)(fN:c3)(gp:db)(hc:cG)(gq:c3)(gM:db)(ig:cG):bP:=⟨[(10,.one (A F)),(5,.one (A al)),(4,.one (.ptr 0 0)),(3,.one (.ptr 1 0)),(2,.one (.ptr 2 0))],[(0,.box [.own 3,.own 4,.own 5,A M,ay ae,A ao,.own 6,A aE,A aH,.own 7,.own 8,.own 9,.own 10,.own 11,A aS]),(1,.box [A aZ,A bc,A bn,.E (z.list z.root) bo,cH bm,A bC,A bJ,.E (z.list z.target) bI,af bM,cH bz]),(2,.box [.E (z.list z.str) bS,.E (z.list z.signed) bY,af cq,A cv,ay cN,A c0,af c5,A dq,A dt,bj dH,bj dI,.own 12,.view 13 0 dr,.own 14,A dD]),(3,.arr z.str dx),(4,.arr z.signed ea),(5,.arr z.int dW),(6,.arr z.int eb),(7,.arr z.bool ek),(8,.arr z.bool fj),(9,.arr z.aT fN),(10,.arr z.aU gp),(11,.arr z.message hc),(12,.arr z.aT gq),(13,.arr z.aU gM),(14,.arr z.message ig)],15⟩
theorem UU(aM:cB)(vs:cD)(ws:aJ)(fu:Int)(up:Bool)(ak:Int)(ah:aJ)(aj ai:Int)(Y aa:c9)(us:c3)(cs:db)(U:cG)(now hu aq:Int)(rs:hE)(rg:cu)(bR b4:Int)(ts:LT)(a7:aJ)(bG:cu)(rec:bZ)(K:aW) v0 (b0:v0=kt ⟨aM,vs,⟨⟨ws,fu⟩,up,⟨⟨ak,ah,aj⟩,ai⟩,Y,aa⟩,us,cs,U,now⟩) v1 (cd:v1=dM ⟨⟨ws,fu⟩,up,⟨⟨ak,ah,aj⟩,ai⟩,Y,aa⟩) aC (cR:aC=iB aM vs ⟨⟨ws,fu⟩,up,⟨⟨ak,ah,aj⟩,ai⟩,Y,aa⟩ ⟨rs,rg,⟨bR,b4,ts⟩,a7,bG⟩ now) v3 (ef:v3=J (!(au aC.snd.snd 0))
 (K (.an [.agg fU,.one (A aC.snd.snd)]) [])
 (J (aN 0 aC.snd.fst)
 (rec DU (La aC.snd.fst 0 0 false 0 0 0 0 1 hu aq rs rg bR b4 ts a7 bG aM vs aC.fst.f.words aC.fst.f.fuel aC.fst.up aC.fst.t.r.version aC.fst.t.r.keys aC.fst.t.r.ej aC.fst.t.version aC.fst.cF aC.fst.did now [] [] [] [] [] [] [] [] [] us cs U))
 (K (.an [.agg [.E (z.list z.str) aM,.E (z.list z.signed) vs,af aC.fst.f.words,A aC.fst.f.fuel,ay aC.fst.up,A aC.fst.t.r.version,af aC.fst.t.r.keys,A aC.fst.t.r.ej,A aC.fst.t.version,bj aC.fst.cF,bj aC.fst.did,.E (z.list z.aT) us,.E (z.list z.aU) cs,bB U,A now],.one (A 0)]) []))):b7 kv tab gk 0 K rec [.code (bF gk)] (df [.agg (en aM vs ws fu up ak ah aj ai Y aa (.E (z.list z.aT) us) (.E (z.list z.aU) cs) (bB U) now),.agg [A (1:Int),A hu,A aq,.E (z.list z.root) rs,cH rg,A bR,A b4,.E (z.list z.target) ts,af a7,cH bG]] [])=(
 v0=true /\
 J (dc 0 hu)
 (v1=(0:Int) /\
 v3)
 (v1=(0:Int) /\
 v3)):=by subst_vars;kernel_rfl
theorem afk{F al M ao aE aH aS aZ bc bn bC bJ cv c0 dq dt dr:Int}{ae cN:Bool}{bo:hE}{bm bz:cu}{bI:LT}{bM cq c5 ea dW:aJ}{bS dD:cB}{bY dx:cD}{dH dI eb ek:c9}{fj hc:c3}{fN gq:db}{gp gM:cG}{rec:bZ}{K:aW}:b7 kv tab gk 0 K rec (cQ DU) (La F al M ae ao aE aH aS aZ bc bn bo bm bC bJ bI bM bz bS bY cq cv cN c0 c5 dq dt dH dI dr dD dx ea dW eb ek fj fN gp hc gq gM)=(
 J (dc F (len gq:Int))
 (((0:Int)<=(0:Int)/\(0:Int)<=W ((len gq:Int)-(1:Int))/\W ((len gq:Int)-(1:Int))<=(len gq:Int)) /\
 rec xZ (Lb F al M ae ao aE aH aS aZ bc bn bo bm bC bJ bI bM bz bS bY cq cv cN c0 c5 dq dt dH dI (Int.toNat (W ((len gq:Int)-(1:Int))-0)) dr dD dx ea dW eb ek fj fN gp hc gq gM))
 ((len gq+len ((⟨F,⟨bC,bJ,bI⟩,bz⟩:nx)::[]))*72<=140737488355328 /\
 K (.an [.agg [.E (z.list z.str) bS,.E (z.list z.signed) bY,af cq,A cv,ay cN,A c0,af c5,A dq,A dt,bj dH,bj dI,.E (z.list z.aT) hc,.E (z.list z.aU) (cat gq ((⟨F,⟨bC,bJ,bI⟩,bz⟩:nx)::[])),bB gM,A dr],.one (A 0)]) [])):=by kernel_rfl
theorem UW{dr:Nat}{rec:bZ}{K:aW}{F al M ae ao aE aH aS aZ bc bn bo bm bC bJ bI bM bz bS bY cq cv cN c0 c5 dq dt dH dI dD dx ea dW eb ek fj fN gp hc gq gM ig}{v0}(b0:v0=fun a=>Lb F al M ae ao aE aH aS aZ bc bn bo bm bC bJ bI bM bz bS bY cq cv cN c0 c5 dq dt dH dI a dD dx ea dW eb ek fj fN gp hc gq gM ig):b7 kv tab gk 0 K rec (cQ xZ) (v0 dr)=(
 J (dc F ((dr:Nat):Int))
 (((0:Int)<=(0:Int)/\(0:Int)<=W (((dr:Nat):Int)-(1:Int))/\W (((dr:Nat):Int)-(1:Int))<=(len gM:Int)) /\
 rec xZ (v0 (Int.toNat (W (((dr:Nat):Int)-(1:Int))-0))))
 ((dr<=len gM/\(dr+len ((⟨F,⟨bC,bJ,bI⟩,bz⟩:nx)::[]))*72<=140737488355328) /\
 K (.an [.agg [.E (z.list z.str) bS,.E (z.list z.signed) bY,af cq,A cv,ay cN,A c0,af c5,A dq,A dt,bj dH,bj dI,.E (z.list z.aT) gq,.E (z.list z.aU) (cat (a2 gM 0 dr) ((⟨F,⟨bC,bJ,bI⟩,bz⟩:nx)::[])),bB ig,A dD],.one (A 0)]) [])):=by subst_vars;kernel_rfl

theorem afo(aM:cB)(vs:cD)(ws:aJ)(fu:Int)(up:Bool)(ak:Int)(ah:aJ)(aj ai:Int)(Y aa:c9)(us:c3)(cs:db)(U:cG)(now hu aq:Int)(rs:hE)(rg:cu)(bR b4:Int)(ts:LT)(a7:aJ)(bG:cu)(rec:bZ)(K:aW) v0 (b0:v0=kt ⟨aM,vs,⟨⟨ws,fu⟩,up,⟨⟨ak,ah,aj⟩,ai⟩,Y,aa⟩,us,cs,U,now⟩) v1 (cd:v1=dE ⟨ws,fu⟩) aC (cR:aC=bL ⟨ws,fu⟩) v3 (ef:v3=dM ⟨⟨ws,fu⟩,up,⟨⟨ak,ah,aj⟩,ai⟩,Y,aa⟩) v4 (e1:v4=hj ⟨⟨ws,fu⟩,up,⟨⟨ak,ah,aj⟩,ai⟩,Y,aa⟩ ⟨(nth cs (Int.toNat (W (aC.n-1))) (z.H z.aU)).n,⟨((nth cs (Int.toNat (W (aC.n-1))) (z.H z.aU)).r).version,((nth cs (Int.toNat (W (aC.n-1))) (z.H z.aU)).r).ca,((nth cs (Int.toNat (W (aC.n-1))) (z.H z.aU)).r).targets⟩,(nth cs (Int.toNat (W (aC.n-1))) (z.H z.aU)).cL⟩ hu) cf (g5:cf=hz U v4.fst) dK (km:dK=hj ⟨⟨ws,fu⟩,up,⟨⟨ak,ah,aj⟩,ai⟩,Y,aa⟩ ⟨0,⟨0,0,[]⟩,[]⟩ hu) dF (iG:dF=hz U dK.fst):b7 kv tab gk 0 K rec [.code (bF gk)] (df [.agg (en aM vs ws fu up ak ah aj ai Y aa (.E (z.list z.aT) us) (.E (z.list z.aU) cs) (bB U) now),.agg [A (2:Int),A hu,A aq,.E (z.list z.root) rs,cH rg,A bR,A b4,.E (z.list z.target) ts,af a7,cH bG]] [])=(
 v0=true /\
 J (dc 0 hu)
 (J (!(aN hu (len us:Int)))
 (K (.an [.agg fU,.one (A 5)]) [])
 (v1=(0:Int) /\
 J (aN (len cs:Int) aC.n)
 (K (.an [.agg fU,.one (A 5)]) [])
 (J (aN 0 aC.n)
 (((0:Int)<=W (aC.n-1)/\W (aC.n-1)<(len cs:Int)) /\
 Int.toNat (W (aC.n-1))<len cs /\
 (v3=(0:Int)/\List.length ((nth cs (Int.toNat (W (aC.n-1))) (z.H z.aU)).r).targets<=140737488355328/\List.length (nth cs (Int.toNat (W (aC.n-1))) (z.H z.aU)).cL<=140737488355328) /\
 J (!(au v4.snd 0))
 (K (.an [.agg fU,.one (A v4.snd)]) [])
 ((List.length U<=1000/\List.length v4.fst<=1000) /\
 K (.an [.agg (en aM vs ws fu up ak ah aj ai Y aa (.E (z.list z.aT) us) (.E (z.list z.aU) cs) (bB cf) now),.one (A 0)]) []))
 ((v3=(0:Int)/\List.length ([]:List Int)<=140737488355328/\List.length ([]:List Int)<=140737488355328) /\
 J (!(au dK.snd 0))
 (K (.an [.agg fU,.one (A dK.snd)]) [])
 ((List.length U<=1000/\List.length dK.fst<=1000) /\
 K (.an [.agg (en aM vs ws fu up ak ah aj ai Y aa (.E (z.list z.aT) us) (.E (z.list z.aU) cs) (bB dF) now),.one (A 0)]) [])))))
 (K (.an [.agg fU,.one (A 5)]) [])):=by subst_vars;kernel_rfl

theorem afp(aM:cB)(vs:cD)(ws:aJ)(fu:Int)(up:Bool)(ak:Int)(ah:aJ)(aj ai:Int)(Y aa:c9)(us:c3)(cs:db)(U:cG)(now hu aq:Int)(rs:hE)(rg:cu)(bR b4:Int)(ts:LT)(a7:aJ)(bG:cu)(rec:bZ)(K:aW) v0 (b0:v0=kt ⟨aM,vs,⟨⟨ws,fu⟩,up,⟨⟨ak,ah,aj⟩,ai⟩,Y,aa⟩,us,cs,U,now⟩) v1 (cd:v1=dM ⟨⟨ws,fu⟩,up,⟨⟨ak,ah,aj⟩,ai⟩,Y,aa⟩) aC (cR:aC=iu ⟨⟨ws,fu⟩,up,⟨⟨ak,ah,aj⟩,ai⟩,Y,aa⟩ ⟨(nth U (Int.toNat aq) (z.H z.message)).kind,(nth U (Int.toNat aq) (z.H z.message)).unit,(nth U (Int.toNat aq) (z.H z.message)).n,(nth U (Int.toNat aq) (z.H z.message)).at_,(nth U (Int.toNat aq) (z.H z.message)).image,(nth U (Int.toNat aq) (z.H z.message)).words,(nth U (Int.toNat aq) (z.H z.message)).yes⟩) v3 (ef:v3=hz (cat (a2 U 0 (Int.toNat aq)) (a2 U (Int.toNat (W (aq+1))) (Int.toNat (W (aq+1))+Int.toNat ((len U:Int)-W (aq+1))))) aC.snd) v4 (e1:v4=fH aM) cf (g5:cf=eZ ⟨⟨((nth us (Int.toNat (nth U (Int.toNat aq) (z.H z.message)).unit) (z.H z.aT)).f).words,((nth us (Int.toNat (nth U (Int.toNat aq) (z.H z.message)).unit) (z.H z.aT)).f).fuel⟩,(nth us (Int.toNat (nth U (Int.toNat aq) (z.H z.message)).unit) (z.H z.aT)).up,(nth us (Int.toNat (nth U (Int.toNat aq) (z.H z.message)).unit) (z.H z.aT)).n,(nth us (Int.toNat (nth U (Int.toNat aq) (z.H z.message)).unit) (z.H z.aT)).eE⟩) dK (km:dK=gd ⟨(nth U (Int.toNat aq) (z.H z.message)).kind,(nth U (Int.toNat aq) (z.H z.message)).unit,(nth U (Int.toNat aq) (z.H z.message)).n,(nth U (Int.toNat aq) (z.H z.message)).at_,(nth U (Int.toNat aq) (z.H z.message)).image,(nth U (Int.toNat aq) (z.H z.message)).words,(nth U (Int.toNat aq) (z.H z.message)).yes⟩) dF (iG:dF=g3 aM ⟨⟨((nth us (Int.toNat (nth U (Int.toNat aq) (z.H z.message)).unit) (z.H z.aT)).f).words,((nth us (Int.toNat (nth U (Int.toNat aq) (z.H z.message)).unit) (z.H z.aT)).f).fuel⟩,(nth us (Int.toNat (nth U (Int.toNat aq) (z.H z.message)).unit) (z.H z.aT)).up,(nth us (Int.toNat (nth U (Int.toNat aq) (z.H z.message)).unit) (z.H z.aT)).n,(nth us (Int.toNat (nth U (Int.toNat aq) (z.H z.message)).unit) (z.H z.aT)).eE⟩ ⟨(nth U (Int.toNat aq) (z.H z.message)).kind,(nth U (Int.toNat aq) (z.H z.message)).unit,(nth U (Int.toNat aq) (z.H z.message)).n,(nth U (Int.toNat aq) (z.H z.message)).at_,(nth U (Int.toNat aq) (z.H z.message)).image,(nth U (Int.toNat aq) (z.H z.message)).words,(nth U (Int.toNat aq) (z.H z.message)).yes⟩) eG (kI:eG=setAt us (Int.toNat (nth U (Int.toNat aq) (z.H z.message)).unit) ⟨⟨dF.fst.f.words,dF.fst.f.fuel⟩,dF.fst.up,dF.fst.n,dF.fst.eE⟩) v9 (j3:v9=hz (cat (a2 U 0 (Int.toNat aq)) (a2 U (Int.toNat (W (aq+1))) (Int.toNat (W (aq+1))+Int.toNat ((len U:Int)-W (aq+1))))) dF.snd) v11 (oR:v11=K (.an [.agg [.E (z.list z.str) aM,.E (z.list z.signed) vs,af aC.fst.f.words,A aC.fst.f.fuel,ay aC.fst.up,A aC.fst.t.r.version,af aC.fst.t.r.keys,A aC.fst.t.r.ej,A aC.fst.t.version,bj aC.fst.cF,bj aC.fst.did,.E (z.list z.aT) us,.E (z.list z.aU) cs,bB v3,A now],.one (A 0)]) []) v10 (m9:v10=J (aN aq 0)
 (K (.an [.agg fU,.one (A 5)]) [])
 (J (dc (len U:Int) aq)
 (K (.an [.agg fU,.one (A 5)]) [])
 (((0:Int)<=aq/\aq<(len U:Int)) /\
 Int.toNat aq<len U /\
 ((0:Int)<=aq/\aq=aq/\aq<=(len U:Int)) /\
 ((0:Int)<=W (aq+1)/\W (aq+1)<=(len U:Int)/\(len U:Int)<=(len U:Int)) /\
 (Int.toNat (W (aq+1))+Int.toNat ((len U:Int)-W (aq+1))<=len U/\Int.toNat aq<=len U/\(Int.toNat aq+len (a2 U (Int.toNat (W (aq+1))) (Int.toNat (W (aq+1))+Int.toNat ((len U:Int)-W (aq+1)))))*72<=140737488355328) /\
 J (au (nth U (Int.toNat aq) (z.H z.message)).kind 3)
 ((v1=(0:Int)/\(0:Int)<=(nth U (Int.toNat aq) (z.H z.message)).unit/\(nth U (Int.toNat aq) (z.H z.message)).unit<(((List.length Y):Nat):Int)/\(1:Int)<=(nth U (Int.toNat aq) (z.H z.message)).n/\(nth U (Int.toNat aq) (z.H z.message)).n<=8) /\
 (List.length (cat (a2 U 0 (Int.toNat aq)) (a2 U (Int.toNat (W (aq+1))) (Int.toNat (W (aq+1))+Int.toNat ((len U:Int)-W (aq+1)))))<=1000/\List.length aC.snd<=1000) /\
 v11)
 (J (au (nth U (Int.toNat aq) (z.H z.message)).kind 6)
 ((v1=(0:Int)/\(0:Int)<=(nth U (Int.toNat aq) (z.H z.message)).unit/\(nth U (Int.toNat aq) (z.H z.message)).unit<(((List.length Y):Nat):Int)/\(1:Int)<=(nth U (Int.toNat aq) (z.H z.message)).n/\(nth U (Int.toNat aq) (z.H z.message)).n<=8) /\
 (List.length (cat (a2 U 0 (Int.toNat aq)) (a2 U (Int.toNat (W (aq+1))) (Int.toNat (W (aq+1))+Int.toNat ((len U:Int)-W (aq+1)))))<=1000/\List.length aC.snd<=1000) /\
 v11)
 (J (au (nth U (Int.toNat aq) (z.H z.message)).kind 7)
 ((v1=(0:Int)/\(0:Int)<=(nth U (Int.toNat aq) (z.H z.message)).unit/\(nth U (Int.toNat aq) (z.H z.message)).unit<(((List.length Y):Nat):Int)/\(1:Int)<=(nth U (Int.toNat aq) (z.H z.message)).n/\(nth U (Int.toNat aq) (z.H z.message)).n<=8) /\
 (List.length (cat (a2 U 0 (Int.toNat aq)) (a2 U (Int.toNat (W (aq+1))) (Int.toNat (W (aq+1))+Int.toNat ((len U:Int)-W (aq+1)))))<=1000/\List.length aC.snd<=1000) /\
 v11)
 (((0:Int)<=(nth U (Int.toNat aq) (z.H z.message)).unit/\(nth U (Int.toNat aq) (z.H z.message)).unit<(len us:Int)) /\
 Int.toNat (nth U (Int.toNat aq) (z.H z.message)).unit<len us /\
 (v4=(0:Int)/\cf=(0:Int)/\dK=(0:Int)) /\
 ((0:Int)<=(nth U (Int.toNat aq) (z.H z.message)).unit/\(nth U (Int.toNat aq) (z.H z.message)).unit<(len us:Int)) /\
 Int.toNat (nth U (Int.toNat aq) (z.H z.message)).unit<len us /\
 (List.length (cat (a2 U 0 (Int.toNat aq)) (a2 U (Int.toNat (W (aq+1))) (Int.toNat (W (aq+1))+Int.toNat ((len U:Int)-W (aq+1)))))<=1000/\List.length dF.snd<=1000) /\
 K (.an [.agg (en aM vs ws fu up ak ah aj ai Y aa (.E (z.list z.aT) eG) (.E (z.list z.aU) cs) (bB v9) now),.one (A 0)]) [])))))):b7 kv tab gk 0 K rec [.code (bF gk)] (df [.agg (en aM vs ws fu up ak ah aj ai Y aa (.E (z.list z.aT) us) (.E (z.list z.aU) cs) (bB U) now),.agg [A (3:Int),A hu,A aq,.E (z.list z.root) rs,cH rg,A bR,A b4,.E (z.list z.target) ts,af a7,cH bG]] [])=(
 v0=true /\
 J (dc 0 hu)
 v10
 v10):=by subst_vars;kernel_rfl

theorem afq(aM:cB)(vs:cD)(ws:aJ)(fu:Int)(up:Bool)(ak:Int)(ah:aJ)(aj ai:Int)(Y aa:c9)(us:c3)(cs:db)(U:cG)(now hu aq:Int)(rs:hE)(rg:cu)(bR b4:Int)(ts:LT)(a7:aJ)(bG:cu)(rec:bZ)(K:aW) v0 (b0:v0=kt ⟨aM,vs,⟨⟨ws,fu⟩,up,⟨⟨ak,ah,aj⟩,ai⟩,Y,aa⟩,us,cs,U,now⟩) v1 (cd:v1=J (aN aq 0)
 (K (.an [.agg fU,.one (A 5)]) [])
 (J (dc (len U:Int) aq)
 (K (.an [.agg fU,.one (A 5)]) [])
 (((0:Int)<=aq/\aq<(len U:Int)) /\
 Int.toNat aq<len U /\
 ((0:Int)<=aq/\aq=aq/\aq<=(len U:Int)) /\
 ((0:Int)<=W (aq+1)/\W (aq+1)<=(len U:Int)/\(len U:Int)<=(len U:Int)) /\
 (Int.toNat (W (aq+1))+Int.toNat ((len U:Int)-W (aq+1))<=len U/\Int.toNat aq<=len U/\(Int.toNat aq+len (a2 U (Int.toNat (W (aq+1))) (Int.toNat (W (aq+1))+Int.toNat ((len U:Int)-W (aq+1)))))*72<=140737488355328) /\
 K (.an [.agg (en aM vs ws fu up ak ah aj ai Y aa (.E (z.list z.aT) us) (.E (z.list z.aU) cs) (bB (cat (a2 U 0 (Int.toNat aq)) (a2 U (Int.toNat (W (aq+1))) (Int.toNat (W (aq+1))+Int.toNat ((len U:Int)-W (aq+1)))))) now),.one (A 0)]) []))):b7 kv tab gk 0 K rec [.code (bF gk)] (df [.agg (en aM vs ws fu up ak ah aj ai Y aa (.E (z.list z.aT) us) (.E (z.list z.aU) cs) (bB U) now),.agg [A (4:Int),A hu,A aq,.E (z.list z.root) rs,cH rg,A bR,A b4,.E (z.list z.target) ts,af a7,cH bG]] [])=(
 v0=true /\
 J (dc 0 hu)
 v1
 v1):=by subst_vars;kernel_rfl

theorem afr(aM:cB)(vs:cD)(ws:aJ)(fu:Int)(up:Bool)(ak:Int)(ah:aJ)(aj ai:Int)(Y aa:c9)(us:c3)(cs:db)(U:cG)(now hu aq:Int)(rs:hE)(rg:cu)(bR b4:Int)(ts:LT)(a7:aJ)(bG:cu)(rec:bZ)(K:aW) v0 (b0:v0=kt ⟨aM,vs,⟨⟨ws,fu⟩,up,⟨⟨ak,ah,aj⟩,ai⟩,Y,aa⟩,us,cs,U,now⟩) v1 (cd:v1=hz U ((⟨(nth U (Int.toNat aq) (z.H z.message)).kind,(nth U (Int.toNat aq) (z.H z.message)).unit,(nth U (Int.toNat aq) (z.H z.message)).n,(nth U (Int.toNat aq) (z.H z.message)).at_,(nth U (Int.toNat aq) (z.H z.message)).image,(nth U (Int.toNat aq) (z.H z.message)).words,(nth U (Int.toNat aq) (z.H z.message)).yes⟩:fC)::[])) aC (cR:aC=J (aN aq 0)
 (K (.an [.agg fU,.one (A 5)]) [])
 (J (dc (len U:Int) aq)
 (K (.an [.agg fU,.one (A 5)]) [])
 (((0:Int)<=aq/\aq<(len U:Int)) /\
 Int.toNat aq<len U /\
 J (au (len U:Int) 24)
 (K (.an [.agg fU,.one (A 8)]) [])
 ((List.length U<=1000/\List.length ((⟨(nth U (Int.toNat aq) (z.H z.message)).kind,(nth U (Int.toNat aq) (z.H z.message)).unit,(nth U (Int.toNat aq) (z.H z.message)).n,(nth U (Int.toNat aq) (z.H z.message)).at_,(nth U (Int.toNat aq) (z.H z.message)).image,(nth U (Int.toNat aq) (z.H z.message)).words,(nth U (Int.toNat aq) (z.H z.message)).yes⟩:fC)::[])<=1000) /\
 K (.an [.agg (en aM vs ws fu up ak ah aj ai Y aa (.E (z.list z.aT) us) (.E (z.list z.aU) cs) (bB v1) now),.one (A 0)]) [])))):b7 kv tab gk 0 K rec [.code (bF gk)] (df [.agg (en aM vs ws fu up ak ah aj ai Y aa (.E (z.list z.aT) us) (.E (z.list z.aU) cs) (bB U) now),.agg [A (5:Int),A hu,A aq,.E (z.list z.root) rs,cH rg,A bR,A b4,.E (z.list z.target) ts,af a7,cH bG]] [])=(
 v0=true /\
 J (dc 0 hu)
 aC
 aC):=by subst_vars;kernel_rfl

theorem afs(aM:cB)(vs:cD)(ws:aJ)(fu:Int)(up:Bool)(ak:Int)(ah:aJ)(aj ai:Int)(Y aa:c9)(us:c3)(cs:db)(U:cG)(now hu aq:Int)(rs:hE)(rg:cu)(bR b4:Int)(ts:LT)(a7:aJ)(bG:cu)(rec:bZ)(K:aW) v0 (b0:v0=kt ⟨aM,vs,⟨⟨ws,fu⟩,up,⟨⟨ak,ah,aj⟩,ai⟩,Y,aa⟩,us,cs,U,now⟩) v1 (cd:v1=setAt us (Int.toNat hu) ⟨⟨((nth us (Int.toNat hu) (z.H z.aT)).f).words,aq⟩,(nth us (Int.toNat hu) (z.H z.aT)).up,(nth us (Int.toNat hu) (z.H z.aT)).n,(nth us (Int.toNat hu) (z.H z.aT)).eE⟩) aC (cR:aC=J (aN aq 0)
 (K (.an [.agg fU,.one (A 3)]) [])
 (J (aN 100000 aq)
 (K (.an [.agg fU,.one (A 3)]) [])
 (J (au hu (-1))
 (K (.an [.agg [.E (z.list z.str) aM,.E (z.list z.signed) vs,af ws,A aq,ay up,A ak,af ah,A aj,A ai,bj Y,bj aa,.E (z.list z.aT) us,.E (z.list z.aU) cs,bB U,A now],.one (A 0)]) [])
 (((0:Int)<=hu/\hu<(len us:Int)) /\
 Int.toNat hu<len us /\
 K (.an [.agg (en aM vs ws fu up ak ah aj ai Y aa (.E (z.list z.aT) v1) (.E (z.list z.aU) cs) (bB U) now),.one (A 0)]) [])))):b7 kv tab gk 0 K rec [.code (bF gk)] (df [.agg (en aM vs ws fu up ak ah aj ai Y aa (.E (z.list z.aT) us) (.E (z.list z.aU) cs) (bB U) now),.agg [A (6:Int),A hu,A aq,.E (z.list z.root) rs,cH rg,A bR,A b4,.E (z.list z.target) ts,af a7,cH bG]] [])=(
 v0=true /\
 J (dc 0 hu)
 (J (!(au hu (-1)))
 (J (!(aN hu (len us:Int)))
 (K (.an [.agg fU,.one (A 5)]) [])
 aC)
 aC)
 (J (!(au hu (-1)))
 (K (.an [.agg fU,.one (A 5)]) [])
 aC)):=by subst_vars;kernel_rfl

theorem aft(aM:cB)(vs:cD)(ws:aJ)(fu:Int)(up:Bool)(ak:Int)(ah:aJ)(aj ai:Int)(Y aa:c9)(us:c3)(cs:db)(U:cG)(now hu aq:Int)(rs:hE)(rg:cu)(bR b4:Int)(ts:LT)(a7:aJ)(bG:cu)(rec:bZ)(K:aW) v0 (b0:v0=kt ⟨aM,vs,⟨⟨ws,fu⟩,up,⟨⟨ak,ah,aj⟩,ai⟩,Y,aa⟩,us,cs,U,now⟩) v1 (cd:v1=setAt us (Int.toNat hu) ⟨⟨((nth us (Int.toNat hu) (z.H z.aT)).f).words,(-1)⟩,(nth us (Int.toNat hu) (z.H z.aT)).up,(nth us (Int.toNat hu) (z.H z.aT)).n,(nth us (Int.toNat hu) (z.H z.aT)).eE⟩) aC (cR:aC=setAt v1 (Int.toNat hu) ⟨⟨((nth v1 (Int.toNat hu) (z.H z.aT)).f).words,((nth v1 (Int.toNat hu) (z.H z.aT)).f).fuel⟩,true,(nth v1 (Int.toNat hu) (z.H z.aT)).n,(nth v1 (Int.toNat hu) (z.H z.aT)).eE⟩) v3 (ef:v3=setAt aC (Int.toNat hu) ⟨⟨((nth aC (Int.toNat hu) (z.H z.aT)).f).words,((nth aC (Int.toNat hu) (z.H z.aT)).f).fuel⟩,(nth aC (Int.toNat hu) (z.H z.aT)).up,0,(nth aC (Int.toNat hu) (z.H z.aT)).eE⟩) v4 (e1:v4=setAt v3 (Int.toNat hu) ⟨⟨((nth v3 (Int.toNat hu) (z.H z.aT)).f).words,((nth v3 (Int.toNat hu) (z.H z.aT)).f).fuel⟩,(nth v3 (Int.toNat hu) (z.H z.aT)).up,(nth v3 (Int.toNat hu) (z.H z.aT)).n,0⟩) cf (g5:cf=J (au hu (-1))
 (((0:Int)<=(len us:Int)/\(len us:Int)*((1:Nat):Int)<=140737488355328/\(len us:Int)<=(140737488355328:Int)) /\
 ((0:Int)<=(len us:Int)/\(len us:Int)*((1:Nat):Int)<=140737488355328/\(len us:Int)<=(140737488355328:Int)) /\
 K (.an [.agg [.E (z.list z.str) aM,.E (z.list z.signed) vs,af ws,A (-1),ay true,A ak,af ah,A aj,A ai,bj (c6 (Int.toNat (len us:Int)) (z.H z.bool)),bj (c6 (Int.toNat (len us:Int)) (z.H z.bool)),.E (z.list z.aT) us,.E (z.list z.aU) cs,bB U,A now],.one (A 0)]) [])
 (((0:Int)<=hu/\hu<(len us:Int)) /\
 Int.toNat hu<len us /\
 Int.toNat hu<len v1 /\
 Int.toNat hu<len aC /\
 Int.toNat hu<len v3 /\
 K (.an [.agg (en aM vs ws fu up ak ah aj ai Y aa (.E (z.list z.aT) v4) (.E (z.list z.aU) cs) (bB U) now),.one (A 0)]) [])):b7 kv tab gk 0 K rec [.code (bF gk)] (df [.agg (en aM vs ws fu up ak ah aj ai Y aa (.E (z.list z.aT) us) (.E (z.list z.aU) cs) (bB U) now),.agg [A (7:Int),A hu,A aq,.E (z.list z.root) rs,cH rg,A bR,A b4,.E (z.list z.target) ts,af a7,cH bG]] [])=(
 v0=true /\
 J (dc 0 hu)
 (J (!(au hu (-1)))
 (J (!(aN hu (len us:Int)))
 (K (.an [.agg fU,.one (A 5)]) [])
 cf)
 cf)
 (J (!(au hu (-1)))
 (K (.an [.agg fU,.one (A 5)]) [])
 cf)):=by subst_vars;kernel_rfl

theorem afu(aM:cB)(vs:cD)(ws:aJ)(fu:Int)(up:Bool)(ak:Int)(ah:aJ)(aj ai:Int)(Y aa:c9)(us:c3)(cs:db)(U:cG)(now hu aq:Int)(rs:hE)(rg:cu)(bR b4:Int)(ts:LT)(a7:aJ)(bG:cu)(rec:bZ)(K:aW) v0 (b0:v0=kt ⟨aM,vs,⟨⟨ws,fu⟩,up,⟨⟨ak,ah,aj⟩,ai⟩,Y,aa⟩,us,cs,U,now⟩) v1 (cd:v1=dM ⟨⟨ws,fu⟩,up,⟨⟨ak,ah,aj⟩,ai⟩,Y,aa⟩) aC (cR:aC=j1 ⟨⟨ws,fu⟩,up,⟨⟨ak,ah,aj⟩,ai⟩,Y,aa⟩) v3 (ef:v3=J (!(au aC.snd 0))
 (K (.an [.agg fU,.one (A aC.snd)]) [])
 (K (.an [.agg [.E (z.list z.str) aM,.E (z.list z.signed) vs,af aC.fst.f.words,A aC.fst.f.fuel,ay aC.fst.up,A aC.fst.t.r.version,af aC.fst.t.r.keys,A aC.fst.t.r.ej,A aC.fst.t.version,bj aC.fst.cF,bj aC.fst.did,.E (z.list z.aT) us,.E (z.list z.aU) cs,bB U,A now],.one (A 0)]) [])):b7 kv tab gk 0 K rec [.code (bF gk)] (df [.agg (en aM vs ws fu up ak ah aj ai Y aa (.E (z.list z.aT) us) (.E (z.list z.aU) cs) (bB U) now),.agg [A (8:Int),A hu,A aq,.E (z.list z.root) rs,cH rg,A bR,A b4,.E (z.list z.target) ts,af a7,cH bG]] [])=(
 v0=true /\
 J (dc 0 hu)
 (v1=(0:Int) /\
 v3)
 (v1=(0:Int) /\
 v3)):=by subst_vars;kernel_rfl

theorem afv(aM:cB)(vs:cD)(ws:aJ)(fu:Int)(up:Bool)(ak:Int)(ah:aJ)(aj ai:Int)(Y aa:c9)(us:c3)(cs:db)(U:cG)(now hu aq:Int)(rs:hE)(rg:cu)(bR b4:Int)(ts:LT)(a7:aJ)(bG:cu)(rec:bZ)(K:aW) v0 (b0:v0=kt ⟨aM,vs,⟨⟨ws,fu⟩,up,⟨⟨ak,ah,aj⟩,ai⟩,Y,aa⟩,us,cs,U,now⟩) v1 (cd:v1=dE ⟨((nth us (Int.toNat hu) (z.H z.aT)).f).words,((nth us (Int.toNat hu) (z.H z.aT)).f).fuel⟩) aC (cR:aC=c2 ⟨((nth us (Int.toNat hu) (z.H z.aT)).f).words,((nth us (Int.toNat hu) (z.H z.aT)).f).fuel⟩) v3 (ef:v3=hz U ((⟨7,hu,aC.ready,0,0,[],false⟩:fC)::[])):b7 kv tab gk 0 K rec [.code (bF gk)] (df [.agg (en aM vs ws fu up ak ah aj ai Y aa (.E (z.list z.aT) us) (.E (z.list z.aU) cs) (bB U) now),.agg [A (9:Int),A hu,A aq,.E (z.list z.root) rs,cH rg,A bR,A b4,.E (z.list z.target) ts,af a7,cH bG]] [])=(
 v0=true /\
 J (dc 0 hu)
 (J (!(aN hu (len us:Int)))
 (K (.an [.agg fU,.one (A 5)]) [])
 (((0:Int)<=hu/\hu<(len us:Int)) /\
 Int.toNat hu<len us /\
 v1=(0:Int) /\
 J (!(nth us (Int.toNat hu) (z.H z.aT)).up)
 (K (.an [.agg fU,.one (A 7)]) [])
 (J (au aC.ready 0)
 (K (.an [.agg fU,.one (A 12)]) [])
 (J (aN 8 aC.ready)
 (K (.an [.agg fU,.one (A 12)]) [])
 ((List.length U<=1000/\List.length ((⟨7,hu,aC.ready,0,0,[],false⟩:fC)::[])<=1000) /\
 K (.an [.agg (en aM vs ws fu up ak ah aj ai Y aa (.E (z.list z.aT) us) (.E (z.list z.aU) cs) (bB v3) now),.one (A 0)]) [])))))
 (K (.an [.agg fU,.one (A 5)]) [])):=by subst_vars;kernel_rfl

theorem afw(aM:cB)(vs:cD)(ws:aJ)(fu:Int)(up:Bool)(ak:Int)(ah:aJ)(aj ai:Int)(Y aa:c9)(us:c3)(cs:db)(U:cG)(now hu aq:Int)(rs:hE)(rg:cu)(bR b4:Int)(ts:LT)(a7:aJ)(bG:cu)(rec:bZ)(K:aW) v0 (b0:v0=kt ⟨aM,vs,⟨⟨ws,fu⟩,up,⟨⟨ak,ah,aj⟩,ai⟩,Y,aa⟩,us,cs,U,now⟩) v1 (cd:v1=J (au now 100000)
 (K (.an [.agg fU,.one (A 8)]) [])
 (K (.an [.agg [.E (z.list z.str) aM,.E (z.list z.signed) vs,af ws,A fu,ay up,A ak,af ah,A aj,A ai,bj Y,bj aa,.E (z.list z.aT) us,.E (z.list z.aU) cs,bB U,A (W (now+1))],.one (A 0)]) [])):b7 kv tab gk 0 K rec [.code (bF gk)] (df [.agg (en aM vs ws fu up ak ah aj ai Y aa (.E (z.list z.aT) us) (.E (z.list z.aU) cs) (bB U) now),.agg [A (10:Int),A hu,A aq,.E (z.list z.root) rs,cH rg,A bR,A b4,.E (z.list z.target) ts,af a7,cH bG]] [])=(
 v0=true /\
 J (dc 0 hu)
 v1
 v1):=by subst_vars;kernel_rfl

theorem afl(aM:cB)(vs:cD)(ws:aJ)(fu:Int)(up:Bool)(ak:Int)(ah:aJ)(aj ai:Int)(Y aa:c9)(us:c3)(cs:db)(U:cG)(now hu aq:Int)(rs:hE)(rg:cu)(bR b4:Int)(ts:LT)(a7:aJ)(bG:cu)(rec:bZ)(K:aW) v0 (b0:v0=kt ⟨aM,vs,⟨⟨ws,fu⟩,up,⟨⟨ak,ah,aj⟩,ai⟩,Y,aa⟩,us,cs,U,now⟩):b7 kv tab gk 0 K rec [.code (bF gk)] (df [.agg (en aM vs ws fu up ak ah aj ai Y aa (.E (z.list z.aT) us) (.E (z.list z.aU) cs) (bB U) now),.agg [A (0:Int),A hu,A aq,.E (z.list z.root) rs,cH rg,A bR,A b4,.E (z.list z.target) ts,af a7,cH bG]] [])=(
 v0=true /\
 J (dc 0 hu)
 (K (.an [.agg fU,.one (A 4)]) [])
 (K (.an [.agg fU,.one (A 4)]) [])):=by subst_vars;kernel_rfl

theorem afm(aM:cB)(vs:cD)(ws:aJ)(fu:Int)(up:Bool)(ak:Int)(ah:aJ)(aj ai:Int)(Y aa:c9)(us:c3)(cs:db)(U:cG)(now hu aq:Int)(rs:hE)(rg:cu)(bR b4:Int)(ts:LT)(a7:aJ)(bG:cu)(Lv:Nat)(rec:bZ)(K:aW) v0 (b0:v0=kt ⟨aM,vs,⟨⟨ws,fu⟩,up,⟨⟨ak,ah,aj⟩,ai⟩,Y,aa⟩,us,cs,U,now⟩):b7 kv tab gk 0 K rec [.code (bF gk)] (df [.agg (en aM vs ws fu up ak ah aj ai Y aa (.E (z.list z.aT) us) (.E (z.list z.aU) cs) (bB U) now),.agg [A (Int.negSucc Lv),A hu,A aq,.E (z.list z.root) rs,cH rg,A bR,A b4,.E (z.list z.target) ts,af a7,cH bG]] [])=(
 v0=true /\
 J (dc 0 hu)
 (K (.an [.agg fU,.one (A 4)]) [])
 (K (.an [.agg fU,.one (A 4)]) [])):=by subst_vars;kernel_rfl

theorem afn(aM:cB)(vs:cD)(ws:aJ)(fu:Int)(up:Bool)(ak:Int)(ah:aJ)(aj ai:Int)(Y aa:c9)(us:c3)(cs:db)(U:cG)(now hu aq:Int)(rs:hE)(rg:cu)(bR b4:Int)(ts:LT)(a7:aJ)(bG:cu)(Lv:Nat)(rec:bZ)(K:aW) v0 (b0:v0=kt ⟨aM,vs,⟨⟨ws,fu⟩,up,⟨⟨ak,ah,aj⟩,ai⟩,Y,aa⟩,us,cs,U,now⟩):b7 kv tab gk 0 K rec [.code (bF gk)] (df [.agg (en aM vs ws fu up ak ah aj ai Y aa (.E (z.list z.aT) us) (.E (z.list z.aU) cs) (bB U) now),.agg [A (Int.ofNat (Lv+11)),A hu,A aq,.E (z.list z.root) rs,cH rg,A bR,A b4,.E (z.list z.target) ts,af a7,cH bG]] [])=(
 v0=true /\
 J (dc 0 hu)
 (K (.an [.agg fU,.one (A 4)]) [])
 (K (.an [.agg fU,.one (A 4)]) [])):=by subst_vars;kernel_rfl

abbrev sl(w:hq×Int):V:=.an [.agg (mv w.1),.one (A w.2)]
theorem Sb(v:hq)(cP:tY)(hu aq:Int)(o:ny)(n:Int)(I:1<=n)(dZ:v.cp.length<=8)(K:aW)(D:K (sl (⟨v.b,v.s,cP,v.aL,v.cp.take (n-1).toNat++[⟨n,o.r,o.cL⟩],v.U,v.now⟩,0)) []):∀(d q:Nat),q<=d->q<=v.cp.length->(n-1<=(q:Int)\/q=v.cp.length) ->
  cl kv tab gk 0 K (d+1) xZ (Lb n 0 0 false 0 0 0 0 1 hu aq o.roots o.kM o.r.version o.r.ca o.r.targets o.sigs o.cL v.b v.s cP.f.words cP.f.fuel cP.up cP.t.r.version cP.t.r.keys cP.t.r.ej cP.t.version cP.cF cP.did q v.now [] [] [] [] [] [] [] [] [] v.aL v.cp v.U)
 |0,q,bO,aI,az=>by
  rw[bW (L:=xZ),UW rfl];refine fa (eC.2 (by omega)) ⟨⟨aI,by simp only[len,List.length_cons,List.length_nil];omega⟩,?_⟩;have e:a2 v.cp 0 q=v.cp.take (n-1).toNat:=by
   rw[show a2 v.cp 0 q=v.cp.take q from rfl];rcases az with az|az
   ·rw[show q=(n-1).toNat by omega]
   ·rw[List.take_of_length_le (by omega),List.take_of_length_le (by omega)]
  rw[e];exact D
 |d+1,q,bO,aI,az=>by
  rw[bW (L:=xZ),UW rfl]
  by_cases m6:n<=(q:Int)
  ·have e:W ((q:Int)-1)=((q-1:Nat):Int):=by rw[cc (by omega) (by omega)];omega
   have aX:Int.toNat (((q-1:Nat):Int)-0)=q-1:=by omega
   rw[e,aX];exact gb (fV.2 m6) ⟨⟨by omega,by omega,by simp only[len];omega⟩,Sb v cP hu aq o n I dZ K D d (q-1) (by omega) (by omega) (by omega)⟩
  ·refine fa (eC.2 (by omega)) ⟨⟨aI,by simp only[len,List.length_cons,List.length_nil];omega⟩,?_⟩;have e:a2 v.cp 0 q=v.cp.take (n-1).toNat:=by
    rw[show a2 v.cp 0 q=v.cp.take q from rfl];rcases az with az|az
    ·rw[show q=(n-1).toNat by omega]
    ·rw[List.take_of_length_le (by omega),List.take_of_length_le (by omega)]
   rw[e];exact D
theorem acB(v:hq)(cP:tY)(hu aq:Int)(o:ny)(n:Int)(I:1<=n)(dZ:v.cp.length<=8)(K:aW)(D:K (sl (⟨v.b,v.s,cP,v.aL,v.cp.take (n-1).toNat++[⟨n,o.r,o.cL⟩],v.U,v.now⟩,0)) []) :
  cl kv tab gk 0 K (v.cp.length+1+1) DU (La n 0 0 false 0 0 0 0 1 hu aq o.roots o.kM o.r.version o.r.ca o.r.targets o.sigs o.cL v.b v.s cP.f.words cP.f.fuel cP.up cP.t.r.version cP.t.r.keys cP.t.r.ej cP.t.version cP.cF cP.did v.now [] [] [] [] [] [] [] [] [] v.aL v.cp v.U):=by
 rw[bW (L:=DU),afk ];have wX:((len v.cp:Nat):Int)=(v.cp.length:Int):=rfl;rw[wX]
 by_cases m6:n<=(v.cp.length:Int)
 ·have e:W ((v.cp.length:Int)-1)=((v.cp.length-1:Nat):Int):=by rw[cc (by omega) (by omega)];omega
  have aX:Int.toNat (((v.cp.length-1:Nat):Int)-0)=v.cp.length-1:=by omega
  rw[e,aX];exact gb (fV.2 m6) ⟨⟨by omega,by omega,by omega⟩,Sb v cP hu aq o n I dZ K D v.cp.length (v.cp.length-1) (by omega) (by omega) (by omega)⟩
 ·refine fa (eC.2 (by omega)) ⟨by simp only[len,List.length_cons,List.length_nil];omega,?_⟩;have e:v.cp.take (n-1).toNat=v.cp:=List.take_of_length_le (by omega);rw[e]at D;exact D
theorem acI(v:hq)(ad hu aq:Int)(o:ny)(ag:p1 v=true)(K:aW)(D:K (sl (kj v ⟨ad,hu,aq,o⟩)) []):∃m,cl kv tab gk 0 K m [.code (bF gk)] (df [.agg (mv v),.agg [A ad,A hu,A aq,.E (z.list z.root) o.roots,cH o.kM,A o.r.version,A o.r.ca,.E (z.list z.target) o.r.targets,af o.sigs,cH o.cL]] []):=by
 obtain⟨aP,aB⟩:=w5.1 ag;have dR:=W4 aP aB;have lW:=aP.g;have hbk:=aP.b;obtain⟨fw,a1,bf,cj,_⟩:=im lW;obtain⟨gh,iM⟩:=aP.od;have dZ:=aP.mu;have oK:=aP.k6;have akm:=aP.n;have aaf:=aP.uh;have aa3:=aP.msg;have Dd:=aP.u;have akk:=aP.t0;have akl:=aP.t1;have wZ:((len v.aL:Nat):Int)=(v.aL.length:Int):=rfl;have Ab:((len v.U:Nat):Int)=(v.U.length:Int):=rfl;have wX:((len v.cp:Nat):Int)=(v.cp.length:Int):=rfl;have leaf:∀w:hq×Int,kj v ⟨ad,hu,aq,o⟩=w->K (sl w) []:=fun w h=>h▸D
 clear D
 by_cases c:0<=ad/\ad<=10
 case neg =>
  have tP:=leaf (iI,4) (k3 (W1 _ (by simp only;omega)) (by decide));refine⟨1,?_⟩;rcases ad with n|n
  ·obtain⟨q,rfl⟩:∃q,n=q+11:=⟨n-11,by simp only[Int.ofNat_eq_natCast]at c;omega⟩
   rw[eO,afn _ _ _ _ _ _ _ _ _ _ _ _ _ _ _ _ _ _ _ _ _ _ _ _ _ _ _ _ rfl];exact⟨dR,cn (fun _=>tP) (fun _=>tP)⟩
  ·rw[eO,afm _ _ _ _ _ _ _ _ _ _ _ _ _ _ _ _ _ _ _ _ _ _ _ _ _ _ _ _ rfl];exact⟨dR,cn (fun _=>tP) (fun _=>tP)⟩
 have c:ad=1\/ad=2\/ad=3\/ad=4\/ad=5\/ad=6\/ad=7\/ad=8\/ad=9\/ad=10\/ad=0:=by omega
 rcases c with rfl|rfl|rfl|rfl|rfl|rfl|rfl|rfl|rfl|rfl|rfl
 ·have av:fh v ⟨1,hu,aq,o⟩=k8 v o:=rfl;obtain⟨r,aw⟩:∃r,iB v.b v.s v.g o v.now=r:=⟨_,rfl⟩
  have CV:mS v o=r:=aw
  by_cases c:r.2.2=0
  ·have jF:=Fp (v:=v) (o:=o) (by rw[CV];exact c);rw[CV]at jF;have e:=nO (av.trans (show k8 v o=(⟨v.b,v.s,r.1,v.aL,qp v.cp r.2.1 o,v.U,v.now⟩,0)from by unfold k8;rw[CV,if_pos c]));refine⟨v.cp.length+1+1+1,?_⟩;rw[eO,UU _ _ _ _ _ _ _ _ _ _ _ _ _ _ _ _ _ _ _ _ _ _ _ _ _ _ _ rfl _ rfl _ rfl _ rfl,aw];refine⟨dR,cn (fun _=>⟨lW,u5 c ?_⟩) (fun _=>⟨lW,u5 c ?_⟩)⟩
   all_goals
    by_cases pO:0<r.2.1
    ·refine cS pO (acB v r.1 hu aq o r.2.1 (by omega) dZ K ?_);rw[show qp v.cp r.2.1 o=v.cp.take (r.2.1-1).toNat++[⟨r.2.1,o.r,o.cL⟩]from if_pos pO]at e;exact leaf _ e
    ·rw[show qp v.cp r.2.1 o=v.cp from if_neg pO]at e;exact co (by omega) (leaf _ e)
  ·have L:=leaf _ (k3 (av.trans (show k8 v o=(v,r.2.2)from by unfold k8;rw[CV,if_neg c])) c);refine⟨1,?_⟩;rw[eO,UU _ _ _ _ _ _ _ _ _ _ _ _ _ _ _ _ _ _ _ _ _ _ _ _ _ _ _ rfl _ rfl _ rfl _ rfl,aw];exact⟨dR,cn (fun _=>⟨lW,bN (fun _=>L) (fun h=>absurd h c)⟩) (fun _=>⟨lW,bN (fun _=>L) (fun h=>absurd h c)⟩)⟩
 ·have av:fh v ⟨2,hu,aq,o⟩=if hu<0\/(v.aL.length:Int)<=hu then(v,5)else k7 v hu:=rfl
  refine⟨1,?_⟩;rw[eO,afo _ _ _ _ _ _ _ _ _ _ _ _ _ _ _ _ _ _ _ _ _ _ _ _ _ _ _ rfl _ rfl _ rfl _ rfl _ rfl _ rfl _ rfl _ rfl]
  by_cases eo:hu<0\/(v.aL.length:Int)<=hu
  ·have L:=leaf _ (k3 (av.trans (if_pos eo)) (by decide));refine⟨dR,cn (fun a=>cn (fun _=>L) (fun b=>?_)) (fun _=>L)⟩;rw[fV]at a;simp only[Bool.not_eq_false',oS,wZ]at b;omega
  rw[if_neg eo]at av;obtain⟨s,nW⟩:∃s,bL v.g.f=s:=⟨_,rfl⟩
  have dw:=q0 v.g.f;rw[nW]at dw;have mD:=dw.mD;have n2:=dw.n2;have aw:ks v.g=(s,0):=(D2 lW).trans (by rw[nW]);have C7:k7 v hu=if (v.cp.length:Int)<s.n then(v,5)else if (hj v.g (iR v) hu).2=0 then(⟨v.b,v.s,v.g,v.aL,v.cp,hz v.U (hj v.g (iR v) hu).1,v.now⟩,0)else(v,(hj v.g (iR v) hu).2):=by unfold k7;rw[aw];rfl
  rw[nW];refine⟨dR,gb (fV.2 (by omega)) (Aq (oS.2 (by omega)) ⟨fw,?_⟩)⟩
  by_cases eJ:(v.cp.length:Int)<s.n
  ·exact cS eJ (leaf _ (k3 (av.trans (C7.trans (if_pos eJ))) (by decide)))
  rw[if_neg eJ]at C7;refine co (by omega) ?_;have az:iR v=if 0<s.n then nth v.cp (s.n-1).toNat pX else pX:=by unfold iR;rw[aw];rfl
  have hsend:=HK v.g (iR v) hu;have fin:J (!(au (hj v.g (iR v) hu).2 0)) (K (sl (iI,(hj v.g (iR v) hu).2)) []) ((v.U.length<=1000/\(hj v.g (iR v) hu).1.length<=1000)/\K (sl ((⟨v.b,v.s,v.g,v.aL,v.cp,hz v.U (hj v.g (iR v) hu).1,v.now⟩:hq),0)) []) :=
   bN (fun q=>leaf _ (k3 (av.trans (C7.trans (if_neg q))) q)) (fun q=>⟨⟨by omega,hsend.1⟩,leaf _ (nO (av.trans (C7.trans (if_pos q))))⟩)
  by_cases Hy:0<s.n
  ·have cb:W (s.n-1)=s.n-1:=cc (by omega) (by omega);obtain⟨ei,eU,_⟩:=aaf _ (h9 (l:=v.cp) (k:=(s.n-1).toNat) (by omega) (z.H z.aU));rw[az,if_pos Hy]at fin;rw[cb];exact cS Hy ⟨⟨by omega,by omega⟩,by simp only[len];omega,⟨lW,by omega,by omega⟩,fin⟩
  ·rw[az,if_neg Hy]at fin;exact co (by omega) ⟨⟨lW,by decide,by decide⟩,fin⟩
 ·have av:fh v ⟨3,hu,aq,o⟩=jK v 3 aq:=rfl;refine⟨1,?_⟩;rw[eO,afp _ _ _ _ _ _ _ _ _ _ _ _ _ _ _ _ _ _ _ _ _ _ _ _ _ _ _ rfl _ rfl _ rfl _ rfl _ rfl _ rfl _ rfl _ rfl _ rfl _ rfl _ rfl _ rfl]
  by_cases rm:aq<0\/(v.U.length:Int)<=aq
  ·have L:=leaf _ (k3 (av.trans (if_pos rm)) (by decide));refine⟨dR,cn (fun _=>bq (fun _=>L) (fun _=>cn (fun _=>L) (fun b=>?_))) (fun _=>bq (fun _=>L) (fun _=>cn (fun _=>L) (fun b=>?_)))⟩<;>(rw[eC,Ab]at b;omega)
  have cb:W (aq+1)=aq+1:=cc (by omega) (by omega);have hU:cat (a2 v.U 0 aq.toNat) (a2 v.U (aq+1).toNat ((aq+1).toNat+(((len v.U:Nat):Int)-(aq+1)).toNat))=v.U.eraseIdx aq.toNat:=by
   rw[Ab,show(aq+1).toNat=aq.toNat+1 by omega,show((v.U.length:Int)-(aq+1)).toNat=v.U.length-(aq.toNat+1)from by omega];exact PV v.U _ (by omega)
  have uM:jK v 3 aq=(ik v aq.toNat,0):=by unfold jK;rw[if_neg rm,if_pos rfl]
  have lr:=h9 (l:=v.U) (k:=aq.toNat) (by omega) (z.H z.message);have uC:=aB _ lr;have IX:=(aa3 _ lr).2;rw[cb,hU];have hle:(v.U.eraseIdx aq.toNat).length<=1000:=Nat.le_trans (List.length_eraseIdx_le v.U _) (by omega);obtain⟨m,fe⟩:∃m,nth v.U aq.toNat (z.H z.message)=m:=⟨_,rfl⟩
  rw[fe]at uC IX |-;have QV:v.U.getD aq.toNat l7=m:=fe;obtain⟨_,_,hm,tg,Ag,Ah,_⟩:=ov uC;refine⟨dR,cn (fun _=>co (by omega) (fa (eC.2 (by omega)) ⟨⟨by omega,by omega⟩,by simp only[len];omega,⟨by omega,rfl,by omega⟩,⟨by omega,by omega,by omega⟩,⟨by simp only[len];omega,by simp only[len];omega,by simp only[len,a2,List.length_drop,List.length_take];omega⟩,?_⟩)) (fun _=>co (by omega) (fa (eC.2 (by omega)) ⟨⟨by omega,by omega⟩,by simp only[len];omega,⟨by omega,rfl,by omega⟩,⟨by omega,by omega,by omega⟩,⟨by simp only[len];omega,by simp only[len];omega,by simp only[len,a2,List.length_drop,List.length_take];omega⟩,?_⟩))⟩
  all_goals
   by_cases cr:m.kind=3\/m.kind=6\/m.kind=7
   ·have bs:=QG (g:=v.g) (m:=m) lW ⟨hm,by omega,Ag,Ah⟩;have MD:lF m=true:=by simp only[lF,Bool.or_eq_true,decide_eq_true_eq];omega
    have e:=nO (av.trans (uM.trans (show(ik v aq.toNat,(0:Int))=(⟨v.b,v.s,(iu v.g m).1,v.aL,v.cp,hz (v.U.eraseIdx aq.toNat) (iu v.g m).2,v.now⟩,0)from by
     unfold ik;rw[show v.U.getD aq.toNat l7=m from QV,if_pos MD];unfold BF;rw[show hK (pz v aq.toNat).g m=(iu v.g m,0)from bs,if_pos rfl];rfl)))
    have ax:(iu v.g m).2.length<=1000:=by have:=(QJ (m:=m) lW).2.1;omega
    refine cz (fun _=>?_) (fun iY=>cz (fun _=>?_) (fun aku=>cz (fun _=>?_) (fun akv=>by omega)))
    all_goals exact⟨⟨lW,hm,by omega,Ag,Ah⟩,⟨hle,ax⟩,leaf _ e⟩
   ·have abO:=aat (b:=v.b) (u:=nth v.aL m.unit.toNat (z.H z.aT)) (m:=m) hbk (Dd _ (h9 (by omega) _)) uC;have MD:lF m=false:=by simp only[lF,Bool.or_eq_false_iff,decide_eq_false_iff_not];omega
    have e:=nO (av.trans (uM.trans (show(ik v aq.toNat,(0:Int))=(⟨v.b,v.s,v.g,setAt v.aL m.unit.toNat (g3 v.b (nth v.aL m.unit.toNat (z.H z.aT)) m).1,v.cp,hz (v.U.eraseIdx aq.toNat) (g3 v.b (nth v.aL m.unit.toNat (z.H z.aT)) m).2,v.now⟩,0)from by
     unfold ik;rw[show v.U.getD aq.toNat l7=m from QV,if_neg (by rw[MD];decide)];unfold BG;rw[show hV (pz v aq.toNat).b (iN (pz v aq.toNat) m.unit) m=(g3 v.b (nth v.aL m.unit.toNat (z.H z.aT)) m,0)from abO,if_pos rfl];rfl)))
    have ax:(g3 v.b (nth v.aL m.unit.toNat (z.H z.aT)) m).2.length<=1000:=by have:=(aaB (b:=v.b) (u:=nth v.aL m.unit.toNat (z.H z.aT)) (m:=m)).1;omega
    exact iC (by omega) (iC (by omega) (iC (by omega) ⟨⟨hm,by omega⟩,by simp only[len];omega,⟨hbk,Dd _ (h9 (by omega) _),uC⟩,⟨hm,by omega⟩,by simp only[len];omega,⟨hle,ax⟩,leaf _ e⟩))
 ·have av:fh v ⟨4,hu,aq,o⟩=jK v 4 aq:=rfl;refine⟨1,?_⟩;rw[eO,afq _ _ _ _ _ _ _ _ _ _ _ _ _ _ _ _ _ _ _ _ _ _ _ _ _ _ _ rfl _ rfl]
  by_cases rm:aq<0\/(v.U.length:Int)<=aq
  ·have L:=leaf _ (k3 (av.trans (if_pos rm)) (by decide));refine⟨dR,cn (fun _=>bq (fun _=>L) (fun _=>cn (fun _=>L) (fun b=>?_))) (fun _=>bq (fun _=>L) (fun _=>cn (fun _=>L) (fun b=>?_)))⟩<;>(rw[eC,Ab]at b;omega)
  have cb:W (aq+1)=aq+1:=cc (by omega) (by omega);have hU:cat (a2 v.U 0 aq.toNat) (a2 v.U (aq+1).toNat ((aq+1).toNat+(((len v.U:Nat):Int)-(aq+1)).toNat))=v.U.eraseIdx aq.toNat:=by
   rw[Ab,show(aq+1).toNat=aq.toNat+1 by omega,show((v.U.length:Int)-(aq+1)).toNat=v.U.length-(aq.toNat+1)from by omega];exact PV v.U _ (by omega)
  have uM:jK v 4 aq=(pz v aq.toNat,0):=by unfold jK;rw[if_neg rm,if_neg (by decide),if_pos rfl]
  have L:=leaf _ (nO (av.trans uM));rw[cb,hU];refine⟨dR,cn (fun _=>co (by omega) (fa (eC.2 (by omega)) ⟨⟨by omega,by omega⟩,by simp only[len];omega,⟨by omega,rfl,by omega⟩,⟨by omega,by omega,by omega⟩,⟨by simp only[len];omega,by simp only[len];omega,by simp only[len,a2,List.length_drop,List.length_take];omega⟩,L⟩)) (fun _=>co (by omega) (fa (eC.2 (by omega)) ⟨⟨by omega,by omega⟩,by simp only[len];omega,⟨by omega,rfl,by omega⟩,⟨by omega,by omega,by omega⟩,⟨by simp only[len];omega,by simp only[len];omega,by simp only[len,a2,List.length_drop,List.length_take];omega⟩,L⟩))⟩
 ·have av:fh v ⟨5,hu,aq,o⟩=jK v 5 aq:=rfl;refine⟨1,?_⟩;rw[eO,afr _ _ _ _ _ _ _ _ _ _ _ _ _ _ _ _ _ _ _ _ _ _ _ _ _ _ _ rfl _ rfl _ rfl]
  by_cases rm:aq<0\/(v.U.length:Int)<=aq
  ·have L:=leaf _ (k3 (av.trans (if_pos rm)) (by decide));refine⟨dR,cn (fun _=>bq (fun _=>L) (fun _=>cn (fun _=>L) (fun b=>?_))) (fun _=>bq (fun _=>L) (fun _=>cn (fun _=>L) (fun b=>?_)))⟩<;>(rw[eC,Ab]at b;omega)
  have uM:jK v 5 aq=if v.U.length=24 then(v,8)else(⟨v.b,v.s,v.g,v.aL,v.cp,hz v.U [nth v.U aq.toNat (z.H z.message)],v.now⟩,0):=by unfold jK;rw[if_neg rm,if_neg (by decide),if_neg (by decide),if_pos rfl];rfl
  have fin:J (au ((len v.U:Nat):Int) 24) (K (sl (iI,(8:Int))) []) ((v.U.length<=1000/\[nth v.U aq.toNat (z.H z.message)].length<=1000)/\K (sl ((⟨v.b,v.s,v.g,v.aL,v.cp,hz v.U [nth v.U aq.toNat (z.H z.message)],v.now⟩:hq),0)) []) :=
   cz (fun q=>leaf _ (k3 (av.trans (uM.trans (if_pos (by simp only[len]at q;omega)))) (by decide))) (fun q=>⟨⟨by omega,by simp⟩,leaf _ (nO (av.trans (uM.trans (if_neg (by simp only[len]at q;omega)))))⟩)
  exact⟨dR,cn (fun _=>co (by omega) (fa (eC.2 (by omega)) ⟨⟨by omega,by omega⟩,by simp only[len];omega,fin⟩)) (fun _=>co (by omega) (fa (eC.2 (by omega)) ⟨⟨by omega,by omega⟩,by simp only[len];omega,fin⟩))⟩
 ·have av:fh v ⟨6,hu,aq,o⟩=jN v 6 hu aq:=rfl;have E6:hu < -1\/(v.aL.length:Int)<=hu->_:=fun h=>leaf _ (k3 (av.trans (if_pos h)) (by decide))
  have NH:¬(hu < -1\/(v.aL.length:Int)<=hu)->(aq<0\/100000<aq)->_:=fun h G=>leaf _ (k3 (w:=v) (e:=3) (av.trans (by unfold jN;rw[if_neg h,if_pos ⟨rfl,G⟩])) (by decide))
  have cD:¬(hu < -1\/(v.aL.length:Int)<=hu)->¬(aq<0\/100000<aq)->hu<0->_:=fun h G ab=>leaf _ (nO (w:=Ih v aq) (av.trans (by unfold jN;rw[if_neg h,if_neg (fun q=>G q.2),if_pos rfl,if_pos ab])))
  have c3:¬(hu < -1\/(v.aL.length:Int)<=hu)->¬(aq<0\/100000<aq)->¬hu<0->_:=fun h G ab=>leaf _ (nO (w:=q4 v hu (zv (iN v hu) aq)) (av.trans (by unfold jN;rw[if_neg h,if_neg (fun q=>G q.2),if_pos rfl,if_neg ab])))
  refine⟨1,?_⟩;rw[eO,afs _ _ _ _ _ _ _ _ _ _ _ _ _ _ _ _ _ _ _ _ _ _ _ _ _ _ _ rfl _ rfl _ rfl];refine⟨dR,cn (fun a=>cn (fun b=>cn (fun d=>?_) (fun d=>?_)) (fun b=>?_)) (fun a=>cn (fun b=>?_) (fun b=>?_))⟩
  all_goals
   simp only[Bool.not_eq_true',Bool.not_eq_false',kA,oy,oS,wY,fV,eC,ne_eq,wZ]at *
   first
    |exact E6 (by omega)
    |exact bq (fun p=>NH (by omega) (by omega)) (fun p=>bq (fun q=>NH (by omega) (by omega)) (fun q=>cz (fun t=>cD (by omega) (by omega) (by omega)) (fun t=>⟨⟨by omega,by omega⟩,by simp only[len];omega,c3 (by omega) (by omega) (by omega)⟩)))
 ·have av:fh v ⟨7,hu,aq,o⟩=jN v 7 hu aq:=rfl;have E6:hu < -1\/(v.aL.length:Int)<=hu->_:=fun h=>leaf _ (k3 (av.trans (if_pos h)) (by decide))
  have cD:¬(hu < -1\/(v.aL.length:Int)<=hu)->hu<0->_:=fun h ab=>leaf _ (nO (w:=v8 v) (av.trans (by unfold jN;rw[if_neg h,if_neg (fun q=>absurd q.1 (by decide)),if_neg (by decide),if_pos ab])))
  have CU:0<=hu->hu<v.aL.length->qo (iN v hu)=(⟨⟨(nth v.aL hu.toNat (z.H z.aT)).f.words,-1⟩,true,0,0⟩,0):=fun a b=>N8 (Dd _ (h9 (by omega) _))
  have c3:¬(hu < -1\/(v.aL.length:Int)<=hu)->¬hu<0->K (sl ((⟨v.b,v.s,v.g,setAt v.aL hu.toNat ⟨⟨(nth v.aL hu.toNat (z.H z.aT)).f.words,-1⟩,true,0,0⟩,v.cp,v.U,v.now⟩:hq),0)) []:=fun h ab=>leaf _ (nO (av.trans (show jN v 7 hu aq=(q4 v hu ⟨⟨(nth v.aL hu.toNat (z.H z.aT)).f.words,-1⟩,true,0,0⟩,0)from by unfold jN;rw[if_neg h,if_neg (fun q=>absurd q.1 (by decide)),if_neg (by decide),if_neg ab,CU (by omega) (by omega)])))
  have ab6:((len v.aL:Nat):Int).toNat=v.g.cF.length:=by rw[wZ];omega
  have aac:v8 v=⟨v.b,v.s,⟨⟨v.g.f.words,-1⟩,true,v.g.t,c6 ((len v.aL:Nat):Int).toNat false,c6 ((len v.aL:Nat):Int).toNat false⟩,v.aL,v.cp,v.U,v.now⟩:=by
   unfold v8;rw[show su v.g=_ from N7 lW,ab6];simp only[cj]
  rw[aac]at cD;refine⟨1,?_⟩;rw[eO,aft _ _ _ _ _ _ _ _ _ _ _ _ _ _ _ _ _ _ _ _ _ _ _ _ _ _ _ rfl _ rfl _ rfl _ rfl _ rfl _ rfl];refine⟨dR,cn (fun a=>cn (fun b=>cn (fun d=>?_) (fun d=>?_)) (fun b=>?_)) (fun a=>cn (fun b=>?_) (fun b=>?_))⟩
  all_goals
   simp only[Bool.not_eq_true',Bool.not_eq_false',kA,oy,oS,wY,fV,eC,ne_eq,wZ]at a b
   try simp only[Bool.not_eq_true',Bool.not_eq_false',oS,wY,wZ]at d
   first
    |exact E6 (by omega)
    |(refine cz (fun t=>⟨⟨by omega,by omega,by omega⟩,⟨by omega,by omega,by omega⟩,cD (by omega) (by omega)⟩) (fun t=>?_)
      have hi:hu.toNat<v.aL.length:=by omega
      have ax:Int.toNat hu<len v.aL:=hi;simp only[ac0 hi,agI,acw];exact⟨⟨by omega,by omega⟩,ax,ax,ax,ax,c3 (by omega) (by omega)⟩)
 ·have av:fh v ⟨8,hu,aq,o⟩=qE v:=rfl;obtain⟨r,aw⟩:∃r,j1 v.g=r:=⟨_,rfl⟩
  have uI:qE v=if r.2=0 then(⟨v.b,v.s,r.1,v.aL,v.cp,v.U,v.now⟩,0)else(v,r.2):=by unfold qE;rw[show j1 v.g=r from aw]
  refine⟨1,?_⟩;rw[eO,afu _ _ _ _ _ _ _ _ _ _ _ _ _ _ _ _ _ _ _ _ _ _ _ _ _ _ _ rfl _ rfl _ rfl _ rfl,aw];refine⟨dR,cn (fun _=>⟨lW,?_⟩) (fun _=>⟨lW,?_⟩)⟩
  all_goals exact bN (fun q=>leaf _ (k3 (av.trans (uI.trans (if_neg q))) q)) (fun q=>leaf _ (nO (av.trans (uI.trans (if_pos q)))))
 ·have av:fh v ⟨9,hu,aq,o⟩=if hu<0\/(v.aL.length:Int)<=hu then(v,5)else jz v hu:=rfl
  refine⟨1,?_⟩;rw[eO,afv _ _ _ _ _ _ _ _ _ _ _ _ _ _ _ _ _ _ _ _ _ _ _ _ _ _ _ rfl _ rfl _ rfl _ rfl]
  by_cases eo:hu<0\/(v.aL.length:Int)<=hu
  ·have L:=leaf _ (k3 (av.trans (if_pos eo)) (by decide));refine⟨dR,cn (fun a=>cn (fun _=>L) (fun b=>?_)) (fun _=>L)⟩;rw[fV]at a;simp only[Bool.not_eq_false',oS,wZ]at b;omega
  rw[if_neg eo]at av;have zJ:=Dd _ (h9 (l:=v.aL) (k:=hu.toNat) (by omega) (z.H z.aT));obtain⟨u,gS⟩:∃u,nth v.aL hu.toNat (z.H z.aT)=u:=⟨_,rfl⟩
  rw[gS]at zJ |-;have uP:mc (iN v hu)=(c2 u.f,0):=by rw[show iN v hu=u from gS];exact afQ zJ
  have dw:=w4 u.f;obtain⟨s,nW⟩:∃s,c2 u.f=s:=⟨_,rfl⟩
  have abM:c2 ⟨u.f.words,u.f.fuel⟩=s:=nW;rw[nW]at uP dw;rw[abM];have has:jz v hu=if u.up=true then(if s.ready<1\/8<s.ready then(v,12)else(⟨v.b,v.s,v.g,v.aL,v.cp,hz v.U (Fh hu s.ready),v.now⟩,0))else(v,7):=by unfold jz;rw[uP,show iN v hu=u from gS];rfl
  refine⟨dR,gb (fV.2 (by omega)) (Aq (oS.2 (by omega)) ⟨⟨by omega,by omega⟩,by simp only[len];omega,(qs zJ).1,?_⟩)⟩;refine eF (fun q=>leaf _ (k3 (av.trans (has.trans (if_neg (by rw[q];decide)))) (by decide))) (fun q=>?_);rw[if_pos q]at has;have Da:=dw.2.2.1
  by_cases PB:s.ready<1\/8<s.ready
  ·have L:=leaf _ (k3 (av.trans (has.trans (if_pos PB))) (by decide));exact cz (fun _=>L) (fun e=>cS (by omega) L)
  ·exact iC (by omega) (co (by omega) ⟨⟨by omega,by simp⟩,leaf _ (nO (av.trans (has.trans (if_neg PB))))⟩)
 ·have av:fh v ⟨10,hu,aq,o⟩=tG v:=rfl;have cb:W (v.now+1)=v.now+1:=cc (by omega) (by omega);refine⟨1,?_⟩;rw[eO,afw _ _ _ _ _ _ _ _ _ _ _ _ _ _ _ _ _ _ _ _ _ _ _ _ _ _ _ rfl _ rfl,cb];refine⟨dR,cn (fun _=>?_) (fun _=>?_)⟩
  all_goals exact cz (fun q=>leaf _ (k3 (av.trans (if_pos q)) (by decide))) (fun q=>leaf _ (nO (av.trans (if_neg q))))
 ·have tP:=leaf (iI,4) (k3 (W1 _ (by simp only;omega)) (by decide));refine⟨1,?_⟩;rw[eO,afl _ _ _ _ _ _ _ _ _ _ _ _ _ _ _ _ _ _ _ _ _ _ _ _ _ _ _ rfl];exact⟨dR,cn (fun _=>tP) (fun _=>tP)⟩
theorem agp(ag:p1 ⟨aM,vs,⟨⟨ws,fu⟩,up,⟨⟨ak,ah,aj⟩,ai⟩,Y,aa⟩,us,cs,U,now⟩=true)(K:aW)(D:K (.an [.agg (mv (kj ⟨aM,vs,⟨⟨ws,fu⟩,up,⟨⟨ak,ah,aj⟩,ai⟩,Y,aa⟩,us,cs,U,now⟩ ⟨ad,hu,aq,⟨rs,rg,⟨bR,b4,ts⟩,a7,bG⟩⟩).1),.one (A (kj ⟨aM,vs,⟨⟨ws,fu⟩,up,⟨⟨ak,ah,aj⟩,ai⟩,Y,aa⟩,us,cs,U,now⟩ ⟨ad,hu,aq,⟨rs,rg,⟨bR,b4,ts⟩,a7,bG⟩⟩).2)]) []):pf kv gk 0 K [.agg (en aM vs ws fu up ak ah aj ai Y aa (.E (z.list z.aT) us) (.E (z.list z.aU) cs) (bB U) now),.agg [A ad,A hu,A aq,.E (.list .root) rs,cH rg,A bR,A b4,.E (.list .target) ts,af a7,cH bG]] []:=by
 exact acI ⟨aM,vs,⟨⟨ws,fu⟩,up,⟨⟨ak,ah,aj⟩,ai⟩,Y,aa⟩,us,cs,U,now⟩ ad hu aq ⟨rs,rg,⟨bR,b4,ts⟩,a7,bG⟩ ag K D
theorem aip:bw 8 GP:=hN adC Tryz.func8 (by kernel_rfl) (by
 intro vs ar p v dB h ag;unfold GP at h;split at h
 ·cases h;exact⟨by kernel_rfl,rfl,.inl (agp _ _ _ _ _ _ _ _ _ _ _ _ _ _ _ _ _ _ _ _ _ _ _ _ _ ag.1 _ ⟨rfl,rfl⟩)⟩
 ·cases h)

def GQ:bd
 |[.one (.E (.list .int) a),.one (.E (.list .int) b)],[]=>some (some (eQ a),.one (ay (gj a b)),[])
 |_,_=>none
def Ns:Ctx:=[]
def x0:List cw:=[.inLoop [13,12,4,0,1] (Code.sub (bF Tryz.f9) [1,1,0,1,0,0]),.inBlock 0,.code (Code.sub (bF Tryz.f9) [1,1,1])]
def Lc(F al:Int)(M:Bool)(ae ao:aJ):bP:=⟨[(13,.one (A F)),(12,.one (A al)),(4,.one (ay M)),(0,.one (af ae)),(1,.one (af ao))],[],0⟩
theorem UX{F:Int}{rec:bZ}{K:aW}{al M ae ao}{v0}(b0:v0=fun a=>Lc a al M ae ao):b7 Ns tab Tryz.f9 0 K rec (cQ x0) (v0 F)=(
 J (aN F al)
 (((0:Int)<=F/\F<(len ae:Int)) /\
 ((0:Int)<=F/\F<(len ao:Int)) /\
 J (!(au (nth ae (Int.toNat F) (z.H z.int)) (nth ao (Int.toNat F) (z.H z.int))))
 (K fi [])
 (rec x0 (v0 (W (F+1)))))
 (K og [])):=by subst_vars;kernel_rfl

theorem SW(a b:aJ)(ax:a.length=b.length)(av:eQ a)(K:aW)(D:K (.one (ay (gj a b))) []):∀(d k:Nat),k+d=a.length->a.take k=b.take k ->
  cl Ns tab Tryz.f9 0 K (d+1) x0 (Lc (k:Int) (((len a):Nat):Int) false a b)
 |0,k,ad,bp=>by
  rw[bW (L:=x0),UX rfl];refine co (by simp only[len];omega) ?_;rw[List.take_of_length_le (by omega),List.take_of_length_le (by omega)]at bp;rw[show gj a b=true from by simp[gj,bp]]at D;exact D
 |d+1,k,ad,bp=>by
  unfold eQ at av;rw[bW (L:=x0),UX rfl];refine cS (by simp only[len];omega) ⟨⟨by omega,by simp only[len];omega⟩,⟨by omega,by simp only[len];omega⟩,bN (fun dz=>?_) (fun heq=>?_)⟩
  ·rw[show gj a b=false from by simp only[gj,decide_eq_false_iff_not];rintro rfl;exact dz rfl]at D;exact D
  ·rw[di (by omega)];refine SW a b ax ‹eQ a› K D d (k+1) (by omega) ?_;rw[ie (by omega) (z.H z.int),ie (by omega) (z.H z.int),bp];rw[cM]at heq;rw[heq]
theorem aiq:bw 9 GQ:=b2 (Γ:=Ns) 0 bv Tryz.func9 (by kernel_rfl) fun vs ar=>by
 unfold GQ;split;rotate_left;trivial;rename_i a b;refine⟨by kernel_rfl,fun ag K D=>?_⟩;refine⟨a.length+2,?_⟩;refine ck (fun rec=>(by kernel_rfl:_=(
  J (!(au (len a:Int) (len b:Int)))
  (K fi [])
  (rec x0 (Lc 0 (len a:Int) false a b))))) ?_
 refine bN (fun h=>?_) (fun h=>?_)
 ·rw[show gj a b=false from by simp only[gj,decide_eq_false_iff_not];rintro rfl;exact h rfl]at D;exact D
 ·exact SW a b (by simp only[len]at h;omega) ag K D a.length 0 (by omega) rfl

def Bs:Ctx:=[(4,B8),(5,GM),(6,GG),(7,GJ),(8,GP),(9,GQ)]
theorem adD:fz Tryz.prog tab Bs:=((((((bv.f aiq).f aip).f aij).f aif).f aim).f WB)
def vn:List cw:=[.inLoop [54,53,52,9,7,6,5,4,2] (Code.sub (bF Tryz.f3) [1,1,1,1,1,1,0,1,0,0]),.inBlock 0,.code (Code.sub (bF Tryz.f3) [1,1,1,1,1,1,1])]
def Ld(F al:Int)(M:List rh)(ae:Int)(ao:aJ)(aE:Bool)(aH:aJ)(aS:cB)(aZ:cD)(bc:aJ)(bn:Int)(bo:Bool)(bm:Int)(bC:aJ)(bJ bI:Int)(bM bz:c9)(bS:c3)(bY:db)(cq:cG)(cv:Int)(cN:cB)(c0:cD)(c5:aJ)(dq:Int)(dt:Bool)(dH:Int)(dI:aJ)(dr dD:Int)(dx ea:c9)(dW:c3)(eb:db)(ek:cG)(fj:Int):bP:=⟨[(54,.one (A F)),(53,.one (A al)),(52,.one (.E (z.list z.fc) M)),(9,.one (.own 0)),(7,.one (A ae)),(6,.one (af ao)),(5,.one (.ptr 1 0)),(4,.one (ay aE)),(2,.one (.ptr 2 0))],[(0,.arr z.int aH),(1,.box [.E (z.list z.str) aS,.E (z.list z.signed) aZ,af bc,A bn,ay bo,A bm,af bC,A bJ,A bI,bj bM,bj bz,.E (z.list z.aT) bS,.E (z.list z.aU) bY,bB cq,A cv]),(2,.box [.E (z.list z.str) cN,.E (z.list z.signed) c0,af c5,A dq,ay dt,A dH,af dI,A dr,A dD,bj dx,bj ea,.E (z.list z.aT) dW,.E (z.list z.aU) eb,bB ek,A fj])],3⟩
theorem Le(aM:cB)(vs:cD)(ws:aJ)(fu:Int)(up:Bool)(ak:Int)(ah:aJ)(aj ai:Int)(Y aa:c9)(us:c3)(cs:db)(U:cG)(now:Int)(ax:List mQ)(rec:bZ)(K:aW) v0 (b0:v0=qa ⟨aM,vs,⟨⟨ws,fu⟩,up,⟨⟨ak,ah,aj⟩,ai⟩,Y,aa⟩,us,cs,U,now⟩) v1 (cd:v1=mV ⟨aM,vs,⟨⟨ws,fu⟩,up,⟨⟨ak,ah,aj⟩,ai⟩,Y,aa⟩,us,cs,U,now⟩) aC (cR:aC=p7 ⟨aM,vs,⟨⟨ws,fu⟩,up,⟨⟨ak,ah,aj⟩,ai⟩,Y,aa⟩,us,cs,U,now⟩ ax) v3 (ef:v3=qa ⟨aC.fst.b,aC.fst.s,⟨⟨aC.fst.g.f.words,aC.fst.g.f.fuel⟩,aC.fst.g.up,⟨⟨aC.fst.g.t.r.version,aC.fst.g.t.r.keys,aC.fst.g.t.r.ej⟩,aC.fst.g.t.version⟩,aC.fst.g.cF,aC.fst.g.did⟩,aC.fst.aL,aC.fst.cp,aC.fst.U,aC.fst.now⟩) v4 (e1:v4=sd ⟨aC.fst.b,aC.fst.s,⟨⟨aC.fst.g.f.words,aC.fst.g.f.fuel⟩,aC.fst.g.up,⟨⟨aC.fst.g.t.r.version,aC.fst.g.t.r.keys,aC.fst.g.t.r.ej⟩,aC.fst.g.t.version⟩,aC.fst.g.cF,aC.fst.g.did⟩,aC.fst.aL,aC.fst.cp,aC.fst.U,aC.fst.now⟩ ⟨[],[],⟨⟨[],0⟩,false,⟨⟨0,[],0⟩,0⟩,[],[]⟩,[],[],[],0⟩) dK (km:dK=J (au (len aC.snd.fst:Int) 0)
 (v3=true /\
 K (.one (ay v4)) [])
 (K fi [])) cf (g5:cf=J (!(au v1 0))
 (J (au aC.snd.snd v1)
 dK
 (K fi []))
 (rec vn (Ld 0 (len ax:Int) ax aC.snd.snd aC.snd.fst false [] aC.fst.b aC.fst.s aC.fst.g.f.words aC.fst.g.f.fuel aC.fst.g.up aC.fst.g.t.r.version aC.fst.g.t.r.keys aC.fst.g.t.r.ej aC.fst.g.t.version aC.fst.g.cF aC.fst.g.did aC.fst.aL aC.fst.cp aC.fst.U aC.fst.now aM vs ws fu up ak ah aj ai Y aa us cs U now))):b7 Bs tab Tryz.f3 0 K rec [.code (bF Tryz.f3)] (df [.agg (en aM vs ws fu up ak ah aj ai Y aa (.E (z.list z.aT) us) (.E (z.list z.aU) cs) (bB U) now),.one (.E (z.list z.fc) ax)] [])=(
 v0=true /\
 J (au v1 0)
 (J (aN 160 (len ax:Int))
 (J (au aC.snd.snd 2)
 dK
 (K fi []))
 cf)
 cf):=by subst_vars;kernel_rfl
theorem UY{F dq dH dr dD fj:Int}{aH c5 dI:aJ}{cN:cB}{c0:cD}{dt:Bool}{dx ea:c9}{dW:c3}{eb:db}{ek:cG}{rec:bZ}{K:aW}{al M ae ao aE aS aZ bc bn bo bm bC bJ bI bM bz bS bY cq cv}{cf v0 v1 aC v3 v4}(g5:cf=fun a b c d e f g h i j k l m n o p q=>Ld a al M ae ao aE b aS aZ bc bn bo bm bC bJ bI bM bz bS bY cq cv c d e f g h i j k l m n o p q)(b0:v0=p1 ⟨cN,c0,⟨⟨c5,dq⟩,dt,⟨⟨dH,dI,dr⟩,dD⟩,dx,ea⟩,dW,eb,ek,fj⟩)(cd:v1=kj ⟨cN,c0,⟨⟨c5,dq⟩,dt,⟨⟨dH,dI,dr⟩,dD⟩,dx,ea⟩,dW,eb,ek,fj⟩ ⟨(nth M (Int.toNat F) (z.H z.fc)).kind,(nth M (Int.toNat F) (z.H z.fc)).unit,(nth M (Int.toNat F) (z.H z.fc)).k,⟨((nth M (Int.toNat F) (z.H z.fc)).o).roots,((nth M (Int.toNat F) (z.H z.fc)).o).kM,⟨(((nth M (Int.toNat F) (z.H z.fc)).o).r).version,(((nth M (Int.toNat F) (z.H z.fc)).o).r).ca,(((nth M (Int.toNat F) (z.H z.fc)).o).r).targets⟩,((nth M (Int.toNat F) (z.H z.fc)).o).sigs,((nth M (Int.toNat F) (z.H z.fc)).o).cL⟩⟩)(cR:aC=gj ao aH)(ef:v3=qa ⟨aS,aZ,⟨⟨bc,bn⟩,bo,⟨⟨bm,bC,bJ⟩,bI⟩,bM,bz⟩,bS,bY,cq,cv⟩)(e1:v4=sd ⟨aS,aZ,⟨⟨bc,bn⟩,bo,⟨⟨bm,bC,bJ⟩,bI⟩,bM,bz⟩,bS,bY,cq,cv⟩ ⟨cN,c0,⟨⟨c5,dq⟩,dt,⟨⟨dH,dI,dr⟩,dD⟩,dx,ea⟩,dW,eb,ek,fj⟩):b7 Bs tab Tryz.f3 0 K rec (cQ vn) (cf F aH cN c0 c5 dq dt dH dI dr dD dx ea dW eb ek fj)=(
 J (aN F al)
 (((0:Int)<=F/\F<(len M:Int)) /\
 v0=true /\
 J (au v1.snd 0)
 ((len aH+len (v1.snd::[]))*8<=140737488355328 /\
 rec vn (cf (W (F+1)) (cat aH (v1.snd::[])) v1.fst.b v1.fst.s v1.fst.g.f.words v1.fst.g.f.fuel v1.fst.g.up v1.fst.g.t.r.version v1.fst.g.t.r.keys v1.fst.g.t.r.ej v1.fst.g.t.version v1.fst.g.cF v1.fst.g.did v1.fst.aL v1.fst.cp v1.fst.U v1.fst.now))
 ((len aH+len (v1.snd::[]))*8<=140737488355328 /\
 rec vn (cf (W (F+1)) (cat aH (v1.snd::[])) cN c0 c5 dq dt dH dI dr dD dx ea dW eb ek fj)))
 (J (au ae 0)
 (List.length ao<=140737488355328 /\
 J aC
 (v3=true /\
 K (.one (ay v4)) [])
 (K fi []))
 (K fi []))):=by subst_vars;kernel_rfl

theorem Z6(v:hq)(x:rh):(kj v x).2=(fh v x).2:=by
 unfold kj;split
 ·rename_i h;exact h.symm
 ·rfl
theorem Z5{v:hq}{x:rh}(h:(fh v x).2=0):(kj v x).1=(fh v x).1:=by
 unfold kj;rw[if_pos h]
theorem VH:∀(l:List rh) (v:hq),(kN v l).2.length=l.length
 |[],_=>rfl
 |x::l,v=>by simp only[kN,List.length_cons,VH l]
theorem JE(ax:List rh)(Qr:ax.length<=160)(said:aJ)(Q2:said.length<=160)(y:hq)(K:aW)(D:K (.one (ay true)) []):∀(d k:Nat) (acc:aJ) (v:hq),k+d=ax.length->acc.length<=k->p1 v=true->acc++(kN v (ax.drop k)).2=said->(kN v (ax.drop k)).1=y ->
  cl Bs tab Tryz.f3 0 K (d+1) vn (Ld (k:Int) (((len ax):Nat):Int) ax 0 said false acc y.b y.s y.g.f.words y.g.f.fuel y.g.up y.g.t.r.version y.g.t.r.keys y.g.t.r.ej y.g.t.version y.g.cF y.g.did y.aL y.cp y.U y.now v.b v.s v.g.f.words v.g.f.fuel v.g.up v.g.t.r.version v.g.t.r.keys v.g.t.r.ej v.g.t.version v.g.cF v.g.did v.aL v.cp v.U v.now)
 |0,k,acc,v,ad,bh,aG,I,G=>by
  rw[bW (L:=vn),UY rfl rfl rfl rfl rfl rfl];rw[List.drop_of_length_le (by omega)]at I G;have G:v=y:=G;have I:acc++[]=said:=I;rw[List.append_nil]at I;subst I G;refine co (by simp only[len];omega) (ji rfl ⟨by omega,gb (by simp[gj]) ⟨aiZ aG,?_⟩⟩);rw[show sd _ _=true from VL v];exact D
 |d+1,k,acc,v,ad,bh,aG,I,G=>by
  rw[bW (L:=vn),UY rfl rfl rfl rfl rfl rfl,cM,di (by omega)];rw[ep (l:=ax) (by omega) (z.H z.fc)]at I G;obtain⟨x,abZ⟩:∃x,nth ax k (z.H z.fc)=x:=⟨_,rfl⟩
  rw[abZ]at I G |-;simp only[kN]at I G;have es:=Z6 v x;refine cS (by simp only[len];omega) ⟨⟨by omega,by simp only[len];omega⟩,aG,cz (fun q=>⟨by simp only[len,List.length_cons,List.length_nil];omega,?_⟩) (fun q=>⟨by simp only[len,List.length_cons,List.length_nil];omega,?_⟩)⟩
  ·have q:(kj v x).2=0:=q;have fZ:(fh v x).2=0:=by rw[<- es];exact q
   rw[if_pos fZ]at I G;have lj:=Z5 fZ;exact JE ax Qr said Q2 y K D d (k+1) (acc++[(kj v x).2]) (kj v x).1 (by omega) (by simp;omega) (by rw[lj];exact adi aG fZ) (by rw[lj,es,List.append_assoc];exact I) (by rw[lj];exact G)
  ·have q:¬(kj v x).2=0:=q;have fZ:¬(fh v x).2=0:=by rw[<- es];exact q
   rw[if_neg fZ]at I G;exact JE ax Qr said Q2 y K D d (k+1) (acc++[(kj v x).2]) v (by omega) (by simp;omega) aG (by rw[es,List.append_assoc];exact I) G
theorem agq(ag:kt ⟨aM,vs,⟨⟨ws,fu⟩,up,⟨⟨ak,ah,aj⟩,ai⟩,Y,aa⟩,us,cs,U,now⟩=true)(K:aW)(D:K (.one (ay true)) []):∃m,cl Bs tab Tryz.f3 0 K m [.code (bF Tryz.f3)] (df [.agg (en aM vs ws fu up ak ah aj ai Y aa (.E (z.list z.aT) us) (.E (z.list z.aU) cs) (bB U) now),.one (.E (.list .fc) ax)] []):=by
 have aQ:=W5 (A2.1 ag);have T:∀r:hq×List Int×Int,r.1=iI->r.2.1=[]->J (au (((len r.2.1):Nat):Int) 0) ((qa r.1=true)/\K (.one (ay (sd r.1 iI))) []) (K (.one (ay false)) []):=fun r I G=>by
  rw[I,G,VL];exact ji rfl ⟨ai0,D⟩
 by_cases c:mV (⟨aM,vs,⟨⟨ws,fu⟩,up,⟨⟨ak,ah,aj⟩,ai⟩,Y,aa⟩,us,cs,U,now⟩:hq)=0
 ·by_cases bb:160<ax.length
  ·have e:p7 (⟨aM,vs,⟨⟨ws,fu⟩,up,⟨⟨ak,ah,aj⟩,ai⟩,Y,aa⟩,us,cs,U,now⟩:hq) ax=(iI,[],2):=by unfold p7;rw[if_pos c,if_pos bb]
   refine⟨1,?_⟩;rw[eO,Le _ _ _ _ _ _ _ _ _ _ _ _ _ _ _ _ _ _ _ rfl _ rfl _ rfl _ rfl _ rfl _ rfl _ rfl,e];exact⟨aQ,ji c (cS (by simp only[len];omega) (ji rfl (T (iI,[],2) rfl rfl)))⟩
  ·have e:p7 (⟨aM,vs,⟨⟨ws,fu⟩,up,⟨⟨ak,ah,aj⟩,ai⟩,Y,aa⟩,us,cs,U,now⟩:hq) ax=((kN (⟨aM,vs,⟨⟨ws,fu⟩,up,⟨⟨ak,ah,aj⟩,ai⟩,Y,aa⟩,us,cs,U,now⟩:hq) ax).1,(kN (⟨aM,vs,⟨⟨ws,fu⟩,up,⟨⟨ak,ah,aj⟩,ai⟩,Y,aa⟩,us,cs,U,now⟩:hq) ax).2,0):=by unfold p7;rw[if_pos c,if_neg bb]
   refine⟨ax.length+2,?_⟩;rw[eO,Le _ _ _ _ _ _ _ _ _ _ _ _ _ _ _ _ _ _ _ rfl _ rfl _ rfl _ rfl _ rfl _ rfl _ rfl,e];exact⟨aQ,ji c (co (by simp only[len];omega) (u5 c (JE ax (by omega) _ (by rw[VH];omega) _ K D ax.length 0 [] (⟨aM,vs,⟨⟨ws,fu⟩,up,⟨⟨ak,ah,aj⟩,ai⟩,Y,aa⟩,us,cs,U,now⟩:hq) (by omega) (by simp) (adh c) rfl rfl)))⟩
 ·have e:p7 (⟨aM,vs,⟨⟨ws,fu⟩,up,⟨⟨ak,ah,aj⟩,ai⟩,Y,aa⟩,us,cs,U,now⟩:hq) ax=(iI,[],mV (⟨aM,vs,⟨⟨ws,fu⟩,up,⟨⟨ak,ah,aj⟩,ai⟩,Y,aa⟩,us,cs,U,now⟩:hq)):=by unfold p7;rw[if_neg c]
  refine⟨1,?_⟩;rw[eO,Le _ _ _ _ _ _ _ _ _ _ _ _ _ _ _ _ _ _ _ rfl _ rfl _ rfl _ rfl _ rfl _ rfl _ rfl,e];exact⟨aQ,cz (fun h=>absurd h c) (fun _=>bN (fun _=>ji rfl (T (iI,[],mV (⟨aM,vs,⟨⟨ws,fu⟩,up,⟨⟨ak,ah,aj⟩,ai⟩,Y,aa⟩,us,cs,U,now⟩:hq)) rfl rfl)) (fun h=>absurd h c))⟩
theorem air(aM:cB)(vs:cD)(ws:aJ)(fu:Int)(up:Bool)(ak:Int)(ah:aJ)(aj ai:Int)(Y aa:c9)(us:c3)(cs:db)(U:cG)(now:Int)(ax:List rh):jf Tryz.prog tab 3 (Fi [.agg (en aM vs ws fu up ak ah aj ai Y aa (.E (z.list z.aT) us) (.E (z.list z.aU) cs) (bB U) now),.one (.E (.list .fc) ax)] [] (some (kt ⟨aM,vs,⟨⟨ws,fu⟩,up,⟨⟨ak,ah,aj⟩,ai⟩,Y,aa⟩,us,cs,U,now⟩=true)) (.one (ay true)) []):=agQ adD ⟨Tryz.func3,(by kernel_rfl)⟩ (by kernel_rfl) rfl fun ag=>agq _ _ _ _ _ _ _ _ _ _ _ _ _ _ _ _ ag.1 _ ⟨rfl,rfl⟩
end
end Go.Proofs.YtlbppjmekiemiaaGreatDoor
